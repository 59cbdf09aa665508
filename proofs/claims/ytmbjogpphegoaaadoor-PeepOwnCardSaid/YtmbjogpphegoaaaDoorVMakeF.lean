/- The walk of peep.Make: where what it hands back may be stored into. -/
import Derived.Test.YtmbjogpphegoaaaDoorVOnce
namespace Go.Proofs.YtmbjogpphegoaaaDoor
open Go.RowKit Go.Proofs.YtmbjogpphegoaaaDoorW.PrintWords Go.Proofs.YtmbjogpphegoaaaDoorW.PrintLast Go.Proofs.YtmbjogpphegoaaaDoorW.PrintMore Go.Proofs.YtmbjogpphegoaaaDoor.P Go.Proofs.YtmbjogpphegoaaaDoor.Q
set_option linter.unusedVariables false
set_option linter.unusedSimpArgs false
set_option maxRecDepth 1000000
set_option maxHeartbeats 4000000
def MakeP (w : World) (e : Ending) (w' : World) : Prop := ∃ A c er vs, e = .returned (.tuple #[.slice A vs.length c, .int .i64 er]) ∧ OutF w' w.heap.size (.slice A vs.length c) vs ∧ Below w.heap.size w w'
theorem make_none (k : Nat) (A0 : Option Addr) (c0 : Nat) (l0 : List S35) (a1 : Int) (w : World) (hr0 : Kd.C k35 w A0 l0.length l0) (hc0 : l0.length ≤ c0) (hLd : Laid w) (h : code_Sound.f k l0 a1 = some false) :
    Calls Tryd.prog 10 #[.slice A0 l0.length c0, .int .i64 a1] w (MakeP w) := by
  have HR := Aside0.mk hr0; have HC := Aside0.mk hc0; have HL := Aside0.mk hLd; have HH := Aside0.mk h
  clear hr0 hc0 hLd h
  go_enter Tryd.func10, Tryd.ntmps10
  go_wp2_with ((with_reducible refine gate_callee (f := 14) rfl ?_); refine goesL_ (some 13) rfl rfl Tryd.func14 (by kernel_rfl) rfl #[.slice A0 l0.length c0, .int .i64 a1] rfl (by (try simp only [List.map_toArray, List.map_cons, List.map_nil]); first | done | rfl) ?_; (with_reducible refine (code_Sound.calls k A0 c0 l0 a1 false w HR.out HC.out HL.out HH.out).mono ?_); rintro e w5 ⟨rfl, hb⟩; have HB := Aside0.mk hb; clear hb; refine ⟨_, rfl, ?_⟩)
  go_ret2
  exact ⟨none, 0, 60, [], rfl, ⟨⟨rfl, .inl ⟨rfl, rfl⟩⟩, fun t ht => by cases ht⟩, HB.out⟩
theorem make_some (k : Nat) (A0 : Option Addr) (c0 : Nat) (l0 : List S35) (a1 : Int) (r1 : List S35) (r2 : Int) (w : World) (hr0 : Kd.C k35 w A0 l0.length l0) (hc0 : l0.length ≤ c0) (hLd : Laid w) (h : code_Sound.f k l0 a1 = some true) (hm : peep_Make.l0 k ([] : List S35) l0 (l0.length : Int) 0 = some (r1, r2)) (hln : ∀ x ∈ l0, x.f0.length * 24 ≤ 140737488351232) (hl48 : l0.length * 48 ≤ 140737488351232) :
    Calls Tryd.prog 10 #[.slice A0 l0.length c0, .int .i64 a1] w (MakeP w) := by
  have HR := Aside0.mk hr0; have HC := Aside0.mk hc0; have HL := Aside0.mk hLd; have HH := Aside0.mk h; have H' := Aside0.mk hm; have HLN := Aside0.mk hln
  clear hr0 hc0 hLd h hm hln
  go_enter Tryd.func10, Tryd.ntmps10
  go_wp2_with ((with_reducible refine gate_callee (f := 14) rfl ?_); refine goesL_ (some 13) rfl rfl Tryd.func14 (by kernel_rfl) rfl #[.slice A0 l0.length c0, .int .i64 a1] rfl (by (try simp only [List.map_toArray, List.map_cons, List.map_nil]); first | done | rfl) ?_; (with_reducible refine (code_Sound.calls k A0 c0 l0 a1 true w HR.out HC.out HL.out HH.out).mono ?_); rintro e w5 ⟨rfl, hb⟩; have HB := Aside0.mk hb; clear hb; refine ⟨_, rfl, ?_⟩)
  go_loopg [6, 17] k (fun kq v6 v17 W => ∃ (x6 : List S35) (x : Int) (oA : Option Addr) (oC : Nat) (vs : List (Value × Int × Int × Bool)), v6 = .slice oA vs.length oC ∧ v17 = .int .i64 x ∧ Aside0 (peep_Make.l0 kq x6 l0 (l0.length : Int) x = some (r1, r2)) ∧ Aside0 (kq ≤ k) ∧ Aside0 (vs.length = x6.length) ∧ Aside0 (OutF W w.heap.size (.slice oA vs.length oC) vs) ∧ Aside0 (Below w.heap.size w W))
  case atStart => exact ⟨[], 0, none, 0, [], rfl, rfl, H', ⟨Nat.le_refl _⟩, ⟨rfl⟩, ⟨⟨⟨rfl, .inl ⟨rfl, rfl⟩⟩, fun t ht => by cases ht⟩⟩, HB⟩
  case round =>
    clear H'
    obtain ⟨x6, x, oA, oC, vs, rfl, rfl, HA, HK1, HVL, HOF, HB⟩ := hrel
    cases gk with
    | zero => exact absurd HA.out (by simp [peep_Make.l0])
    | succ k1 =>
      have H := HA.out; clear HA; simp only [peep_Make.l0] at H
      by_cases c6 : x < (l0.length : Int)
      · rw [if_pos c6] at H; have c6b0 := decide_eq_true c6
        replace H := it (c := 0 ≤ x) H; obtain ⟨c7, H⟩ := H
        replace H := it (c := x < (l0.length : Int)) H; obtain ⟨c8, H⟩ := H
        replace H := it H; obtain ⟨c9, H⟩ := H
        obtain ⟨ad, B0, d0, rfl, hx0, hx1, hx2, hx3, hl0, hi0⟩ := at_T35 HR.out x c7 c6
        obtain ⟨y, hy⟩ : ∃ y, y = rd_T35 l0 x := ⟨_, rfl⟩
        rw [← hy] at hx0 hx1 hx2 hx3 hl0 hi0 H
        have HYL : Aside0 (y.f0.length * 24 ≤ 140737488351232) := ⟨HLN.out y (by rw [hy]; unfold rd_T35; rw [List.getD_eq_getElem?_getD, List.getElem?_eq_getElem (by omega)]; exact List.getElem_mem _)⟩
        replace hx0 := pw_cell_below HB.out hx0; replace hx1 := pw_cell_below HB.out hx1; replace hx2 := pw_cell_below HB.out hx2; replace hx3 := pw_cell_below HB.out hx3
        have H' : Aside0 (peep_Make.l1 k1 x6 y.f0 true l0 (l0.length : Int) x y.f0 y.f1 y.f2 y.f3 = some (r1, r2)) := ⟨by rw [List.nil_append] at H; exact H⟩
        have HI := Aside0.mk hi0
        have p1 := eq_true c7; have p2 := eq_true c6
        obtain ⟨wO, rfl⟩ : ∃ W, W = wr := ⟨_, rfl⟩
        clear H hl0 hi0 c6 c7 c8 c9 hy
        go_wp2_with ((with_reducible refine gate_builtin (b := .append) (xs := #[.const (.slice none 0 0), .tmp 22]) rfl ?_); at_builtin; refine hold_ ?_)
        refine Aside0.mk ?_
        obtain ⟨W0, hW0⟩ : ∃ W, W = wO.alloc (.cells #[.slice B0 y.f0.length d0, .int .i64 y.f1, .int .i64 y.f2, .bool y.f3] 35) := ⟨_, rfl⟩
        rw [← hW0]
        have BX0 : W0.heap[wO.heap.size]? = some (.cells #[.slice B0 y.f0.length d0, .int .i64 y.f1, .int .i64 y.f2, .bool y.f3] 35 (0, 0)) := by rw [hW0]; exact blk_new wO _
        have HBO0 : Aside0 (Below wO.heap.size wO W0) := ⟨by rw [hW0]; exact below_alloc (Below.refl _ _) _⟩
        have HBX0 := Aside0.mk BX0
        clear hW0 BX0
        at_builtin
        refine Kd.R_append_rows k40 (w0 := wO) wO.heap.size rfl (.const (.slice none 0 0)) (.tmp 22) 33 40 (.agg #[.int .i64 0, .int .i64 0, .int .i64 0]) 24 rfl Tryd.underlying33 info40 rfl (by decide) (by decide) (.slice none 0 0) ([] : List S40) y.f0 _ _ _ (fun _ => True) (fun _ => False) rfl rfl (Kd.R_nil _ _ _ _ _) (Kd.C_below HI.out (HB.out.trans (HBO0.out.mono HB.out.size))) (fun x cs h => by obtain rfl := k40_open h; exact k40_mkM _ _ _ _) (fun _ h => h.elim) (fun k hk => trivial) HBO0.out HBO0.out.size (by have := HYL.out; simp; omega) ?_
        intro nv w3 ho hb hg hat
        have ho : Kd.R k40 40 w3 wO.heap.size (fun _ => True) nv y.f0 := ho
        obtain ⟨nA, nC, rfl⟩ := Kd.R_slice ho
        have HBX3 : Aside0 (w3.heap[wO.heap.size]? = some (.cells #[.slice B0 y.f0.length d0, .int .i64 y.f1, .int .i64 y.f2, .bool y.f3] 35 (0, 0))) := ⟨blk_grown HBX0.out hg (by simp [Value.ownBlock])⟩
        have HVI : Aside0 (Kd.V k40 40 w3 0 (fun _ => True) (.slice nA y.f0.length nC) y.f0) := ⟨Kd.R_V ho⟩
        have HFI : Aside0 (Fz w3 wO.heap.size (.slice nA y.f0.length nC) y.f0.length) := ⟨fz_R ho (Nat.le_refl _)⟩
        have HB3 := Aside0.mk hb
        clear ho hb hg hat
        go_wp2
        go_loopg [9, 10] k1 (fun kq v9 v10 W => ∃ (x9 : List S40) (x10 : Bool) (iA : Option Addr) (iC : Nat), v9 = .slice iA x9.length iC ∧ v10 = .bool x10 ∧ Aside0 (peep_Make.l1 kq x6 x9 x10 l0 (l0.length : Int) x y.f0 y.f1 y.f2 y.f3 = some (r1, r2)) ∧ Aside0 (kq ≤ k1) ∧ Aside0 (Kd.V k40 40 W 0 (fun _ => True) (.slice iA x9.length iC) x9) ∧ Aside0 (Fz W wO.heap.size (.slice iA x9.length iC) x9.length) ∧ Aside0 (W.heap[wO.heap.size]? = some (.cells #[.slice B0 y.f0.length d0, .int .i64 y.f1, .int .i64 y.f2, .bool y.f3] 35 (0, 0))) ∧ Aside0 (Below wO.heap.size wO W))
        case atStart => exact ⟨y.f0, true, nA, nC, rfl, rfl, H', ⟨Nat.le_refl _⟩, HVI, HFI, HBX3, HB3⟩
        case round =>
          clear H'
          obtain ⟨x9, x10, iA, iC, rfl, rfl, HA, HK2, HV, HF, HX, HBW⟩ := hrel
          cases gk with
          | zero => exact absurd HA.out (by simp [peep_Make.l1])
          | succ k2 =>
            have H := HA.out; clear HA; simp only [peep_Make.l1] at H
            cases x10 with
            | true =>
              rw [if_pos rfl] at H
              replace H := ob H
              obtain ⟨⟨t1, t2⟩, HO, H⟩ := H
              have H' := Aside0.mk H; clear H
              have HVW : Aside0 (Kd.V k40 40 wr wr.heap.size (fun k_ => (fun _ => True) k_) (.slice iA x9.length iC) x9) := ⟨HV.out⟩
              go_wp2_with ((with_reducible refine gate_callee (f := 29) rfl ?_); refine goesL_ (some 27) rfl rfl Tryd.func29 (by kernel_rfl) rfl #[.slice iA x9.length iC] rfl (by (try simp only [List.map_toArray, List.map_cons, List.map_nil]); first | done | rfl) ?_; (with_reducible refine (peep_once.calls k2 (fun _ => True) iA iC x9 t1 t2 wr HVW.out HO.out).mono ?_); rintro e w4 ⟨v0, rfl, ho, hb, hf⟩; obtain ⟨vA, vC, rfl⟩ := Kd.V_slice ho; have HV4 : Aside0 (Kd.V k40 40 w4 0 (fun _ => True) (.slice vA t1.length vC) t1) := ⟨Kd.V_mono ho (fun _ _ => trivial)⟩; have HF4 : Aside0 (Fz w4 wO.heap.size (.slice vA t1.length vC) t1.length) := ⟨hf wO.heap.size HBW.out.size HF.out⟩; have HX4 : Aside0 (w4.heap[wO.heap.size]? = some (.cells #[.slice B0 y.f0.length d0, .int .i64 y.f1, .int .i64 y.f2, .bool y.f3] 35 (0, 0))) := ⟨(hb.block _ (blk_lt HX.out)).trans HX.out⟩; have HB4 := Aside0.mk (HBW.out.trans (hb.mono HBW.out.size)); clear ho hb hf; refine ⟨_, rfl, ?_⟩)
              go_roundg k2
              case measure => have := HK1.out; have := HK2.out; omega
              case rel => exact ⟨t1, t2, vA, vC, rfl, rfl, H', ⟨by have := HK2.out; omega⟩, HV4, HF4, HX4, HB4⟩
            | false =>
              rw [if_neg (by decide)] at H
              replace H := it H
              obtain ⟨c17, H⟩ := H
              have H' := Aside0.mk H; clear H
              obtain ⟨z0, z1, z2, z3, e0, e1, e2, e3⟩ := bc4 HX.out
              have HC17 := Aside0.mk c17; clear c17
              go_wp2_with ((with_reducible refine gate_builtin (b := .append) (xs := #[.tmp 32, .tmp 34]) rfl ?_); at_builtin; refine hold_ ?_)
              refine Aside0.mk ?_
              obtain ⟨WA, hWA⟩ : ∃ WA, WA = wr.setCell ⟨wO.heap.size, 0, none⟩ (.slice iA x9.length iC) := ⟨_, rfl⟩
              have HSA : Aside0 (WA.heap.size = wr.heap.size) := ⟨by rw [hWA]; simp⟩
              have HBA : Aside0 (Below wO.heap.size wO WA) := ⟨by rw [hWA]; exact below_set HBW.out (Nat.le_refl _)⟩
              have HOA : Aside0 (OutF WA w.heap.size (.slice oA vs.length oC) vs) := ⟨by
                rw [hWA]
                exact (HOF.out.below HBW.out).far HX.out (fun e => by have := HOF.out.lt _ e; omega)⟩
              have HIA : Aside0 (InnerF WA w.heap.size (Value.slice oA vs.length oC).ownBlock (.slice iA x9.length iC)) := ⟨by
                rw [hWA]
                exact innerF_of (fz_set HF.out) (Kd.V_reads' HV.out).2.2.2.1 HB.out.size (fun k e => HOF.out.lt k e)⟩
              have HVL2 : Aside0 ((vs.length + 1) * 48 ≤ 140737488355328) := ⟨by rw [HVL.out]; have := HC17.out; omega⟩
              rw [← hWA]
              clear hWA
              at_builtin
              refine print_append_cells (w0 := w) w.heap.size rfl (.tmp 32) (.tmp 34) 22 35 (.agg #[.slice none 0 0, .int .i64 0, .int .i64 0, .bool false]) 4 48 rfl Tryd.underlying22 info35 rfl (by decide) (by decide) (.slice oA vs.length oC) vs.length (codeCells vs) [.slice iA x9.length iC, .int .i64 y.f1, .int .i64 y.f2, .bool y.f3] rfl (by rw [HSA.out]; rfl) rfl (by intro u hu; simp at hu; rcases hu with rfl | rfl | rfl | rfl <;> rfl) HOA.out.1 (HB.out.trans (HBA.out.mono HB.out.size)) (Nat.le_trans HB.out.size HBA.out.size) HVL2.out ?_
              intro v1 w7 hown hb hg hat
              obtain ⟨vA, vC, rfl⟩ : ∃ A c, v1 = .slice A (vs.length + 1) c := by
                rcases hown.2 with ⟨_, h⟩ | ⟨g1, cap1, _, h, _⟩
                · omega
                · exact ⟨_, _, h⟩
              have HO7 := Aside0.mk (HOA.out.add HIA.out hown hg hat); have HB7 := Aside0.mk hb
              clear hown hb hg hat
              go_wp2
              go_roundg k2
              case measure => have := HK1.out; have := HK2.out; omega
              case rel =>
                refine ⟨x6 ++ [⟨x9, y.f1, y.f2, y.f3⟩], wrap64 (x + 1), vA, vC, vs ++ [(.slice iA x9.length iC, y.f1, y.f2, y.f3)], by rw [List.length_append]; rfl, by first | rfl | (simp [i64_w]), H', ⟨by have := HK1.out; have := HK2.out; omega⟩, ⟨by rw [List.length_append, List.length_append, HVL.out]; rfl⟩, ⟨?_⟩, HB7⟩
                rw [show (vs ++ [((.slice iA x9.length iC : Value), y.f1, y.f2, y.f3)]).length = vs.length + 1 by rw [List.length_append]; rfl]
                exact HO7.out
      · rw [if_neg c6] at H; have c6b0 := decide_eq_false c6
        obtain ⟨rfl, rfl⟩ : x6 = r1 ∧ 0 = r2 := by simpa using H
        clear H c6
        go_wp2
        go_ret2
        exact ⟨oA, oC, 0, vs, rfl, HOF.out, HB.out⟩
end Go.Proofs.YtmbjogpphegoaaaDoor
