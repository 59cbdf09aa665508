/- The walk of peep.Once: where what it hands back may be stored into. -/
import Derived.Test.YtmbjogpphegoaaaDoorPx16
import Derived.Test.YtmbjogpphegoaaaDoorQM
import Derived.Test.YtmbjogpphegoaaaDoorVFz
namespace Go.Proofs.YtmbjogpphegoaaaDoor
open Go.RowKit Go.Proofs.YtmbjogpphegoaaaDoorW.PrintWords Go.Proofs.YtmbjogpphegoaaaDoorW.PrintLast Go.Proofs.YtmbjogpphegoaaaDoorW.PrintMore Go.Proofs.YtmbjogpphegoaaaDoor.P Go.Proofs.YtmbjogpphegoaaaDoor.Q
set_option linter.unusedVariables false
set_option linter.unusedSimpArgs false
set_option maxRecDepth 1000000
set_option maxHeartbeats 4000000
theorem hold_ {P : Prop} (h : Aside0 P) : P := h.out
/-- What peep.Once hands back: a struct whose row may be stored into. -/
def OnceP (w : World) (e : Ending) (w' : World) : Prop := ∃ A n c i1 i2 b2 b3, e = .returned (.tuple #[.agg #[.slice A n c, .int .i64 i1, .int .i64 i2, .bool b2], .bool b3]) ∧ n ≤ 9223372036854775807 ∧ Fz w' w.heap.size (.slice A n c) n ∧ Below w.heap.size w w'
theorem once_none (A0 : Option Addr) (c0 : Nat) (l0 : List S35) (a1 : Int) (w : World) (hr0 : Kd.C k35 w A0 l0.length l0) (hc0 : l0.length ≤ c0) (hLd : Laid w) (r : List Int) (k : Nat) (hH : code_Heights.f k l0 a1 = some (r, false)) :
    Calls Tryd.prog 17 #[.slice A0 l0.length c0, .int .i64 a1] w (OnceP w) := by
  have HR := Aside0.mk hr0; have HC := Aside0.mk hc0; have HL := Aside0.mk hLd; have HH := Aside0.mk hH
  clear hr0 hc0 hLd hH
  obtain ⟨G, hG⟩ : ∃ G, G = w.heap.size := ⟨_, rfl⟩
  have HGE := Aside0.mk hG
  go_enter Tryd.func17, Tryd.ntmps17
  go_wp2_with ((with_reducible refine gate_callee (f := 31) rfl ?_); refine goesL_ (some 14) rfl rfl Tryd.func31 (by kernel_rfl) rfl #[.slice A0 l0.length c0, .int .i64 a1] rfl (by (try simp only [List.map_toArray, List.map_cons, List.map_nil]); first | done | rfl) ?_; (with_reducible refine (code_Heights.calls k A0 c0 l0 a1 r false _ (Kd.C_alloc HR.out _) HC.out (HL.out.below (below_alloc (Below.refl w.heap.size w) _)) HH.out).mono ?_); rintro e w1 ⟨v0, rfl, hr, hb⟩; obtain ⟨vA, vC, rfl⟩ := Kd.R_slice hr; have B1 := (hb.block w.heap.size (by simp)).trans (blk_new w (.cells #[.slice none 0 0, .int .i64 0, .int .i64 0, .bool false] 35)); have HB := Aside0.mk ((below_alloc (Below.refl w.heap.size w) (.cells #[.slice none 0 0, .int .i64 0, .int .i64 0, .bool false] 35)).trans (hb.mono (by simp))); obtain ⟨x0, x1, x2, x3, y0, y1, y2, y3⟩ := bc4 B1; rw [← HGE.out] at B1; have HB1 := Aside0.mk B1; clear hr hb B1; refine ⟨_, rfl, ?_⟩)
  obtain ⟨w2, hw2⟩ : ∃ w2, w2 = ((((w1.setCell ⟨w.heap.size, 0, none⟩ (.slice none 0 0)).setCell ⟨w.heap.size, 1, none⟩ (.int .i64 0)).setCell ⟨w.heap.size, 2, none⟩ (.int .i64 0)).setCell ⟨w.heap.size, 3, none⟩ (.bool false)) := ⟨_, rfl⟩
  rw [← hw2]
  have B2 : w2.heap[w.heap.size]? = some (.cells #[.slice none 0 0, .int .i64 0, .int .i64 0, .bool false] 35 (0, 0)) := by
    have h := HB1.out
    rw [HGE.out] at h
    rw [hw2]
    exact blk_set (blk_set (blk_set (blk_set h 0 _) 1 _) 2 _) 3 _
  have HB2 : Aside0 (Below w.heap.size w w2) := ⟨by rw [hw2]; exact below_set (below_set (below_set (below_set HB.out (Nat.le_refl _)) (Nat.le_refl _)) (Nat.le_refl _)) (Nat.le_refl _)⟩
  obtain ⟨u0, u1, u2, u3, v0, v1, v2, v3⟩ := bc4 B2
  clear hw2
  refine bodyPost_ret (v := .tuple #[.agg #[.slice none 0 0, .int .i64 0, .int .i64 0, .bool false], .bool false]) (by simp [results, Tryd.results17, go_sem, u0, u1, u2, u3]) rfl ⟨none, 0, 0, 0, 0, false, false, rfl, Nat.zero_le _, fun h => absurd h (Nat.lt_irrefl _), HB2.out⟩
theorem once_some (A0 : Option Addr) (c0 : Nat) (l0 : List S35) (a1 : Int) (w : World) (hr0 : Kd.C k35 w A0 l0.length l0) (hc0 : l0.length ≤ c0) (hLd : Laid w) (h0 : 0 ≤ a1) (h1 : a1 < (l0.length : Int)) (r : List Int) (k : Nat) (hH : code_Heights.f k l0 a1 = some (r, true)) (k2 : Nat) (r1 : List S40) (r2 : Bool) (hO : peep_once.f k2 (rd_T35 l0 a1).f0 = some (r1, r2)) (hlen : (rd_T35 l0 a1).f0.length * 24 ≤ 140737488351232) :
    Calls Tryd.prog 17 #[.slice A0 l0.length c0, .int .i64 a1] w (OnceP w) := by
  obtain ⟨ad, B0, d0, rfl, hx0, hx1, hx2, hx3, hl0, hi0⟩ := at_T35 hr0 a1 h0 h1
  obtain ⟨y, hy⟩ : ∃ y, y = rd_T35 l0 a1 := ⟨_, rfl⟩
  rw [← hy] at hx0 hx1 hx2 hx3 hl0 hi0 hO hlen
  have HR := Aside0.mk hr0; have HC := Aside0.mk hc0; have HL := Aside0.mk hLd; have HH := Aside0.mk hH; have HO := Aside0.mk hO; have HI := Aside0.mk hi0; have HLN := Aside0.mk hlen
  have HX := Aside0.mk (And.intro hx0 (And.intro hx1 (And.intro hx2 hx3)))
  have p1 := eq_true h0; have p2 := eq_true h1
  clear hr0 hc0 hLd hH hy hO hi0 hx0 hx1 hx2 hx3 hl0 hlen h0 h1
  obtain ⟨G, hG⟩ : ∃ G, G = w.heap.size := ⟨_, rfl⟩
  have HGE := Aside0.mk hG
  clear hG
  go_enter Tryd.func17, Tryd.ntmps17
  go_wp2_with (first
    | ((with_reducible refine gate_callee (f := 31) rfl ?_); refine goesL_ (some 14) rfl rfl Tryd.func31 (by kernel_rfl) rfl #[.slice (some ad) l0.length c0, .int .i64 a1] rfl (by (try simp only [List.map_toArray, List.map_cons, List.map_nil]); first | done | rfl) ?_; (with_reducible refine (code_Heights.calls k (some ad) c0 l0 a1 r true _ (Kd.C_alloc HR.out _) HC.out (HL.out.below (below_alloc (Below.refl w.heap.size w) _)) HH.out).mono ?_); rintro e w1 ⟨v0, rfl, hr, hb⟩; obtain ⟨vA, vC, rfl⟩ := Kd.R_slice hr; have B1 := (hb.block w.heap.size (by simp)).trans (blk_new w (.cells #[.slice none 0 0, .int .i64 0, .int .i64 0, .bool false] 35)); have HB := Aside0.mk ((below_alloc (Below.refl w.heap.size w) (.cells #[.slice none 0 0, .int .i64 0, .int .i64 0, .bool false] 35)).trans (hb.mono (by simp))); have z0 := pw_cell_below HB.out HX.out.1; have z1 := pw_cell_below HB.out HX.out.2.1; have z2 := pw_cell_below HB.out HX.out.2.2.1; have z3 := pw_cell_below HB.out HX.out.2.2.2; have n1 : w.heap.size ≠ w1.heap.size := Nat.ne_of_lt (blk_lt B1); have n2 := Ne.symm n1; rw [← HGE.out] at B1; have HB1 := Aside0.mk B1; obtain ⟨gb, hgb⟩ : ∃ gb, gb = w1.heap.size := ⟨_, rfl⟩; have HGB := Aside0.mk hgb; clear hr hb B1 hgb; refine ⟨_, rfl, ?_⟩)
    | ((with_reducible refine gate_builtin (b := .append) (xs := #[.const (.slice none 0 0), .tmp 26]) rfl ?_); at_builtin; refine hold_ ?_))
  refine Aside0.mk ?_
  obtain ⟨W, hW⟩ : ∃ W, W = w1.alloc (.cells #[.slice B0 y.f0.length d0, .int .i64 y.f1, .int .i64 y.f2, .bool y.f3] 35) := ⟨_, rfl⟩
  rw [← hW]
  have BG : W.heap[w.heap.size]? = some (.cells #[.slice none 0 0, .int .i64 0, .int .i64 0, .bool false] 35 (0, 0)) := by
    have h := HB1.out
    rw [HGE.out] at h
    rw [hW]
    exact blk_alloc h _
  have BX : W.heap[w1.heap.size]? = some (.cells #[.slice B0 y.f0.length d0, .int .i64 y.f1, .int .i64 y.f2, .bool y.f3] 35 (0, 0)) := by rw [hW]; exact blk_new w1 _
  have HBW : Aside0 (Below w.heap.size w W) := ⟨by rw [hW]; exact below_alloc HB.out _⟩
  have HBG := Aside0.mk BG; have HBX := Aside0.mk BX
  clear hW BG BX
  at_builtin
  refine Kd.R_append_rows k40 (w0 := w) w.heap.size rfl (.const (.slice none 0 0)) (.tmp 26) 33 40 (.agg #[.int .i64 0, .int .i64 0, .int .i64 0]) 24 rfl Tryd.underlying33 info40 rfl (by decide) (by decide) (.slice none 0 0) ([] : List S40) y.f0 _ _ _ (fun k => W.heap.size ≤ k) (fun _ => False) rfl rfl (Kd.R_nil _ _ _ _ _) (Kd.C_below HI.out HBW.out) (fun x cs h => by obtain rfl := k40_open h; exact k40_mkM _ _ _ _) (fun _ h => h.elim) (fun k hk => hk) HBW.out HBW.out.size (by have := HLN.out; simp; omega) ?_
  intro nv w3 ho hb hg hat
  have ho : Kd.R k40 40 w3 w.heap.size (fun k => W.heap.size ≤ k) nv y.f0 := ho
  obtain ⟨nA, nC, rfl⟩ := Kd.R_slice ho
  have BG3 := blk_grown HBG.out hg (by simp [Value.ownBlock])
  have BX3 := blk_grown HBX.out hg (by simp [Value.ownBlock])
  have HBG3 := Aside0.mk BG3; have HBX3 := Aside0.mk BX3; have HN := Aside0.mk ho; have HB3 := Aside0.mk hb
  clear ho hb hg hat BG3 BX3
  go_wp2_with ((with_reducible refine gate_callee (f := 29) rfl ?_); refine goesL_ (some 28) rfl rfl Tryd.func29 (by kernel_rfl) rfl #[.slice nA y.f0.length nC] rfl (by (try simp only [List.map_toArray, List.map_cons, List.map_nil]); first | done | rfl) ?_; (with_reducible refine (peep_once.calls k2 (fun k => W.heap.size ≤ k) nA nC y.f0 r1 r2 w3 (Kd.R_V HN.out) HO.out).mono ?_); rintro e w4 ⟨v0, rfl, ho, hb, hf⟩; obtain ⟨vA, vC, rfl⟩ := Kd.V_slice ho; have HFZ : Aside0 (Fz w4 w.heap.size (.slice vA r1.length vC) r1.length) := ⟨hf w.heap.size HB3.out.size (fz_R HN.out (Nat.le_refl _))⟩; have HVB : Aside0 (r1.length ≤ 9223372036854775807) := ⟨(Kd.V_reads' ho).2.2.2.1⟩; have BG4 := (hb.block _ (blk_lt HBG3.out)).trans HBG3.out; have BX4 := (hb.block _ (blk_lt HBX3.out)).trans HBX3.out; obtain ⟨x0, x1, x2, x3, y0, y1, y2, y3⟩ := bc4 BX4; obtain ⟨u0, u1, u2, u3, v0, v1, v2, v3⟩ := bc4 BG4; have HB4 := Aside0.mk (HB3.out.trans (hb.mono HB3.out.size)); have HBG4 := Aside0.mk BG4; have HBX4 := Aside0.mk BX4; clear ho hb hf BG4 BX4; refine ⟨_, rfl, ?_⟩)
  obtain ⟨w5, hw5⟩ : ∃ w5, w5 = (((((w4.setCell ⟨w1.heap.size, 0, none⟩ (.slice vA r1.length vC)).setCell ⟨w.heap.size, 0, none⟩ (.slice vA r1.length vC)).setCell ⟨w.heap.size, 1, none⟩ (.int .i64 y.f1)).setCell ⟨w.heap.size, 2, none⟩ (.int .i64 y.f2)).setCell ⟨w.heap.size, 3, none⟩ (.bool y.f3)) := ⟨_, rfl⟩
  rw [← hw5]
  have B5 : w5.heap[w.heap.size]? = some (.cells #[.slice vA r1.length vC, .int .i64 y.f1, .int .i64 y.f2, .bool y.f3] 35 (0, 0)) := by
    rw [hw5]
    exact blk_set (blk_set (blk_set (blk_set (blk_far HBG4.out (p := ⟨w1.heap.size, 0, none⟩) n1 _) 0 _) 1 _) 2 _) 3 _
  have HB5 : Aside0 (Below w.heap.size w w5) := ⟨by rw [hw5]; exact below_set (below_set (below_set (below_set (below_set HB4.out HB.out.size) (Nat.le_refl _)) (Nat.le_refl _)) (Nat.le_refl _)) (Nat.le_refl _)⟩
  have HF5 : Aside0 (Fz w5 w.heap.size (.slice vA r1.length vC) r1.length) := ⟨by rw [hw5]; exact fz_set (fz_set (fz_set (fz_set (fz_set HFZ.out))))⟩
  obtain ⟨t0, t1, t2, t3, s0, s1, s2, s3⟩ := bc4 B5
  clear hw5
  refine bodyPost_ret (v := .tuple #[.agg #[.slice vA r1.length vC, .int .i64 y.f1, .int .i64 y.f2, .bool y.f3], .bool r2]) (by simp [results, Tryd.results17, go_sem, t0, t1, t2, t3]) rfl ⟨vA, r1.length, vC, y.f1, y.f2, y.f3, r2, rfl, HVB.out, HF5.out, HB5.out⟩
end Go.Proofs.YtmbjogpphegoaaaDoor
