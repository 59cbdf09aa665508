/- The walk of the law on ownership. -/
import Derived.Test.YtmbjogpphegoaaaDoorVMakeF
import Derived.Test.YtmbjogpphegoaaaDoorPx17
import Derived.Test.YtmbjogpphegoaaaDoorPx24
import Derived.Test.YtmbjogpphegoaaaDoorPx2
namespace Go.Proofs.YtmbjogpphegoaaaDoor
open Go.RowKit Go.Proofs.YtmbjogpphegoaaaDoorW.PrintWords Go.Proofs.YtmbjogpphegoaaaDoorW.PrintLast Go.Proofs.YtmbjogpphegoaaaDoorW.PrintMore Go.Proofs.YtmbjogpphegoaaaDoor.P Go.Proofs.YtmbjogpphegoaaaDoor.Q
set_option linter.unusedVariables false
set_option linter.unusedSimpArgs false
set_option maxRecDepth 1000000
set_option maxHeartbeats 4000000
section
variable (w : World) (A0 : Option Addr) (c0 : Nat) (l : List S35) (main : Int)
theorem own_great (hl : Kd.C k35 w A0 l.length l) (hc : l.length ≤ c0) (kg : Nat) (hg : parallaxlaw10_great.f kg l = some true) (hkn : ∀ W, Below w.heap.size w W → Calls Tryd.prog 9 #[] W fun e w' => e = .returned (.bool true) ∧ Below W.heap.size W w') :
    Calls Tryd.prog 6 #[.slice A0 l.length c0, .int .i64 main] w fun e w' => e = .returned (.bool true) ∧ Below w.heap.size w w' := by
  have HL := Aside0.mk hl; have HC := Aside0.mk hc; have HG := Aside0.mk hg; have HKN := Aside0.mk hkn
  clear hl hc hg hkn
  go_enter Tryd.func6, Tryd.ntmps6
  go_wp2_with (first
    | ((with_reducible refine gate_callee (f := 8) rfl ?_); (try (refine gate_guard (by rfl) ?_; dsimp only)); refine goesL_ (some 17) rfl rfl Tryd.func8 (by kernel_rfl) rfl #[.slice A0 l.length c0] rfl (by (try simp only [List.map_toArray, List.map_cons, List.map_nil]); first | done | rfl) ?_; (with_reducible refine (parallaxlaw10_great.calls kg A0 c0 l true w HL.out HC.out HG.out).mono ?_); rintro e w0 ⟨rfl, nd, rfl⟩; have HB := Aside0.mk (pw_below_drewN (Below.refl w.heap.size w) nd); refine ⟨_, rfl, ?_⟩)
    | ((with_reducible refine gate_callee (f := 9) rfl ?_); (try (refine gate_guard (by rfl) ?_; dsimp only)); refine goesL_ (some 18) rfl rfl Tryd.func9 (by kernel_rfl) rfl #[] rfl (by (try simp only [List.map_toArray, List.map_cons, List.map_nil]); first | done | rfl) ?_; (with_reducible refine (HKN.out _ HB.out).mono ?_); rintro e w9 ⟨rfl, hb⟩; have HZ : Aside0 (Below w.heap.size w w9) := ⟨(HB.out).trans (hb.mono (HB.out).size)⟩; clear hb; refine ⟨_, rfl, ?_⟩))
  go_ret
  exact ⟨rfl, HZ.out⟩
theorem own_goes (hl : Kd.C k35 w A0 l.length l) (hc : l.length ≤ c0) (hln : l.length * 48 ≤ 140737488351232) (hls : ∀ x ∈ l, x.f0.length * 24 ≤ 140737488351232) (kg : Nat) (hg : parallaxlaw10_great.f kg l = some false) (hkn : ∀ W, Below w.heap.size w W → Calls Tryd.prog 9 #[] W fun e w' => e = .returned (.bool true) ∧ Below W.heap.size W w')
    (hmake : ∀ W, Below w.heap.size w W → Calls Tryd.prog 10 #[.slice A0 l.length c0, .int .i64 main] W (MakeP W))
    (honce : ∀ W (x : Nat), x < l.length → Below w.heap.size w W → Calls Tryd.prog 17 #[.slice A0 l.length c0, .int .i64 (x : Int)] W (OnceP W))
    (hsame : ∀ W A c, Below w.heap.size w W → Kd.C k35 W A l.length l → l.length ≤ c → Calls Tryd.prog 12 #[.slice A0 l.length c0, .slice A l.length c] W fun e w' => e = .returned (.bool true) ∧ Drawn0 W w') :
    Calls Tryd.prog 6 #[.slice A0 l.length c0, .int .i64 main] w fun e w' => e = .returned (.bool true) ∧ Below w.heap.size w w' := by
  have HL := Aside0.mk hl; have HC := Aside0.mk hc; have HG := Aside0.mk hg; have HLS := Aside0.mk hls; have HKN := Aside0.mk hkn; have HMK := Aside0.mk hmake; have HON := Aside0.mk honce; have HSM := Aside0.mk hsame
  clear hl hc hg hls hkn hmake honce hsame
  go_enter Tryd.func6, Tryd.ntmps6
  go_wp2_with (((with_reducible refine gate_callee (f := 8) rfl ?_); (try (refine gate_guard (by rfl) ?_; dsimp only)); refine goesL_ (some 17) rfl rfl Tryd.func8 (by kernel_rfl) rfl #[.slice A0 l.length c0] rfl (by (try simp only [List.map_toArray, List.map_cons, List.map_nil]); first | done | rfl) ?_; (with_reducible refine (parallaxlaw10_great.calls kg A0 c0 l false w HL.out HC.out HG.out).mono ?_); rintro e w0 ⟨rfl, nd, rfl⟩; have HB := Aside0.mk (pw_below_drewN (Below.refl w.heap.size w) nd); refine ⟨_, rfl, ?_⟩))
  go_loopg [5, 6] l.length (fun gk v5 v6 W => ∃ (x : Nat) (cA : Option Addr) (cn cC : Nat), v5 = .slice cA cn cC ∧ v6 = .int .i64 (x : Int) ∧ Aside0 (gk + x = l.length) ∧ Aside0 (Kd.R k35 35 W w.heap.size (fun _ => True) (.slice cA cn cC) (l.take x)) ∧ Aside0 (Below w.heap.size w W))
  case atStart => exact ⟨0, none, 0, 0, rfl, rfl, ⟨rfl⟩, ⟨Kd.R_nil _ _ _ _ _⟩, HB⟩
  case round =>
    obtain ⟨x, cA, cn, cC, rfl, rfl, A1, A2_, A5⟩ := hrel
    obtain ⟨T, hT⟩ : ∃ T, T = l.take x := ⟨_, rfl⟩
    rw [← hT] at A2_
    have HT := Aside0.mk hT; clear hT
    by_cases hx : x < l.length
    · obtain ⟨gk, rfl⟩ : ∃ j, gk = j + 1 := ⟨gk - 1, by have := A1.out; omega⟩
      have hxb : (x : Int) ≤ 3000000000000 := by omega
      have g0 : decide (x < l.length) = true := decide_eq_true hx
      obtain ⟨ad, B0, d0, rfl, hx0, hx1, hx2, hx3, hl0, hi0⟩ := at_T35 (Kd.C_below HL.out A5.out) (x : Int) (by omega) (by omega)
      simp only [Int.toNat_natCast] at hx0 hx1 hx2 hx3
      obtain ⟨y, hy⟩ : ∃ y, y = rd_T35 l (x : Int) := ⟨_, rfl⟩
      rw [← hy] at hx0 hx1 hx2 hx3 hl0 hi0
      have HY := Aside0.mk hy; have HI0 := Aside0.mk hi0; have HL0 := Aside0.mk hl0; clear hy hi0 hl0
      have p1 := eq_true (show (0 : Int) ≤ (x : Int) by omega); have p2 := eq_true (show (x : Int) < (l.length : Int) by omega)
      have HYL : Aside0 (y.f0.length * 24 ≤ 140737488351232) := ⟨HLS.out y (by rw [HY.out]; rw [show rd_T35 l (x : Int) = l[x]'hx by simp [rd_T35, List.getD, hx]]; exact List.getElem_mem _)⟩
      obtain ⟨gb, hgb⟩ : ∃ gb, gb = wr.heap.size := ⟨_, rfl⟩
      have HGB := Aside0.mk hgb; clear hgb
      have HX := Aside0.mk hx; clear hx
      go_wp2_with (first | ((with_reducible refine gate_builtin (b := .append) (xs := #[.tmp 34, .tmp 36]) rfl ?_); refine hold_ ?_) | ((with_reducible refine gate_builtin (b := .append) (xs := #[.tmp 29, .tmp 31]) rfl ?_); at_builtin; refine Kd.R_append_rows k40 (w0 := w) w.heap.size rfl (.tmp 29) (.tmp 31) 33 40 (.agg #[.int .i64 0, .int .i64 0, .int .i64 0]) 24 rfl Tryd.underlying33 info40 rfl (by decide) (by decide) (.slice none 0 0) ([] : List S40) y.f0 _ _ _ (fun k => gb ≤ k) (fun _ => False) rfl rfl (Kd.R_nil _ _ _ _ _) (Kd.C_alloc HI0.out _) (fun x cs h => by obtain rfl := k40_open h; exact k40_mkM _ _ _ _) (fun _ h => h.elim) (fun k hk => by have := HGB.out; simp at hk; omega) (below_alloc A5.out _) (below_size (below_alloc A5.out _)) (by have := HYL.out; simp; omega) ?_; intro nv w3 ho hb hg hat; have ho : Kd.R k40 40 w3 w.heap.size (fun k => gb ≤ k) nv y.f0 := ho; obtain ⟨nA, nC, rfl⟩ := Kd.R_slice ho; have B3 : w3.heap[gb]? = some (.cells #[.slice B0 y.f0.length d0, .int .i64 y.f1, .int .i64 y.f2, .bool y.f3] 35 (0, 0)) := by { rw [HGB.out]; exact blk_grown (blk_new wr _) hg (by simp [Value.ownBlock]) }; have b0 : w3.cell? ⟨gb, 0, none⟩ = some (.slice B0 y.f0.length d0) := blk_cell B3 0; have b0f : w3.frozen? ⟨gb, 0, none⟩ = false := blk_frozen B3 0; have b1 : w3.cell? ⟨gb, 1, none⟩ = some (.int .i64 y.f1) := blk_cell B3 1; have b2 : w3.cell? ⟨gb, 2, none⟩ = some (.int .i64 y.f2) := blk_cell B3 2; have b3 : w3.cell? ⟨gb, 3, none⟩ = some (.bool y.f3) := blk_cell B3 3; rw [HGB.out] at b0 b0f b1 b2 b3; have HB3 := Aside0.mk B3; have HN := Aside0.mk ho; have HBE := Aside0.mk hb; have HGR := Aside0.mk hg; clear ho hb hg hat B3))
      refine Aside0.mk ?_
      rw [← HGB.out]
      obtain ⟨w4, hw4⟩ : ∃ w4, w4 = w3.setCell ⟨gb, 0, none⟩ (.slice nA y.f0.length nC) := ⟨_, rfl⟩
      rw [← hw4]
      have B4 : w4.heap[gb]? = some (.cells #[.slice nA y.f0.length nC, .int .i64 y.f1, .int .i64 y.f2, .bool y.f3] 35 (0, 0)) := by rw [hw4]; exact blk_set HB3.out 0 _
      have HGB4 : Aside0 (Below w.heap.size w w4) := ⟨by rw [hw4]; exact below_set HBE.out (by have := HGB.out; have := A5.out.size; omega)⟩
      have HBW := below_alloc (Below.refl wr.heap.size wr) (.cells #[.slice B0 y.f0.length d0, .int .i64 y.f1, .int .i64 y.f2, .bool y.f3] 35)
      have CV4 : Aside0 (Kd.R k35 35 w4 w.heap.size (fun _ => True) (.slice cA cn cC) T) := ⟨by
        rw [hw4]
        refine Kd.R_mono (Kd.R_far (p := ⟨gb, 0, none⟩) (R_grown_ (Kd.R_below (Kd.R_bound A2_.out) HBW) HGR.out (fun k _ => by simp [Value.ownBlock])) (fun k hk => ?_) _) (fun k hk => trivial)
        have := hk.2.2.1; have := HGB.out; show k ≠ gb; omega⟩
      have NW4 : Aside0 (Kd.R k40 40 w4 w.heap.size (fun k => gb ≤ k) (.slice nA y.f0.length nC) y.f0) := ⟨by
        rw [hw4]
        exact R_set_ HN.out HB3.out (by simp [k40, Kd.iso, Kd.pair, Kd.int, Kd.scalar]) 0 _⟩
      have HB4 := Aside0.mk B4; have HW4 := Aside0.mk hw4
      have HOK : Aside0 (∀ k, gb ≤ k → (fun _ => True) k ∧ some k ≠ (Value.slice cA cn cC).ownBlock) := ⟨fun k hk => ⟨trivial, fun e => by have := Kd.R_lt A2_.out k e.symm; have := HGB.out; omega⟩⟩
      have HSZ : Aside0 (gb ≤ w4.heap.size) := ⟨Nat.le_of_lt (blk_lt B4)⟩
      have HTL : Aside0 ((T.length + 1) * 48 ≤ 140737488355328) := ⟨by have h1 : T.length ≤ l.length := by { rw [HT.out, List.length_take]; omega }; omega⟩
      have HS4 : Aside0 (w4.heap.size = w3.heap.size) := ⟨by rw [hw4]; simp⟩
      clear B4 HBW hw4
      at_builtin
      refine Kd.R_append k35 (w0 := w) w.heap.size rfl (.tmp 34) (.tmp 36) 22 35 (.agg #[.slice none 0 0, .int .i64 0, .int .i64 0, .bool false]) 48 rfl Tryd.underlying22 info35 rfl (by decide) (by decide) (.slice cA cn cC) T y [.slice nA y.f0.length nC, .int .i64 y.f1, .int .i64 y.f2, .bool y.f3] (fun _ => True) (fun k => gb ≤ k) rfl (by rw [HS4.out]; rfl) (k35_mkM _ _ _ _ NW4.out) HOK.out (fun k hk => trivial) CV4.out HGB4.out (below_size HGB4.out) HTL.out ?_
      intro v1 w5 ho hb hg hat
      obtain ⟨vA, vn, vC, rfl⟩ : ∃ A n c, v1 = .slice A n c := (by obtain ⟨A, c, e⟩ := Kd.R_slice ho; exact ⟨_, _, _, e⟩)
      have HB5 := Aside0.mk hb; have HO5 := Aside0.mk ho
      clear ho hb hg hat
      go_wp2
      go_roundg gk
      case measure => omega
      case rel =>
          have hx := HX.out
          have ht : l.take (x + 1) = T ++ [y] := by
            rw [HT.out, HY.out, List.take_succ_eq_append_getElem hx]
            simp [rd_T35, List.getD, hx]
          exact ⟨x + 1, vA, vn, vC, rfl, by go_num, ⟨by have := A1.out; omega⟩, ⟨by rw [ht]; exact HO5.out⟩, HB5⟩
    · have g0 : decide (x < l.length) = false := decide_eq_false hx
      obtain rfl : T = l := by rw [HT.out]; exact List.take_of_length_le (by omega)
      obtain ⟨hcn, hcc, hcr⟩ := Kd.R_reads' A2_.out
      subst hcn
      clear hx hcc hcr
      obtain ⟨WA, rfl⟩ : ∃ W, W = wr := ⟨_, rfl⟩
      go_wp2_with (((with_reducible refine gate_callee (f := 10) rfl ?_); (try (refine gate_guard (by rfl) ?_; dsimp only)); refine goesL_ (some 41) rfl rfl Tryd.func10 (by kernel_rfl) rfl #[.slice A0 T.length c0, .int .i64 main] rfl (by (try simp only [List.map_toArray, List.map_cons, List.map_nil]); first | done | rfl) ?_; (with_reducible refine (HMK.out _ A5.out).mono ?_); rintro e w1 ⟨mA, mC, er, vs, rfl, hof, hb⟩; have HOF := Aside0.mk hof; have HBM := Aside0.mk hb; clear hof hb; refine ⟨_, rfl, ?_⟩))
      go_loopg [11] T.length (fun gk v11 W => ∃ x : Nat, v11 = .int .i64 (x : Int) ∧ Aside0 (gk + x = T.length) ∧ Aside0 (OutF W WA.heap.size (.slice mA vs.length mC) vs) ∧ Aside0 (Below WA.heap.size WA W))
      case atStart => exact ⟨0, rfl, ⟨rfl⟩, HOF, HBM⟩
      case round =>
        obtain ⟨x, rfl, L1, L2, L3⟩ := hrel
        by_cases hx : x < T.length
        · obtain ⟨gB, rfl⟩ : ∃ j, gk = j + 1 := ⟨gk - 1, by have := L1.out; omega⟩
          have g3 : decide (x < T.length) = true := decide_eq_true hx
          have hxb : (x : Int) ≤ 3000000000000 := by omega
          have HON2 := Aside0.mk (HON.out wr x hx (A5.out.trans (L3.out.mono A5.out.size)))
          obtain ⟨W1, rfl⟩ : ∃ W, W = wr := ⟨_, rfl⟩
          clear hx
          go_wp2_with (((with_reducible refine gate_callee (f := 17) rfl ?_); (try (refine gate_guard (by rfl) ?_; dsimp only)); refine goesL_ (some 53) rfl rfl Tryd.func17 (by kernel_rfl) rfl #[.slice A0 T.length c0, .int .i64 (x : Int)] rfl (by (try simp only [List.map_toArray, List.map_cons, List.map_nil]); first | done | rfl) ?_; (with_reducible refine (HON2.out).mono ?_); rintro e w2 ⟨oA, on, oC, i1, i2, b2, b3, rfl, hn, hfz, hb⟩; have HN := Aside0.mk hn; have HFZ := Aside0.mk hfz; have HB2 := Aside0.mk hb; clear hn hfz hb; refine ⟨_, rfl, ?_⟩))
          obtain ⟨W3, hW3⟩ : ∃ W3, W3 = w2.alloc (.cells #[.slice oA on oC, .int .i64 i1, .int .i64 i2, .bool b2] 35) := ⟨_, rfl⟩
          rw [← hW3]
          have BX3 : W3.heap[w2.heap.size]? = some (.cells #[.slice oA on oC, .int .i64 i1, .int .i64 i2, .bool b2] 35 (0, 0)) := by rw [hW3]; exact blk_new w2 _
          have HFZ3 : Aside0 (Fz W3 W1.heap.size (.slice oA on oC) on) := ⟨by rw [hW3]; exact fz_on HFZ.out (below_alloc (Below.refl _ _) _)⟩
          have HNE : Aside0 (∀ g o, oA = some ⟨g, o, none⟩ → 0 < on → g ≠ w2.heap.size) := ⟨fun g o e hp => by
            obtain ⟨g', o', c, cs, t, e2, _, hh, _⟩ := HFZ.out hp
            obtain ⟨e3, -, -⟩ := Value.slice.inj e2
            rw [e] at e3
            obtain rfl : g = g' := by injection e3 with e4; injection e4
            exact Nat.ne_of_lt (blk_lt hh)⟩
          have HB13 : Aside0 (Below W1.heap.size W1 W3) := ⟨by rw [hW3]; exact below_alloc HB2.out _⟩
          have HO3 := Aside0.mk (L2.out.below HB13.out)
          have HLT : Aside0 (∀ k, (Value.slice mA vs.length mC).ownBlock = some k → k < W1.heap.size) := ⟨fun k e => L2.out.lt k e⟩
          have HB3 := Aside0.mk (L3.out.trans (HB13.out.mono L3.out.size))
          have HWS : Aside0 (WA.heap.size ≤ W1.heap.size) := ⟨L3.out.size⟩
          have HBX3 := Aside0.mk BX3
          clear hW3 BX3
          go_wp2
          go_loopg [14] on (fun gk v14 W => ∃ z : Nat, v14 = .int .i64 (z : Int) ∧ Aside0 (gk + z = on) ∧ Aside0 (Fz W W1.heap.size (.slice oA on oC) on) ∧ Aside0 (W.heap[w2.heap.size]? = some (.cells #[.slice oA on oC, .int .i64 i1, .int .i64 i2, .bool b2] 35 (0, 0))) ∧ Aside0 (OutF W WA.heap.size (.slice mA vs.length mC) vs) ∧ Aside0 (Below WA.heap.size WA W))
          case atStart => exact ⟨0, rfl, ⟨rfl⟩, HFZ3, HBX3, HO3, HB3⟩
          case round =>
            obtain ⟨z, rfl, N1, N2, N3, N4, N5⟩ := hrel
            have x0 : wr.cell? ⟨w2.heap.size, 0, none⟩ = some (.slice oA on oC) := blk_cell N3.out 0
            by_cases hz : z < on
            · obtain ⟨gC, rfl⟩ : ∃ j, gk = j + 1 := ⟨gk - 1, by have := N1.out; omega⟩
              have g4 : decide (z < on) = true := decide_eq_true hz
              have hzb : (z : Int) ≤ 9223372036854775806 := by have := HN.out; omega
              obtain ⟨g, o, c, cs, t, e, hg, hh, hs⟩ := N2.out (by omega)
              obtain ⟨hA, -, -⟩ := Value.slice.inj e
              have hgne : g ≠ w2.heap.size := HNE.out g o hA (by omega)
              have hv : (Value.slice mA vs.length mC).ownBlock ≠ some g := fun e => by have := HLT.out g e; omega
              obtain ⟨bd, hbd⟩ : ∃ bd : Addr, bd = ⟨g, o, none⟩ := ⟨_, rfl⟩
              rw [← hbd] at hA
              subst hA
              have p3 := eq_true (show (0 : Int) ≤ (z : Int) by omega); have p4 := eq_true (show (z : Int) < (on : Int) by omega)
              have ha : bd.add (z * 3) = ⟨g, o + z * 3, none⟩ := by rw [hbd, add_at]
              have k1 := blk_set hh (o + z * 3) (.int .i64 1)
              have k2 := blk_set k1 (o + z * 3 + 1) (.int .i64 9)
              obtain ⟨o0, b0⟩ : ∃ u, wr.cell? (bd.add (z * 3)) = some u := ⟨_, by rw [ha, blk_cell hh]; exact Array.getElem?_eq_getElem (by omega)⟩
              have f0 : wr.frozen? (bd.add (z * 3)) = false := by rw [ha]; exact blk_frozen hh _
              obtain ⟨o3, b3_⟩ : ∃ u, (wr.setCell (bd.add (z * 3)) (.int .i64 1)).cell? ⟨(bd.add (z * 3)).block, (bd.add (z * 3)).off + 1, none⟩ = some u := ⟨_, by rw [ha, blk_cell k1]; exact Array.getElem?_eq_getElem (by rw [Array.size_setIfInBounds]; show o + z * 3 + 1 < _; omega)⟩
              have f3 : (wr.setCell (bd.add (z * 3)) (.int .i64 1)).frozen? ⟨(bd.add (z * 3)).block, (bd.add (z * 3)).off + 1, none⟩ = false := by rw [ha]; exact blk_frozen k1 _
              obtain ⟨o4, b4⟩ : ∃ u, ((wr.setCell (bd.add (z * 3)) (.int .i64 1)).setCell ⟨(bd.add (z * 3)).block, (bd.add (z * 3)).off + 1, none⟩ (.int .i64 9)).cell? ⟨(bd.add (z * 3)).block, (bd.add (z * 3)).off + 2, none⟩ = some u := ⟨_, by rw [ha, blk_cell k2]; exact Array.getElem?_eq_getElem (by rw [Array.size_setIfInBounds, Array.size_setIfInBounds]; show o + z * 3 + 2 < _; omega)⟩
              have f4 : ((wr.setCell (bd.add (z * 3)) (.int .i64 1)).setCell ⟨(bd.add (z * 3)).block, (bd.add (z * 3)).off + 1, none⟩ (.int .i64 9)).frozen? ⟨(bd.add (z * 3)).block, (bd.add (z * 3)).off + 2, none⟩ = false := by rw [ha]; exact blk_frozen k2 _
              have HHH := Aside0.mk (And.intro ha (And.intro hh (And.intro hgne (And.intro hv hg))))
              clear hbd ha e hg hh hs hz k1 k2 hgne hv
              go_wp2
              go_roundg gC
              case measure => omega
              case rel =>
                obtain ⟨ha, hh, hgne, hv, hg⟩ := HHH.out
                rw [ha]
                have hws := HWS.out
                exact ⟨z + 1, by go_num, ⟨by have := N1.out; omega⟩, ⟨fz_set (fz_set (fz_set N2.out))⟩, ⟨blk_far (blk_far (blk_far N3.out (p := ⟨g, _, none⟩) (Ne.symm hgne) _) (p := ⟨g, _, none⟩) (Ne.symm hgne) _) (p := ⟨g, _, none⟩) (Ne.symm hgne) _⟩, ⟨N4.out.three hh hv⟩, ⟨below_set (below_set (below_set N5.out (Nat.le_trans hws hg)) (Nat.le_trans hws hg)) (Nat.le_trans hws hg)⟩⟩
            · have g4 : decide (z < on) = false := decide_eq_false hz
              clear hz
              by_cases hx : x < vs.length
              · have g8 : decide (x < vs.length) = true := decide_eq_true hx
                obtain ⟨t, ht⟩ : ∃ t, vs[x]? = some t := ⟨_, List.getElem?_eq_getElem hx⟩
                obtain ⟨A', n', c', ht1, hn', _⟩ := N4.out.2 t (List.mem_of_getElem? ht)
                obtain ⟨ad, hmA, _⟩ := N4.out.cell ht
                subst hmA
                have p1 := eq_true (show (0 : Int) ≤ (x : Int) by omega); have p2 := eq_true (show (x : Int) < (vs.length : Int) by omega)
                have HT2 := Aside0.mk ht; have HT1 := Aside0.mk ht1; have HN' := Aside0.mk hn'
                clear ht ht1 hn' hx
                go_wp2
                go_loopg [15] n' (fun gk v15 W => ∃ z : Nat, v15 = .int .i64 (z : Int) ∧ Aside0 (gk + z = n') ∧ Aside0 (OutF W WA.heap.size (.slice (some ad) vs.length mC) vs) ∧ Aside0 (Below WA.heap.size WA W))
                case atStart => exact ⟨0, rfl, ⟨rfl⟩, N4, N5⟩
                case round =>
                  obtain ⟨z, rfl, M1, M4, M5⟩ := hrel
                  have q0 : wr.cell? (ad.add (x * 4)) = some (.slice A' n' c') := by
                    obtain ⟨ad2, e1, e2⟩ := M4.out.cell HT2.out
                    cases e1
                    rw [← HT1.out]; exact e2
                  by_cases hz : z < n'
                  · obtain ⟨gC, rfl⟩ : ∃ j, gk = j + 1 := ⟨gk - 1, by have := M1.out; omega⟩
                    have g9 : decide (z < n') = true := decide_eq_true hz
                    have hzb : (z : Int) ≤ 9223372036854775806 := by have := HN'.out; omega
                    obtain ⟨A2, n2, c2, e0, _, hfz⟩ := M4.out.2 t (List.mem_of_getElem? HT2.out)
                    rw [HT1.out] at e0
                    obtain ⟨rfl, rfl, rfl⟩ := Value.slice.inj e0
                    obtain ⟨g, o, cs, tt, hA, hg, hv0, hh, hs⟩ := hfz (by omega)
                    have hv : (Value.slice (some ad) vs.length mC).ownBlock ≠ some g := fun e => hv0 e.symm
                    obtain ⟨bd, hbd⟩ : ∃ bd : Addr, bd = ⟨g, o, none⟩ := ⟨_, rfl⟩
                    rw [← hbd] at hA
                    subst hA
                    have p3 := eq_true (show (0 : Int) ≤ (z : Int) by omega); have p4 := eq_true (show (z : Int) < (n' : Int) by omega)
                    have ha : bd.add (z * 3) = ⟨g, o + z * 3, none⟩ := by rw [hbd, add_at]
                    have k1 := blk_set hh (o + z * 3) (.int .i64 1)
                    have k2 := blk_set k1 (o + z * 3 + 1) (.int .i64 8)
                    obtain ⟨o0, b0⟩ : ∃ u, wr.cell? (bd.add (z * 3)) = some u := ⟨_, by rw [ha, blk_cell hh]; exact Array.getElem?_eq_getElem (by omega)⟩
                    have f0 : wr.frozen? (bd.add (z * 3)) = false := by rw [ha]; exact blk_frozen hh _
                    obtain ⟨o3, b3_⟩ : ∃ u, (wr.setCell (bd.add (z * 3)) (.int .i64 1)).cell? ⟨(bd.add (z * 3)).block, (bd.add (z * 3)).off + 1, none⟩ = some u := ⟨_, by rw [ha, blk_cell k1]; exact Array.getElem?_eq_getElem (by rw [Array.size_setIfInBounds]; show o + z * 3 + 1 < _; omega)⟩
                    have f3 : (wr.setCell (bd.add (z * 3)) (.int .i64 1)).frozen? ⟨(bd.add (z * 3)).block, (bd.add (z * 3)).off + 1, none⟩ = false := by rw [ha]; exact blk_frozen k1 _
                    obtain ⟨o4, b4⟩ : ∃ u, ((wr.setCell (bd.add (z * 3)) (.int .i64 1)).setCell ⟨(bd.add (z * 3)).block, (bd.add (z * 3)).off + 1, none⟩ (.int .i64 8)).cell? ⟨(bd.add (z * 3)).block, (bd.add (z * 3)).off + 2, none⟩ = some u := ⟨_, by rw [ha, blk_cell k2]; exact Array.getElem?_eq_getElem (by rw [Array.size_setIfInBounds, Array.size_setIfInBounds]; show o + z * 3 + 2 < _; omega)⟩
                    have f4 : ((wr.setCell (bd.add (z * 3)) (.int .i64 1)).setCell ⟨(bd.add (z * 3)).block, (bd.add (z * 3)).off + 1, none⟩ (.int .i64 8)).frozen? ⟨(bd.add (z * 3)).block, (bd.add (z * 3)).off + 2, none⟩ = false := by rw [ha]; exact blk_frozen k2 _
                    have HHH := Aside0.mk (And.intro ha (And.intro hh (And.intro hv hg)))
                    clear hbd ha e0 hg hh hs hz k1 k2 hv hv0 hfz
                    go_wp2
                    go_roundg gC
                    case measure => omega
                    case rel =>
                      obtain ⟨ha, hh, hv, hg⟩ := HHH.out
                      rw [ha]
                      exact ⟨z + 1, by go_num, ⟨by have := M1.out; omega⟩, ⟨M4.out.three hh hv⟩, ⟨below_set (below_set (below_set M5.out hg) hg) hg⟩⟩
                  · have g9 : decide (z < n') = false := decide_eq_false hz
                    clear hz
                    go_wp2
                    go_roundg gB
                    case measure => omega
                    case rel => exact ⟨x + 1, by go_num, ⟨by have := L1.out; omega⟩, M4, M5⟩
              · have g8 : decide (x < vs.length) = false := decide_eq_false hx
                clear hx
                go_wp2
                go_roundg gB
                case measure => omega
                case rel => exact ⟨x + 1, by go_num, ⟨by have := L1.out; omega⟩, N4, N5⟩
        · have g3 : decide (x < T.length) = false := decide_eq_false hx
          have HBF : Aside0 (Below w.heap.size w wr) := ⟨A5.out.trans (L3.out.mono A5.out.size)⟩
          have HWAS := Aside0.mk (Kd.R_reads' (Kd.R_below A2_.out L3.out))
          clear hx
          go_wp2_with (first
            | ((with_reducible refine gate_callee (f := 12) rfl ?_); (try (refine gate_guard (by rfl) ?_; dsimp only)); refine goesL_ (some 92) rfl rfl Tryd.func12 (by kernel_rfl) rfl #[.slice A0 T.length c0, .slice cA T.length cC] rfl (by (try simp only [List.map_toArray, List.map_cons, List.map_nil]); first | done | rfl) ?_; (with_reducible refine (HSM.out _ cA cC HBF.out HWAS.out.2.2 HWAS.out.2.1).mono ?_); rintro e w2 ⟨rfl, nd2, rfl⟩; have HBF2 := Aside0.mk (pw_below_drewN HBF.out nd2); refine ⟨_, rfl, ?_⟩)
            | ((with_reducible refine gate_callee (f := 9) rfl ?_); (try (refine gate_guard (by rfl) ?_; dsimp only)); refine goesL_ (some 94) rfl rfl Tryd.func9 (by kernel_rfl) rfl #[] rfl (by (try simp only [List.map_toArray, List.map_cons, List.map_nil]); first | done | rfl) ?_; (with_reducible refine (HKN.out _ HBF2.out).mono ?_); rintro e w9 ⟨rfl, hb⟩; have HZ : Aside0 (Below w.heap.size w w9) := ⟨(HBF2.out).trans (hb.mono (HBF2.out).size)⟩; clear hb; refine ⟨_, rfl, ?_⟩))
          go_ret
          exact ⟨rfl, HZ.out⟩
end
end Go.Proofs.YtmbjogpphegoaaaDoor
