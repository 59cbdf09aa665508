import Derived.Test.YthckiolgpgplpaaDoorPx0
namespace Go.Proofs.YthckiolgpgplpaaDoor.YD
set_option maxHeartbeats 8000000
set_option maxRecDepth 100000
open Go.RowKit YC YA YB
attribute [local go_sem] eF eD fD fE dS dU eG eO
set_option linter.unusedVariables false
set_option linter.unusedSimpArgs false
def bG.j0 : Nat → Int → Bool → Option (Int)
 | 0, _, _ => none
 | k + 1, x3, x4 => if x4 = true then (some 2) else (if x3 = 1 then (some 1) else (if x3 = 2 then (some 1) else (if x3 = 3 then (some 1) else (if x3 = 17 then (some 1) else (if x3 = 18 then (some 1) else (if x3 = 20 then (some 1) else (some 0)))))))
def bG.f (k : Nat) (a0 : Int) : Option (Int) := if a0 = 4 then (bG.j0 k a0 (a0 == 4)) else (if a0 = 5 then (bG.j0 k a0 (a0 == 5)) else (if a0 = 6 then (bG.j0 k a0 (a0 == 6)) else (if a0 = 19 then (bG.j0 k a0 (a0 == 19)) else (bG.j0 k a0 (a0 == 24)))))
theorem bG.fP : ∀ k, (∀ y0 y1, LeO (bG.j0 k y0 y1) (bG.j0 (k + 1) y0 y1))
 | 0 => fun _ _ r h => by simp [bG.j0] at h
 | k + 1 => by
  have ih0 := bG.fP k
  ·intro y0 y1
   unfold bG.j0
   repeat' (with_reducible first | apply ih0 | exact LeO.refl _ | exact LeO.none _ | refine LeO.ite ?_ ?_ | refine LeO.bind ?_ (fun _ => ?_))
theorem bG.mono : ∀ a0 k, LeO (bG.f k a0) (bG.f (k + 1) a0) := by
 intro a0 k
 have ih0 := bG.fP k
 unfold bG.f
 repeat' (with_reducible first | apply ih0 | exact LeO.refl _ | exact LeO.none _ | refine LeO.ite ?_ ?_ | refine LeO.bind ?_ (fun _ => ?_))
theorem bG.calls (k : Nat) (a0 : Int) (r : Int) (w : World) (h : bG.f k a0 = some r) :
  Calls Tryd.prog 89 #[.int .i64 a0] w fun e w' => e = .returned (.int .i64 r) ∧ aG w w' := by
 have H : (if a0 = 4 then (bG.j0 k a0 (a0 == 4)) else (if a0 = 5 then (bG.j0 k a0 (a0 == 5)) else (if a0 = 6 then (bG.j0 k a0 (a0 == 6)) else (if a0 = 19 then (bG.j0 k a0 (a0 == 19)) else (bG.j0 k a0 (a0 == 24)))))) = some r := h; clear h; have HC2 := aa.mk H; clear H; go_enter Tryd.func89, Tryd.ntmps89
 go_upto_if 4 with (fail)
 go_cut [4] (fun v4 wc => ∃ (kq : Nat) (x4_1 : Bool), v4 = .bool x4_1 ∧ aa (bG.j0 kq a0 x4_1 = some r) ∧ aa (kq ≤ k) ∧ aG w wc)
 case first =>
  have H := HC2.out; clear HC2
  by_cases c3 : a0 = 4
  ·rw [if_pos c3] at H; obtain ⟨c3b0, c3b1⟩ := eqs c3; clear c3; (first | rw [c3b0] | (simp only [dI, dK]; rw [c3b0]) | skip); have H' := aa.mk H; clear H; go_wp2; go_meet
   case rel => exact ⟨_, ((a0 == 4)), pr, H', ⟨by first | omega | exact Zd _⟩, by repeat (first | exact aG.refl _ | apply aG.step)⟩
  ·rw [if_neg c3] at H; obtain ⟨c3b0, c3b1⟩ := eqf c3; (first | rw [c3b0] | (simp only [dI, dK]; rw [c3b0]) | skip)
   by_cases c4 : a0 = 5
   ·rw [if_pos c4] at H; obtain ⟨c4b0, c4b1⟩ := eqs c4; clear c4; have H' := aa.mk H; clear H; go_wp2; go_meet
    case rel => exact ⟨_, ((a0 == 5)), pr, H', ⟨by first | omega | exact Zd _⟩, by repeat (first | exact aG.refl _ | apply aG.step)⟩
   ·rw [if_neg c4] at H; obtain ⟨c4b0, c4b1⟩ := eqf c4
    by_cases c5 : a0 = 6
    ·rw [if_pos c5] at H; obtain ⟨c5b0, c5b1⟩ := eqs c5; clear c5; have H' := aa.mk H; clear H; go_wp2; go_meet
     case rel => exact ⟨_, ((a0 == 6)), pr, H', ⟨by first | omega | exact Zd _⟩, by repeat (first | exact aG.refl _ | apply aG.step)⟩
    ·rw [if_neg c5] at H; obtain ⟨c5b0, c5b1⟩ := eqf c5
     by_cases c6 : a0 = 19
     ·rw [if_pos c6] at H; obtain ⟨c6b0, c6b1⟩ := eqs c6; clear c6; have H' := aa.mk H; clear H; go_wp2; go_meet
      case rel => exact ⟨_, ((a0 == 19)), pr, H', ⟨by first | omega | exact Zd _⟩, by repeat (first | exact aG.refl _ | apply aG.step)⟩
     ·rw [if_neg c6] at H; obtain ⟨c6b0, c6b1⟩ := eqf c6; have H' := aa.mk H; clear H; go_wp2; go_meet
      case rel => exact ⟨_, ((a0 == 24)), pr, H', ⟨by first | omega | exact Zd _⟩, by repeat (first | exact aG.refl _ | apply aG.step)⟩
 case rest =>
  clear HC2; obtain ⟨kq, x4_1, rfl, HA, HJ1, ⟨mc1, rfl⟩⟩ := hcut
  cases kq with
  | zero => exact absurd HA.out (by simp [bG.j0])
  | succ kj1 =>
   have H := HA.out; clear HA; simp only [bG.j0] at H
   by_cases c7 : x4_1 = true
   ·subst c7; rw [if_pos rfl] at H; obtain rfl := Zg H; go_wp2; go_ret; exact ⟨by first | rfl | (simp; done) | (simp [*]; done), by repeat (first | exact aG.refl _ | apply aG.step)⟩
   ·replace c7 := Zj c7; subst c7; rw [if_neg (show ¬ (false = true) by decide)] at H
    by_cases c8 : a0 = 1
    ·rw [if_pos c8] at H; obtain ⟨c8b0, c8b1⟩ := eqs c8; clear c8; obtain rfl := Zg H; go_wp2; go_ret; exact ⟨by first | rfl | (simp; done) | (simp [*]; done), by repeat (first | exact aG.refl _ | apply aG.step)⟩
    ·rw [if_neg c8] at H; obtain ⟨c8b0, c8b1⟩ := eqf c8
     by_cases c9 : a0 = 2
     ·rw [if_pos c9] at H; obtain ⟨c9b0, c9b1⟩ := eqs c9; clear c9; obtain rfl := Zg H; go_wp2; go_ret; exact ⟨by first | rfl | (simp; done) | (simp [*]; done), by repeat (first | exact aG.refl _ | apply aG.step)⟩
     ·rw [if_neg c9] at H; obtain ⟨c9b0, c9b1⟩ := eqf c9
      by_cases c10 : a0 = 3
      ·rw [if_pos c10] at H; obtain ⟨c10b0, c10b1⟩ := eqs c10; clear c10; obtain rfl := Zg H; go_wp2; go_ret; exact ⟨by first | rfl | (simp; done) | (simp [*]; done), by repeat (first | exact aG.refl _ | apply aG.step)⟩
      ·rw [if_neg c10] at H; obtain ⟨c10b0, c10b1⟩ := eqf c10
       by_cases c11 : a0 = 17
       ·rw [if_pos c11] at H; obtain ⟨c11b0, c11b1⟩ := eqs c11; clear c11; obtain rfl := Zg H; go_wp2; go_ret; exact ⟨by first | rfl | (simp; done) | (simp [*]; done), by repeat (first | exact aG.refl _ | apply aG.step)⟩
       ·rw [if_neg c11] at H; obtain ⟨c11b0, c11b1⟩ := eqf c11
        by_cases c12 : a0 = 18
        ·rw [if_pos c12] at H; obtain ⟨c12b0, c12b1⟩ := eqs c12; clear c12; obtain rfl := Zg H; go_wp2; go_ret; exact ⟨by first | rfl | (simp; done) | (simp [*]; done), by repeat (first | exact aG.refl _ | apply aG.step)⟩
        ·rw [if_neg c12] at H; obtain ⟨c12b0, c12b1⟩ := eqf c12
         by_cases c13 : a0 = 20
         ·rw [if_pos c13] at H; obtain ⟨c13b0, c13b1⟩ := eqs c13; clear c13; obtain rfl := Zg H; go_wp2; go_ret; exact ⟨by first | rfl | (simp; done) | (simp [*]; done), by repeat (first | exact aG.refl _ | apply aG.step)⟩
         ·rw [if_neg c13] at H; obtain ⟨c13b0, c13b1⟩ := eqf c13; obtain rfl := Zg H; go_wp2; go_ret; exact ⟨by first | rfl | (simp; done) | (simp [*]; done), by repeat (first | exact aG.refl _ | apply aG.step)⟩
def aV.digs : Nat → Int → List Int → List Int
  | 0, _, acc => acc
  | k + 1, u, acc => if u / 10 = 0 then (48 + u % 10) :: acc else aV.digs k (u / 10) ((48 + u % 10) :: acc)
def aV.abs (a : Int) : Int := if a < 0 then -a else a
def aV.f (a0 : Int) : Option (ByteArray) := if -9223372036854775808 ≤ a0 then (if a0 ≤ 9223372036854775807 then (if a0 < 0 then some (strOfNums (45 :: aV.digs 20 (aV.abs a0) [])) else some (strOfNums (aV.digs 20 (aV.abs a0) []))) else none) else none
theorem aV.kU (k : Nat) (u : Int) (acc : List Int) : aV.digs (k + 1) u acc = if u / 10 = 0 then (48 + u % 10) :: acc else aV.digs k (u / 10) ((48 + u % 10) :: acc) := rfl
/-- What holds at the head of the loop: m cells are left (and one); the digits so far lie behind them. -/
def aV.Rel (w wr : World) (D : List Int) (m : Nat) (x : Int) : Prop := 1 ≤ m ∧ m ≤ 19 ∧ 0 ≤ x ∧ x ≤ 9223372036854775808 ∧ x < 10 ^ m ∧ ∃ zs : List Int, zs.length = 20 ∧ wr.heap[w.heap.size]? = some (.cells (nums .u8 zs).toArray 133 (0, 0)) ∧ aV.digs (m + 1) x (zs.drop (m + 1)) = D ∧ Below w.heap.size w wr
theorem aV.start (w : World) (a : Int) (h1 : -9223372036854775808 ≤ a) (h2 : a ≤ 9223372036854775807) : aV.Rel w (w.alloc (.cells (nums .u8 (List.replicate 20 0)).toArray 133)) (aV.digs 20 (aV.abs a) []) 19 (aV.abs a) := by
  refine ⟨by omega, by omega, by unfold aV.abs; split <;> omega, by unfold aV.abs; split <;> omega, by unfold aV.abs; split <;> omega, List.replicate 20 0, by simp, ?_, by simp, ?_⟩
  · simpa using heap_alloc_new w _
  · exact (Below.refl _ _).alloc (Zd _) _
/-- A digit more is laid. -/
theorem aV.lay {w wr : World} {zs : List Int} (hz : zs.length = 20) (hb : wr.heap[w.heap.size]? = some (.cells (nums .u8 zs).toArray 133 (0, 0))) (hB : Below w.heap.size w wr) (m : Nat) (hm : m ≤ 19) (d : Int) :
    (zs.set m d).length = 20 ∧ (wr.setCell ⟨w.heap.size, m, none⟩ (.int .u8 d)).heap[w.heap.size]? = some (.cells (nums .u8 (zs.set m d)).toArray 133 (0, 0)) ∧ Below w.heap.size w (wr.setCell ⟨w.heap.size, m, none⟩ (.int .u8 d)) ∧ (zs.set m d).drop m = d :: zs.drop (m + 1) := by
  refine ⟨by simpa using hz, ?_, hB.setCell (Zd _) _, ?_⟩
  · rw [dH hb]
    simp [nums, List.map_set]
  · rw [List.drop_set, if_neg (by omega), Nat.sub_self, List.drop_eq_getElem_cons (show m < zs.length by omega)]
    rfl
/-- The round's end: a digit is laid, and there are more. -/
theorem aV.more {w wr : World} {D : List Int} {m : Nat} {x : Int} (h : aV.Rel w wr D m x) (hq : x / 10 ≠ 0) : 2 ≤ m ∧ aV.Rel w (wr.setCell ⟨w.heap.size, m, none⟩ (.int .u8 (48 + x % 10))) D (m - 1) (x / 10) := by
  obtain ⟨hm1, hm2, hx1, hx3, hx2, zs, hz, hb, hd, hB⟩ := h
  obtain ⟨l1, l2, l3, l4⟩ := aV.lay hz hb hB m (by omega) (48 + x % 10)
  have h2 : 2 ≤ m := by
    rcases Nat.lt_or_ge 1 m with h | h
    · omega
    · obtain rfl : m = 1 := by omega
      simp at hx2
      omega
  obtain ⟨j, rfl⟩ : ∃ j, m = j + 1 := ⟨m - 1, by omega⟩
  refine ⟨h2, by omega, by omega, by omega, by omega, ?_, _, l1, l2, ?_, l3⟩
  · rw [show (10 : Int) ^ (j + 1) = 10 ^ j * 10 from Int.pow_succ ..] at hx2
    simp only [Nat.add_sub_cancel]
    omega
  · rw [aV.kU, if_neg hq] at hd
    rw [Nat.add_sub_cancel, l4]
    exact hd
/-- The loop's end. -/
theorem aV.last {w wr : World} {D : List Int} {m : Nat} {x : Int} (h : aV.Rel w wr D m x) (hq : x / 10 = 0) : ∃ zs : List Int, zs.length = 20 ∧ (wr.setCell ⟨w.heap.size, m, none⟩ (.int .u8 (48 + x % 10))).heap[w.heap.size]? = some (.cells (nums .u8 zs).toArray 133 (0, 0)) ∧ zs.drop m = D ∧ Below w.heap.size w (wr.setCell ⟨w.heap.size, m, none⟩ (.int .u8 (48 + x % 10))) := by
  obtain ⟨hm1, hm2, hx1, hx3, hx2, zs, hz, hb, hd, hB⟩ := h
  obtain ⟨l1, l2, l3, l4⟩ := aV.lay hz hb hB m (by omega) (48 + x % 10)
  refine ⟨_, l1, l2, ?_, l3⟩
  rw [aV.kU, if_pos hq] at hd
  rw [l4]
  exact hd
theorem aV.conv {W : World} {zs : List Int} {g : Nat} (hz : zs.length = 20) (hb : W.heap[g]? = some (.cells (nums .u8 zs).toArray 133 (0, 0))) (m : Nat) (hm : m ≤ 19) :
    (convert 134 9 (.slice (some ⟨g, m, none⟩) (20 - m) (20 - m))).run Tryd.prog W = .ok (.string (strOfNums (zs.drop m))) W := by
  refine string_of_reads Tryd.underlying134 Tryd.underlying5 Tryd.underlying9 ⟨by simp [hz], by omega, fun _ => ⟨⟨g, m, none⟩, rfl, fun j hj => ?_⟩⟩
  have e : (⟨g, m, none⟩ : Addr).add j = ⟨g, m + j, none⟩ := by unfold Addr.add; split <;> simp_all
  rw [e, ae hb]
  simp [nums, List.getD, Zi (show m + j < zs.length by omega)]
theorem aV.calls (a0 : Int) (r : ByteArray) (w : World) (h : aV.f a0 = some r) :
    Calls Tryd.prog 90 #[.int .i64 a0] w fun e w' => e = .returned (.string r) ∧ Below w.heap.size w w' := by
  unfold aV.f at h
  split at h
  case isFalse => cases h
  rename_i h1
  split at h
  case isFalse => cases h
  rename_i h2
  have hst := aa.mk (aV.start w a0 h1 h2); have hlen : Tryd.prog.arrayLen 133 = 20 := by kernel_rfl
  have hel : Tryd.prog.elem 133 = 5 := by kernel_rfl
  have hun : Tryd.prog.underlying 133 = some (.array (Tryd.prog.arrayLen 133) (Tryd.prog.elem 133)) := by kernel_rfl
  have hsz : ∀ W, (sizeOf (Tryd.prog.elem 133)).run Tryd.prog W = .ok 1 W := fun W => by rw [hel]; rfl
  have hsl : ∀ (W : World) (g m : Nat), m ≤ 19 → (Instr.sliceAt 133 (.pointer (some ⟨g, 0, none⟩)) (some (.int .i64 m)) none none).run Tryd.prog W = .ok (.slice (some ⟨g, m, none⟩) (20 - m) (20 - m)) W := fun W g m hm => by
    rw [run_sliceAt_array_l W 133 ⟨g, 0, none⟩ hun .i64 m (by omega) (by rw [hlen]; omega), hsz]; simp only [Result.andThen, slicedAt, hlen, Int.toNat_natCast, Nat.mul_one, add_plain]; rw [if_neg (by omega)]
  have HSL := aa.mk hsl; clear hlen hel hun hsz hsl
  by_cases hn : a0 < 0
  · rw [if_pos hn] at h
    obtain rfl := Zg h; have hu : IntKind.u64.wrap (-IntKind.u64.wrap a0) = aV.abs a0 := by unfold aV.abs; simp [IntKind.wrap, IntKind.bits, IntKind.signed]; omega
    have HU := aa.mk hu; clear hu; go_enter Tryd.func90, Tryd.ntmps90; go_wp2
    go_loopw [4, 5] (fun k u wr => ∃ (m : Nat) (x : Int), k = .int .i64 ((m : Int) + 1) ∧ u = .int .u64 x ∧ aV.Rel w wr (aV.digs 20 (aV.abs a0) []) m x) (fun k u _ => (intOf k).toNat)
    case atStart => exact ⟨19, _, rfl, by rw [HU.out], hst.out⟩
    case round =>
      obtain ⟨m, x, rfl, rfl, hR⟩ := hrel; have HR := aa.mk hR; obtain ⟨hm1, hm2, hx1, hx3, _, zs, hz, hb, _, _⟩ := hR; have hc := ae hb m; have hf := ai hb m; have hc2 : (nums .u8 zs).toArray[m]? = some (.int .u8 (zs.getD m 0)) := by
        simp [nums, List.getD, Zi (show m < zs.length by omega)]
      rw [hc2] at hc; clear hz hb hc2; have hx10 : IntKind.u64.wrap (x.tdiv 10) = x / 10 := by
        rw [Int.tdiv_eq_ediv_of_nonneg hx1]; simp only [IntKind.wrap, IntKind.bits, IntKind.signed]; simp; omega
      by_cases hq : x / 10 = 0
      · obtain ⟨zs', hz', hb', hd', hB'⟩ := aV.last HR.out hq
        have hq1 : (IntKind.u64.wrap (x.tdiv 10) == 0) = true := by rw [hx10, hq]; rfl
        have hq2 : (x / 10 == 0) = true := by rw [hq]; rfl
        obtain ⟨j, rfl⟩ : ∃ j, m = j + 1 := ⟨m - 1, by omega⟩; have hc' := ae hb' j; have hf' := ai hb' j; have hc2' : (nums .u8 zs').toArray[j]? = some (.int .u8 (zs'.getD j 0)) := by
          simp [nums, List.getD, Zi (show j < zs'.length by omega)]
        rw [hc2'] at hc'; obtain ⟨l1, l2, l3, l4⟩ := aV.lay hz' hb' hB' j (by omega) 45; have hcv := aV.conv l1 l2 j (by omega); rw [l4, hd'] at hcv; have L3 := aa.mk l3; have hsl2 := HSL.out ((wr.setCell ⟨w.heap.size, j + 1, none⟩ (.int .u8 (48 + x % 10))).setCell ⟨w.heap.size, j, none⟩ (.int .u8 45)) w.heap.size j (by omega); clear hx10 hq hz' hb' hd' hB' hc2' l1 l2 l3 l4 HSL; go_wp2; go_ret; exact ⟨rfl, L3.out⟩
      · obtain ⟨m2, HR2⟩ := aV.more HR.out hq
        have HR3 := aa.mk HR2; have hq1 : (IntKind.u64.wrap (x.tdiv 10) == 0) = false := by rw [hx10]; simpa using hq
        have hq2 : (x / 10 == 0) = false := by simpa using hq
        clear HR2 hq; go_wp2
        go_roundw
        case rel => exact ⟨m - 1, x / 10, by go_num, by first | rfl | rw [hx10], HR3.out⟩
        case measure => simp [intOf]; try omega
  · rw [if_neg hn] at h
    obtain rfl := Zg h; have hu : IntKind.u64.wrap a0 = aV.abs a0 := by unfold aV.abs; simp [IntKind.wrap, IntKind.bits, IntKind.signed]; omega
    have HU := aa.mk hu; clear hu; go_enter Tryd.func90, Tryd.ntmps90; go_wp2
    go_loopw [4, 5] (fun k u wr => ∃ (m : Nat) (x : Int), k = .int .i64 ((m : Int) + 1) ∧ u = .int .u64 x ∧ aV.Rel w wr (aV.digs 20 (aV.abs a0) []) m x) (fun k u _ => (intOf k).toNat)
    case atStart => exact ⟨19, _, rfl, by congr 1; unfold aV.abs; rw [if_neg (by omega)], hst.out⟩
    case round =>
      obtain ⟨m, x, rfl, rfl, hR⟩ := hrel; have HR := aa.mk hR; obtain ⟨hm1, hm2, hx1, hx3, _, zs, hz, hb, _, _⟩ := hR; have hc := ae hb m; have hf := ai hb m; have hc2 : (nums .u8 zs).toArray[m]? = some (.int .u8 (zs.getD m 0)) := by
        simp [nums, List.getD, Zi (show m < zs.length by omega)]
      rw [hc2] at hc; clear hz hb hc2; have hx10 : IntKind.u64.wrap (x.tdiv 10) = x / 10 := by
        rw [Int.tdiv_eq_ediv_of_nonneg hx1]; simp only [IntKind.wrap, IntKind.bits, IntKind.signed]; simp; omega
      by_cases hq : x / 10 = 0
      · obtain ⟨zs', hz', hb', hd', hB'⟩ := aV.last HR.out hq
        have hq1 : (IntKind.u64.wrap (x.tdiv 10) == 0) = true := by rw [hx10, hq]; rfl
        have hq2 : (x / 10 == 0) = true := by rw [hq]; rfl
        have hcv := aV.conv hz' hb' m (by omega); rw [hd'] at hcv; have L3 := aa.mk hB'; have hsl2 := HSL.out (wr.setCell ⟨w.heap.size, m, none⟩ (.int .u8 (48 + x % 10))) w.heap.size m (by omega); clear hx10 hq hz' hb' hd' hB' HSL; go_wp2; go_ret; exact ⟨rfl, L3.out⟩
      · obtain ⟨m2, HR2⟩ := aV.more HR.out hq
        have HR3 := aa.mk HR2; have hq1 : (IntKind.u64.wrap (x.tdiv 10) == 0) = false := by rw [hx10]; simpa using hq
        have hq2 : (x / 10 == 0) = false := by simpa using hq
        clear HR2 hq; go_wp2
        go_roundw
        case rel => exact ⟨m - 1, x / 10, by go_num, by first | rfl | rw [hx10], HR3.out⟩
        case measure => simp [intOf]; try omega
def cz.l0 : Nat → List Int → List ByteArray → Int → Int → Option (ByteArray)
 | 0, _, _, _, _ => none
 | k + 1, x3, x6, x7, x8 => if x8 < x7 then (if 0 ≤ x8 then (if x8 < (x6.length : Int) then (if x8 > 0 then (if x3.length < 140737488355328 then ((some (x3 ++ [32] : List Int)).bind fun y102 => (if y102.length + (dN ByteArray.empty x6 x8).size < 140737488355328 then (cz.l0 k (y102 ++ bytesOf (dN ByteArray.empty x6 x8)) x6 x7 (wrap64 (x8 + 1))) else (none))) else (none)) else (if x3.length + (dN ByteArray.empty x6 x8).size < 140737488355328 then (cz.l0 k (x3 ++ bytesOf (dN ByteArray.empty x6 x8)) x6 x7 (wrap64 (x8 + 1))) else (none))) else (none)) else (none)) else (some (strOfNums x3))
def cz.f (k : Nat) (l0 : List ByteArray) : Option (ByteArray) := cz.l0 k ([] : List Int) l0 (l0.length : Int) 0
theorem cz.fP : ∀ k, (∀ y0 y1 y2 y3, LeO (cz.l0 k y0 y1 y2 y3) (cz.l0 (k + 1) y0 y1 y2 y3))
 | 0 => fun _ _ _ _ r h => by simp [cz.l0] at h
 | k + 1 => by
  have ih0 := cz.fP k
  ·intro y0 y1 y2 y3
   unfold cz.l0
   repeat' (with_reducible first | apply ih0 | exact LeO.refl _ | exact LeO.none _ | refine LeO.ite ?_ ?_ | refine LeO.bind ?_ (fun _ => ?_))
theorem cz.mono : ∀ a0 k, LeO (cz.f k a0) (cz.f (k + 1) a0) := by
 intro a0 k
 have ih0 := cz.fP k
 unfold cz.f
 repeat' (with_reducible first | apply ih0 | exact LeO.refl _ | exact LeO.none _ | refine LeO.ite ?_ ?_ | refine LeO.bind ?_ (fun _ => ?_))
theorem cz.calls (k : Nat) (A0 : Option Addr) (c0 : Nat) (l0 : List ByteArray) (r : ByteArray) (w : World) (hr0 : Kd.C Kd.string w A0 l0.length l0) (hc0 : l0.length ≤ c0) (h : cz.f k l0 = some r) :
  Calls Tryd.prog 91 #[.slice A0 l0.length c0] w fun e w' => e = .returned (.string r) ∧ Below w.heap.size w w' := by
 have HR0 := aa.mk hr0; have HC0 := aa.mk hc0; clear hr0 hc0; have HB := aa.mk (Below.refl w.heap.size w); have H : (cz.l0 k ([] : List Int) l0 (l0.length : Int) 0) = some r := h; clear h; have H' := aa.mk H; clear H; go_enter Tryd.func91, Tryd.ntmps91; go_wp2
 go_loopg [3, 8] k (fun kq v3 v8 w' => ∃ (x3_1 : List Int) (x8_1 : Int), v8 = .int .i64 x8_1 ∧ aa (cz.l0 kq x3_1 l0 (l0.length : Int) x8_1 = some r) ∧ aa (kq ≤ k) ∧ aa (Kd.R (Kd.int .u8) 5 w' w.heap.size (fun _ => True) v3 x3_1) ∧ aa (Below w.heap.size w w'))
 case atStart => exact ⟨(([] : List Int)), (0), pr, H', ⟨Zd _⟩, ⟨pn⟩, ⟨bl⟩⟩
 case round =>
  clear H'; obtain ⟨x3_1, x8_1, rfl, HA, HK1, HO_3, HB⟩ := hrel
  cases gk with
  | zero => exact absurd HA.out (by simp [cz.l0])
  | succ k1 =>
   have H := HA.out; clear HA; simp only [cz.l0] at H
   by_cases c2 : x8_1 < (l0.length : Int)
   ·rw [if_pos c2] at H; have c2b0 := Za c2; clear c2
    replace H := it (c := 0 ≤ x8_1) H; obtain ⟨c3, H⟩ := H; have c3b0 := Za c3; clear c3
    replace H := it (c := x8_1 < (l0.length : Int)) H; obtain ⟨c4, H⟩ := H; have c4b0 := Za c4; clear c4; have HH_ := aa.mk H; clear H
    have p101 : 0 ≤ (x8_1 : Int) := Zc pa
    have q101 : x8_1 < (l0.length : Int) := Zc pa
    obtain ⟨ad101, e101, hx101_0⟩ := Kd.at_string HR0.out x8_1 p101 q101
    cases e101
    replace hx101_0 := pc HB.out hx101_0; replace p101 := eq_true p101; replace q101 := eq_true q101; have H := HH_.out; clear HH_
    by_cases c5 : x8_1 > 0
    ·rw [if_pos c5] at H; have c5b0 : decide (0 < x8_1) = true := Za c5; clear c5
     replace H := it (c := x3_1.length < 140737488355328) H; obtain ⟨c6, H⟩ := H; have LMc6 := aa.mk c6; clear c6; obtain ⟨y102, hy102⟩ : ∃ y_ : List Int, y_ = (x3_1 ++ [32]) := ⟨_, rfl⟩; (first | replace H := hs hy102 H | rw [← hy102] at H)
     have Ny102 := aa.mk hy102; clear hy102
     replace H := it (c := y102.length + (dN ByteArray.empty l0 x8_1).size < 140737488355328) H; obtain ⟨c7, H⟩ := H; have LMc7 := aa.mk c7; clear c7; obtain ⟨y105, hy105⟩ : ∃ y_ : List Int, y_ = (y102 ++ bytesOf (dN ByteArray.empty l0 x8_1)) := ⟨_, rfl⟩; (first | replace H := hs hy105 H | rw [← hy105] at H)
     have Ny105 := aa.mk hy105; clear hy105; have H' := aa.mk H; clear H
     go_wp2_with (first | ((with_reducible refine di (b := .append) (xs := #[.tmp 15, .tmp 16]) rfl ?_); at_builtin; refine Kd.fQ (Kd.int .u8) (w0 := w) w.heap.size rfl (.tmp 15) (.tmp 16) 134 5 (.int .u8 0) 1 rfl Tryd.underlying134 info5 rfl (by decide) (by omega) u3 x3_1 32 [.int .u8 32] (fun _ => True) (fun _ => False) rfl rfl ?aP (fun _ hk => hk.elim) ?aF ?aO ?aB ?aS ?aL ?_; (case aP => exact rfl); (case aB => exact bl); (case aF => exact (fun _ _ => trivial)); (case aO => exact (bR HO_3.out)); (case aS => exact (aK bl)); (case aL => have := LMc6.out; omega); intro v103 w8 ho hb hg hat; rw [← Ny102.out] at ho; have n_ := an2 (hb) (ho); clear HB HO_3; obtain ⟨HB, HO104⟩ := n_; clear ho hb hg hat) | (at_builtin; refine jP (w0 := w) w.heap.size rfl (.tmp 18) _ 134 9 5 rfl Tryd.underlying134 Tryd.underlying9 info5 v103 y102 (dN ByteArray.empty l0 x8_1) rfl rfl ?aO ?aB ?aS ?aL ?_; (case aB => exact bl); (case aO => exact (Kd.iM (bR HO104.out))); (case aS => exact (aK bl)); (case aL => have := LMc7.out; omega); intro v106 w9 ho0 hb hg; have ho := Kd.lX (h1 := fun _ => rfl) (ok := fun _ => True) ho0 (fun _ _ => trivial); clear ho0; have hat := True.intro; rw [← Ny105.out] at ho; change Kd.R (Kd.int .u8) 5 w9 w.heap.size (fun _ => True) v106 y105 at ho; have n_ := an2 (hb) (ho); clear HB HO104; obtain ⟨HB, HO107⟩ := n_; clear ho hb hg hat))
     go_roundg k1
     case measure => have := HK1.out; omega
     case rel => exact ⟨(y105), (wrap64 (x8_1 + 1)), pr, H', ⟨by have := HK1.out; omega⟩, ⟨bR HO107.out⟩, ⟨bl⟩⟩
    ·rw [if_neg c5] at H; have c5b0 : decide (0 < x8_1) = false := Zb c5; clear c5
     replace H := it (c := x3_1.length + (dN ByteArray.empty l0 x8_1).size < 140737488355328) H; obtain ⟨c10, H⟩ := H; have LMc10 := aa.mk c10; clear c10; obtain ⟨y108, hy108⟩ : ∃ y_ : List Int, y_ = (x3_1 ++ bytesOf (dN ByteArray.empty l0 x8_1)) := ⟨_, rfl⟩; (first | replace H := hs hy108 H | rw [← hy108] at H)
     have Ny108 := aa.mk hy108; clear hy108; have H' := aa.mk H; clear H
     go_wp2_with (first | (at_builtin; refine jP (w0 := w) w.heap.size rfl (.tmp 18) _ 134 9 5 rfl Tryd.underlying134 Tryd.underlying9 info5 u3 x3_1 (dN ByteArray.empty l0 x8_1) rfl rfl ?aO ?aB ?aS ?aL ?_; (case aB => exact bl); (case aO => exact (Kd.iM (bR HO_3.out))); (case aS => exact (aK bl)); (case aL => have := LMc10.out; omega); intro v109 w11 ho0 hb hg; have ho := Kd.lX (h1 := fun _ => rfl) (ok := fun _ => True) ho0 (fun _ _ => trivial); clear ho0; have hat := True.intro; rw [← Ny108.out] at ho; change Kd.R (Kd.int .u8) 5 w11 w.heap.size (fun _ => True) v109 y108 at ho; have n_ := an2 (hb) (ho); clear HB HO_3; obtain ⟨HB, HO110⟩ := n_; clear ho hb hg hat))
     go_roundg k1
     case measure => have := HK1.out; omega
     case rel => exact ⟨(y108), (wrap64 (x8_1 + 1)), pr, H', ⟨by have := HK1.out; omega⟩, ⟨bR HO110.out⟩, ⟨bl⟩⟩
   ·rw [if_neg c2] at H; have c2b0 := Zb c2; clear c2; obtain rfl := Zg H; have hcv12 := lD (P := Tryd.prog) Tryd.underlying134 Tryd.underlying5 Tryd.underlying9 (Kd.iM HO_3.out); go_wp2; go_ret; exact ⟨pe, bl⟩
/-- What the package's two tables hold. -/
def aT : List ByteArray := [⟨#[]⟩, ⟨#[112, 117, 115, 104]⟩, ⟨#[108, 111, 97, 100]⟩, ⟨#[115, 116, 111, 114, 101]⟩, ⟨#[105, 110, 100, 101, 120]⟩, ⟨#[112, 117, 116]⟩, ⟨#[99, 108, 101, 97, 114]⟩, ⟨#[97, 100, 100]⟩, ⟨#[115, 117, 98]⟩, ⟨#[109, 117, 108]⟩, ⟨#[100, 105, 118]⟩, ⟨#[109, 111, 100]⟩, ⟨#[108, 101, 115, 115]⟩, ⟨#[109, 111, 115, 116]⟩, ⟨#[115, 97, 109, 101]⟩, ⟨#[110, 111, 116]⟩, ⟨#[110, 101, 103]⟩, ⟨#[106, 117, 109, 112]⟩, ⟨#[122, 101, 114, 111]⟩, ⟨#[99, 97, 108, 108]⟩, ⟨#[108, 101, 97, 118, 101]⟩, ⟨#[112, 114, 105, 110, 116]⟩, ⟨#[114, 101, 97, 100]⟩, ⟨#[116, 101, 115, 116]⟩, ⟨#[109, 97, 114, 107]⟩, ⟨#[100, 114, 111, 112]⟩]
def aN : List Int := [0, 0, 0, 1, 0, 1, 1, 0, 1, 1, 2, 0, 0, 0, 2, 1, 2, 1, 2, 1, 2, 1, 2, 1, 2, 1, 2, 1, 2, 1, 1, 1, 1, 1, 0, 0, 1, 0, 0, 0, 0, 0, 1, 0, 0, 1, 1, 0, 0, 0, 1, 0]
/-- The tables lie as the program's text lays them. -/
structure Laid (w : World) : Prop where
  words : ∀ i : Nat, i < 26 → w.cell? ⟨0, i, none⟩ = some (.string (dN ByteArray.empty aT (i : Int)))
  stack : ∀ i : Nat, i < 52 → w.cell? ⟨1, i, none⟩ = some (.int .i64 (rd aN (i : Int)))
theorem Laid.below {w w1 : World} (h : Laid w) (hb : Below w.heap.size w w1) : Laid w1 := ⟨fun i hi => (hb.cell (World.block_lt_of_cell? w _ (h.words i hi))).trans (h.words i hi), fun i hi => (hb.cell (World.block_lt_of_cell? w _ (h.stack i hi))).trans (h.stack i hi)⟩
theorem Laid.bound {w : World} (h : Laid w) {b : Nat} {w1 : World} (hs : b = w.heap.size) (hb : Below b w w1) : Laid w1 := by
  subst hs
  exact h.below hb
def dJ.f (k : Nat) (a0_0 : Int) (a0_1 : Int) (a0_2 : Int) : Option (ByteArray × Int) := if a0_0 < 1 then some ((⟨#[]⟩ : ByteArray), 61) else (if a0_0 > 25 then some ((⟨#[]⟩ : ByteArray), 61) else ((bG.f k a0_0).bind fun n => (if n < 1 then (if a0_1 = 0 then (if a0_2 = 0 then ((cz.f k [dN ByteArray.empty aT a0_0]).bind fun s => some (s, 0)) else some ((⟨#[]⟩ : ByteArray), 61)) else some ((⟨#[]⟩ : ByteArray), 61)) else (if n < 2 then (if a0_2 = 0 then ((aV.f a0_1).bind fun t => ((cz.f k [dN ByteArray.empty aT a0_0, t]).bind fun s => some (s, 0))) else some ((⟨#[]⟩ : ByteArray), 61)) else ((aV.f a0_1).bind fun t => ((aV.f a0_2).bind fun u => ((cz.f k [dN ByteArray.empty aT a0_0, t, u]).bind fun s => some (s, 0))))))))
theorem dJ.mono : ∀ (a0_0 a0_1 a0_2 : Int) (k : Nat), LeO (dJ.f k a0_0 a0_1 a0_2) (dJ.f (k + 1) a0_0 a0_1 a0_2) := by
 intro a0_0 a0_1 a0_2 k
 unfold dJ.f
 repeat' (with_reducible first | apply bG.mono | apply cz.mono | exact LeO.refl _ | exact LeO.none _ | refine LeO.ite ?_ ?_ | refine LeO.bind ?_ (fun _ => ?_))
theorem mo {w : World} (h : Laid w) (i : Int) (h0 : 0 ≤ i) (h1 : i < 26) : w.cell? ⟨0, i.toNat, none⟩ = some (.string (dN ByteArray.empty aT i)) := by
  have := h.words i.toNat (by omega)
  rwa [show ((i.toNat : Nat) : Int) = i by omega] at this
theorem dJ.calls (k : Nat) (a0_0 : Int) (a0_1 : Int) (a0_2 : Int) (r1 : ByteArray) (r2 : Int) (w : World) (hLd : Laid w) (h : dJ.f k a0_0 a0_1 a0_2 = some (r1, r2)) :
  Calls Tryd.prog 83 #[.agg #[.int .i64 a0_0, .int .i64 a0_1, .int .i64 a0_2]] w fun e w' => e = .returned (.tuple #[.string r1, .int .i64 r2]) ∧ Below w.heap.size w w' := by
 have hu23 := Tryd.underlying43; have hix0 : ∀ (a b : Int) (W : World), (Instr.index 128 (.agg #[.int .i64 a, .int .i64 b]) (.int .i64 0)).run Tryd.prog W = .ok (.int .i64 a) W := fun _ _ _ => rfl
 have hix1 : ∀ (a b : Int) (W : World), (Instr.index 128 (.agg #[.int .i64 a, .int .i64 b]) (.int .i64 1)).run Tryd.prog W = .ok (.int .i64 b) W := fun _ _ _ => rfl
 have HLd := aa.mk hLd; clear hLd; have H := h; clear h
 unfold dJ.f at H
 by_cases c1 : a0_0 < 1
 ·rw [if_pos c1] at H; have c1b : decide (a0_0 < 1) = true := Za c1; obtain ⟨rfl, rfl⟩ : (⟨#[]⟩ : ByteArray) = r1 ∧ (61 : Int) = r2 := by injection H with H; injection H with h1_ h2_; exact ⟨h1_, h2_⟩
  clear H; go_enter Tryd.func83, Tryd.ntmps83
  go_wp2_with (first | ((with_reducible refine aY (N := 1) rfl ?_); (try (refine aH (by rfl) ?_; dsimp only)); refine bx 1 #[.int .i64 a0_0, .int .i64 a0_1, .int .i64 a0_2] 43 ?_; intro gi hg w1 hbx hbb; clear hg; have HX := aa.mk hbx; have HB := aa.mk hbb; clear hbx hbb; have hx0 : w1.cell? ⟨gi, 0, none⟩ = some (.int .i64 a0_0) := (ae HX.out 0).trans rfl; have hx1 : w1.cell? ⟨gi, 1, none⟩ = some (.int .i64 a0_1) := (ae HX.out 1).trans rfl; have hx2 : w1.cell? ⟨gi, 2, none⟩ = some (.int .i64 a0_2) := (ae HX.out 2).trans rfl))
  go_ret2; exact ⟨by first | rfl | (simp; done), HB.out⟩
 rw [if_neg c1] at H; have c1b : decide (a0_0 < 1) = false := Zb c1
 by_cases c2 : a0_0 > 25
 ·rw [if_pos c2] at H; have c2b : decide (25 < a0_0) = true := Za c2; obtain ⟨rfl, rfl⟩ : (⟨#[]⟩ : ByteArray) = r1 ∧ (61 : Int) = r2 := by injection H with H; injection H with h1_ h2_; exact ⟨h1_, h2_⟩
  clear H; go_enter Tryd.func83, Tryd.ntmps83
  go_wp2_with (first | ((with_reducible refine aY (N := 1) rfl ?_); (try (refine aH (by rfl) ?_; dsimp only)); refine bx 1 #[.int .i64 a0_0, .int .i64 a0_1, .int .i64 a0_2] 43 ?_; intro gi hg w1 hbx hbb; clear hg; have HX := aa.mk hbx; have HB := aa.mk hbb; clear hbx hbb; have hx0 : w1.cell? ⟨gi, 0, none⟩ = some (.int .i64 a0_0) := (ae HX.out 0).trans rfl; have hx1 : w1.cell? ⟨gi, 1, none⟩ = some (.int .i64 a0_1) := (ae HX.out 1).trans rfl; have hx2 : w1.cell? ⟨gi, 2, none⟩ = some (.int .i64 a0_2) := (ae HX.out 2).trans rfl))
  go_ret2; exact ⟨by first | rfl | (simp; done), HB.out⟩
 rw [if_neg c2] at H; have c2b : decide (25 < a0_0) = false := Zb c2; replace H := ob H; obtain ⟨n, A1, H⟩ := H; have hp0 : decide (0 ≤ a0_0) = true := Za (by omega); have hq0 : decide (a0_0 < 26) = true := Za (by omega); have hp1 : (0 ≤ a0_0) = True := eq_true (by omega); have hq1 : (a0_0 < 26) = True := eq_true (by omega); have z1 : (a0_1 = 0 ∧ (a0_1 != 0) = false) ∨ (a0_1 ≠ 0 ∧ (a0_1 != 0) = true) := by by_cases h : a0_1 = 0; exact .inl ⟨h, bne_eq_false_iff_eq.mpr h⟩; exact .inr ⟨h, bne_iff_ne.mpr h⟩
 have z2 : (a0_2 = 0 ∧ (a0_2 != 0) = false) ∨ (a0_2 ≠ 0 ∧ (a0_2 != 0) = true) := by by_cases h : a0_2 = 0; exact .inl ⟨h, bne_eq_false_iff_eq.mpr h⟩; exact .inr ⟨h, bne_iff_ne.mpr h⟩
 by_cases c3 : n < 1
 ·rw [if_pos c3] at H; have c3b : decide (n < 1) = true := Za c3; have c4b : decide (n < 2) = true := Za (by omega)
  rcases z1 with ⟨z1, z1b⟩ | ⟨z1, z1b⟩
  rotate_left
  ·rw [if_neg z1] at H; obtain ⟨rfl, rfl⟩ : (⟨#[]⟩ : ByteArray) = r1 ∧ (61 : Int) = r2 := by injection H with H; injection H with h1_ h2_; exact ⟨h1_, h2_⟩
   clear H; go_enter Tryd.func83, Tryd.ntmps83
   go_wp2_with (first | ((with_reducible refine aY (N := 1) rfl ?_); (try (refine aH (by rfl) ?_; dsimp only)); refine bx 1 #[.int .i64 a0_0, .int .i64 a0_1, .int .i64 a0_2] 43 ?_; intro gi hg w1 hbx hbb; clear hg; have HX := aa.mk hbx; have HB := aa.mk hbb; clear hbx hbb; have hx0 : w1.cell? ⟨gi, 0, none⟩ = some (.int .i64 a0_0) := (ae HX.out 0).trans rfl; have hx1 : w1.cell? ⟨gi, 1, none⟩ = some (.int .i64 a0_1) := (ae HX.out 1).trans rfl; have hx2 : w1.cell? ⟨gi, 2, none⟩ = some (.int .i64 a0_2) := (ae HX.out 2).trans rfl; have hlw : w1.cell? ⟨0, a0_0.toNat, none⟩ = some (.string (dN ByteArray.empty aT a0_0)) := mo (Laid.below HLd.out HB.out) a0_0 (by omega) (by omega)) | ((with_reducible refine aY (N := 20) rfl ?_); (try (refine aH (by rfl) ?_; dsimp only)); refine Kd.fJ Kd.string _ 9 ?hg (N := 20) ?hd (xs := ([dN ByteArray.empty aT a0_0] : List ByteArray)) (inner := [.string (dN ByteArray.empty aT a0_0)]) (ok := fun _ => True) (okp := fun _ => True) ?hr ?hp (fun _ hk => hk) trivial (Below.refl _ _) (Zd _) (by simp) ?_; (case hd => rfl); (case hg => rfl); (case hr => first | (go_simp; done) | (go_simp; rfl)); (case hp => exact (bJ.one (show Kd.M Kd.string _ _ _ (dN ByteArray.empty aT a0_0) [.string (dN ByteArray.empty aT a0_0)] from rfl) (bJ.none _ _))); intro v2 w2 ho hb hg_ hnew_; clear hg_ hnew_; have HO := aa.mk (Kd.bU ho (aK HB.out)); have HX := aa.mk (cB HX.out hb); have HB := aa.mk (aj HB.out hb); clear ho hb hx0 hx1 hx2 hlw; have hx0 : w2.cell? ⟨gi, 0, none⟩ = some (.int .i64 a0_0) := (ae HX.out 0).trans rfl) | (go_at_call 89; (with_reducible refine (bG.calls k a0_0 n _ A1.out).mono ?_); rintro e w3 ⟨rfl, hd⟩; have hb3 : Below w2.heap.size w2 w3 := (by obtain ⟨nd, rfl⟩ := hd; exact aW (Below.refl _ _) nd); have HX := aa.mk (cB HX.out hb3); have HO := aa.mk (Kd.eT HO.out hb3); have HB := aa.mk (aj HB.out hb3); clear hb3 hd hx0; have hx1 : w3.cell? ⟨gi, 1, none⟩ = some (.int .i64 a0_1) := (ae HX.out 1).trans rfl; have hx2 : w3.cell? ⟨gi, 2, none⟩ = some (.int .i64 a0_2) := (ae HX.out 2).trans rfl))
   go_ret2; exact ⟨by first | rfl | (simp; done), HB.out⟩
  rw [if_pos z1] at H
  rcases z2 with ⟨z2, z2b⟩ | ⟨z2, z2b⟩
  rotate_left
  ·rw [if_neg z2] at H; obtain ⟨rfl, rfl⟩ : (⟨#[]⟩ : ByteArray) = r1 ∧ (61 : Int) = r2 := by injection H with H; injection H with h1_ h2_; exact ⟨h1_, h2_⟩
   clear H; go_enter Tryd.func83, Tryd.ntmps83
   go_wp2_with (first | ((with_reducible refine aY (N := 1) rfl ?_); (try (refine aH (by rfl) ?_; dsimp only)); refine bx 1 #[.int .i64 a0_0, .int .i64 a0_1, .int .i64 a0_2] 43 ?_; intro gi hg w1 hbx hbb; clear hg; have HX := aa.mk hbx; have HB := aa.mk hbb; clear hbx hbb; have hx0 : w1.cell? ⟨gi, 0, none⟩ = some (.int .i64 a0_0) := (ae HX.out 0).trans rfl; have hx1 : w1.cell? ⟨gi, 1, none⟩ = some (.int .i64 a0_1) := (ae HX.out 1).trans rfl; have hx2 : w1.cell? ⟨gi, 2, none⟩ = some (.int .i64 a0_2) := (ae HX.out 2).trans rfl; have hlw : w1.cell? ⟨0, a0_0.toNat, none⟩ = some (.string (dN ByteArray.empty aT a0_0)) := mo (Laid.below HLd.out HB.out) a0_0 (by omega) (by omega)) | ((with_reducible refine aY (N := 20) rfl ?_); (try (refine aH (by rfl) ?_; dsimp only)); refine Kd.fJ Kd.string _ 9 ?hg (N := 20) ?hd (xs := ([dN ByteArray.empty aT a0_0] : List ByteArray)) (inner := [.string (dN ByteArray.empty aT a0_0)]) (ok := fun _ => True) (okp := fun _ => True) ?hr ?hp (fun _ hk => hk) trivial (Below.refl _ _) (Zd _) (by simp) ?_; (case hd => rfl); (case hg => rfl); (case hr => first | (go_simp; done) | (go_simp; rfl)); (case hp => exact (bJ.one (show Kd.M Kd.string _ _ _ (dN ByteArray.empty aT a0_0) [.string (dN ByteArray.empty aT a0_0)] from rfl) (bJ.none _ _))); intro v2 w2 ho hb hg_ hnew_; clear hg_ hnew_; have HO := aa.mk (Kd.bU ho (aK HB.out)); have HX := aa.mk (cB HX.out hb); have HB := aa.mk (aj HB.out hb); clear ho hb hx0 hx1 hx2 hlw; have hx0 : w2.cell? ⟨gi, 0, none⟩ = some (.int .i64 a0_0) := (ae HX.out 0).trans rfl) | (go_at_call 89; (with_reducible refine (bG.calls k a0_0 n _ A1.out).mono ?_); rintro e w3 ⟨rfl, hd⟩; have hb3 : Below w2.heap.size w2 w3 := (by obtain ⟨nd, rfl⟩ := hd; exact aW (Below.refl _ _) nd); have HX := aa.mk (cB HX.out hb3); have HO := aa.mk (Kd.eT HO.out hb3); have HB := aa.mk (aj HB.out hb3); clear hb3 hd hx0; have hx1 : w3.cell? ⟨gi, 1, none⟩ = some (.int .i64 a0_1) := (ae HX.out 1).trans rfl; have hx2 : w3.cell? ⟨gi, 2, none⟩ = some (.int .i64 a0_2) := (ae HX.out 2).trans rfl))
   go_ret2; exact ⟨by first | rfl | (simp; done), HB.out⟩
  rw [if_pos z2] at H; replace H := Option.bind_eq_some_iff.mp H; obtain ⟨s, A20, H⟩ := H; have AJ := aa.mk A20; clear A20; obtain ⟨e1_, e2_⟩ : s = r1 ∧ (0 : Int) = r2 := by injection H with H; injection H with h1_ h2_; exact ⟨h1_, h2_⟩
  subst e2_; replace AJ := aa.mk (e1_ ▸ AJ.out); clear H e1_ s; have hn0 : decide (0 < n) = false := Zb (by omega); have hn1 : decide (1 < n) = false := Zb (by omega); go_enter Tryd.func83, Tryd.ntmps83
  go_wp2_with (first | ((with_reducible refine aY (N := 1) rfl ?_); (try (refine aH (by rfl) ?_; dsimp only)); refine bx 1 #[.int .i64 a0_0, .int .i64 a0_1, .int .i64 a0_2] 43 ?_; intro gi hg w1 hbx hbb; clear hg; have HX := aa.mk hbx; have HB := aa.mk hbb; clear hbx hbb; have hx0 : w1.cell? ⟨gi, 0, none⟩ = some (.int .i64 a0_0) := (ae HX.out 0).trans rfl; have hx1 : w1.cell? ⟨gi, 1, none⟩ = some (.int .i64 a0_1) := (ae HX.out 1).trans rfl; have hx2 : w1.cell? ⟨gi, 2, none⟩ = some (.int .i64 a0_2) := (ae HX.out 2).trans rfl; have hlw : w1.cell? ⟨0, a0_0.toNat, none⟩ = some (.string (dN ByteArray.empty aT a0_0)) := mo (Laid.below HLd.out HB.out) a0_0 (by omega) (by omega)) | ((with_reducible refine aY (N := 20) rfl ?_); (try (refine aH (by rfl) ?_; dsimp only)); refine Kd.fJ Kd.string _ 9 ?hg (N := 20) ?hd (xs := ([dN ByteArray.empty aT a0_0] : List ByteArray)) (inner := [.string (dN ByteArray.empty aT a0_0)]) (ok := fun _ => True) (okp := fun _ => True) ?hr ?hp (fun _ hk => hk) trivial (Below.refl _ _) (Zd _) (by simp) ?_; (case hd => rfl); (case hg => rfl); (case hr => first | (go_simp; done) | (go_simp; rfl)); (case hp => exact (bJ.one (show Kd.M Kd.string _ _ _ (dN ByteArray.empty aT a0_0) [.string (dN ByteArray.empty aT a0_0)] from rfl) (bJ.none _ _))); intro v2 w2 ho hb hg_ hnew_; clear hg_ hnew_; have HO := aa.mk (Kd.bU ho (aK HB.out)); have HX := aa.mk (cB HX.out hb); have HB := aa.mk (aj HB.out hb); clear ho hb hx0 hx1 hx2 hlw; have hx0 : w2.cell? ⟨gi, 0, none⟩ = some (.int .i64 a0_0) := (ae HX.out 0).trans rfl) | (go_at_call 89; (with_reducible refine (bG.calls k a0_0 n _ A1.out).mono ?_); rintro e w3 ⟨rfl, hd⟩; have hb3 : Below w2.heap.size w2 w3 := (by obtain ⟨nd, rfl⟩ := hd; exact aW (Below.refl _ _) nd); have HX := aa.mk (cB HX.out hb3); have HO := aa.mk (Kd.eT HO.out hb3); have HB := aa.mk (aj HB.out hb3); clear hb3 hd hx0; have hx1 : w3.cell? ⟨gi, 1, none⟩ = some (.int .i64 a0_1) := (ae HX.out 1).trans rfl; have hx2 : w3.cell? ⟨gi, 2, none⟩ = some (.int .i64 a0_2) := (ae HX.out 2).trans rfl))
  clear hx1 hx2
  go_loopg [4, 45] 2 (fun kq v4 v45 w' => ∃ (x : Nat) (l : List ByteArray), v45 = .int .i64 (x : Int) ∧ aa (kq + x = 2) ∧ aa (l = match x with | 0 => [dN ByteArray.empty aT a0_0] | 1 => [dN ByteArray.empty aT a0_0] | _ => [dN ByteArray.empty aT a0_0]) ∧ aa (w'.heap[gi]? = some (.cells #[.int .i64 a0_0, .int .i64 a0_1, .int .i64 a0_2] 43 (0, 0))) ∧ aa (Kd.R Kd.string 9 w' w.heap.size (fun _ => True) v4 l) ∧ aa (Below w.heap.size w w'))
  case atStart => exact ⟨0, _, rfl, ⟨rfl⟩, ⟨rfl⟩, HX, HO, HB⟩
  case round =>
   clear HX HO HB; obtain ⟨x, l, rfl, HK, HE, HX, HO, HB⟩ := hrel; have hx : x = 0 ∨ x = 1 ∨ x = 2 := by have := HK.out; omega
   rcases hx with rfl | rfl | rfl
   ·skip
    have hE := HE.out; simp only at hE; subst hE
    cases gk with
    | zero => exact absurd HK.out (by omega)
    | succ k1 =>
     have hk1 : k1 + 1 = 2 := by have := HK.out; omega
     clear HE HK; go_wp2
     go_roundg k1
     case measure => omega
     case rel => exact ⟨1, _, by simp, ⟨hk1⟩, ⟨rfl⟩, HX, HO, HB⟩
   ·skip
    have hE := HE.out; simp only at hE; subst hE
    cases gk with
    | zero => exact absurd HK.out (by omega)
    | succ k1 =>
     have hk1 : k1 + 2 = 2 := by have := HK.out; omega
     clear HE HK; go_wp2
     go_roundg k1
     case measure => omega
     case rel => exact ⟨2, _, by simp, ⟨hk1⟩, ⟨rfl⟩, HX, HO, HB⟩
   ·skip
    have hE := HE.out; simp only at hE; have AJ2 : aa (cz.f k l = some r1) := ⟨by rw [show l = ([dN ByteArray.empty aT a0_0] : List ByteArray) from hE]; exact AJ.out⟩; clear HE HK hE; obtain ⟨Aq, cq, eq_⟩ := Kd.dh HO.out; subst eq_
    go_wp2_with (first | (go_at_call 91; (with_reducible refine (cz.calls k Aq cq l _ _ (Kd.aU HO.out).2.2 (Kd.aU HO.out).2.1 AJ2.out).mono ?_); rintro e w9 ⟨rfl, hb⟩; have HB := aa.mk (aj HB.out hb); clear hb))
    go_ret2; exact ⟨by first | rfl | (simp; done), HB.out⟩
 rw [if_neg c3] at H; have c3b : decide (n < 1) = false := Zb c3
 by_cases c4 : n < 2
 ·rw [if_pos c4] at H; have c4b : decide (n < 2) = true := Za c4
  rcases z2 with ⟨z2, z2b⟩ | ⟨z2, z2b⟩
  rotate_left
  ·rw [if_neg z2] at H; obtain ⟨rfl, rfl⟩ : (⟨#[]⟩ : ByteArray) = r1 ∧ (61 : Int) = r2 := by injection H with H; injection H with h1_ h2_; exact ⟨h1_, h2_⟩
   clear H; go_enter Tryd.func83, Tryd.ntmps83
   go_wp2_with (first | ((with_reducible refine aY (N := 1) rfl ?_); (try (refine aH (by rfl) ?_; dsimp only)); refine bx 1 #[.int .i64 a0_0, .int .i64 a0_1, .int .i64 a0_2] 43 ?_; intro gi hg w1 hbx hbb; clear hg; have HX := aa.mk hbx; have HB := aa.mk hbb; clear hbx hbb; have hx0 : w1.cell? ⟨gi, 0, none⟩ = some (.int .i64 a0_0) := (ae HX.out 0).trans rfl; have hx1 : w1.cell? ⟨gi, 1, none⟩ = some (.int .i64 a0_1) := (ae HX.out 1).trans rfl; have hx2 : w1.cell? ⟨gi, 2, none⟩ = some (.int .i64 a0_2) := (ae HX.out 2).trans rfl; have hlw : w1.cell? ⟨0, a0_0.toNat, none⟩ = some (.string (dN ByteArray.empty aT a0_0)) := mo (Laid.below HLd.out HB.out) a0_0 (by omega) (by omega)) | ((with_reducible refine aY (N := 20) rfl ?_); (try (refine aH (by rfl) ?_; dsimp only)); refine Kd.fJ Kd.string _ 9 ?hg (N := 20) ?hd (xs := ([dN ByteArray.empty aT a0_0] : List ByteArray)) (inner := [.string (dN ByteArray.empty aT a0_0)]) (ok := fun _ => True) (okp := fun _ => True) ?hr ?hp (fun _ hk => hk) trivial (Below.refl _ _) (Zd _) (by simp) ?_; (case hd => rfl); (case hg => rfl); (case hr => first | (go_simp; done) | (go_simp; rfl)); (case hp => exact (bJ.one (show Kd.M Kd.string _ _ _ (dN ByteArray.empty aT a0_0) [.string (dN ByteArray.empty aT a0_0)] from rfl) (bJ.none _ _))); intro v2 w2 ho hb hg_ hnew_; clear hg_ hnew_; have HO := aa.mk (Kd.bU ho (aK HB.out)); have HX := aa.mk (cB HX.out hb); have HB := aa.mk (aj HB.out hb); clear ho hb hx0 hx1 hx2 hlw; have hx0 : w2.cell? ⟨gi, 0, none⟩ = some (.int .i64 a0_0) := (ae HX.out 0).trans rfl) | (go_at_call 89; (with_reducible refine (bG.calls k a0_0 n _ A1.out).mono ?_); rintro e w3 ⟨rfl, hd⟩; have hb3 : Below w2.heap.size w2 w3 := (by obtain ⟨nd, rfl⟩ := hd; exact aW (Below.refl _ _) nd); have HX := aa.mk (cB HX.out hb3); have HO := aa.mk (Kd.eT HO.out hb3); have HB := aa.mk (aj HB.out hb3); clear hb3 hd hx0; have hx1 : w3.cell? ⟨gi, 1, none⟩ = some (.int .i64 a0_1) := (ae HX.out 1).trans rfl; have hx2 : w3.cell? ⟨gi, 2, none⟩ = some (.int .i64 a0_2) := (ae HX.out 2).trans rfl))
   go_ret2; exact ⟨by first | rfl | (simp; done), HB.out⟩
  rw [if_pos z2] at H; replace H := Option.bind_eq_some_iff.mp H; obtain ⟨t, A30, H⟩ := H; have AT := aa.mk A30; clear A30; replace H := Option.bind_eq_some_iff.mp H; obtain ⟨s, A20, H⟩ := H; have AJ := aa.mk A20; clear A20; obtain ⟨e1_, e2_⟩ : s = r1 ∧ (0 : Int) = r2 := by injection H with H; injection H with h1_ h2_; exact ⟨h1_, h2_⟩
  subst e2_; replace AJ := aa.mk (e1_ ▸ AJ.out); clear H e1_ s; have hn0 : decide (0 < n) = true := Za (by omega); have hn1 : decide (1 < n) = false := Zb (by omega); go_enter Tryd.func83, Tryd.ntmps83
  go_wp2_with (first | ((with_reducible refine aY (N := 1) rfl ?_); (try (refine aH (by rfl) ?_; dsimp only)); refine bx 1 #[.int .i64 a0_0, .int .i64 a0_1, .int .i64 a0_2] 43 ?_; intro gi hg w1 hbx hbb; clear hg; have HX := aa.mk hbx; have HB := aa.mk hbb; clear hbx hbb; have hx0 : w1.cell? ⟨gi, 0, none⟩ = some (.int .i64 a0_0) := (ae HX.out 0).trans rfl; have hx1 : w1.cell? ⟨gi, 1, none⟩ = some (.int .i64 a0_1) := (ae HX.out 1).trans rfl; have hx2 : w1.cell? ⟨gi, 2, none⟩ = some (.int .i64 a0_2) := (ae HX.out 2).trans rfl; have hlw : w1.cell? ⟨0, a0_0.toNat, none⟩ = some (.string (dN ByteArray.empty aT a0_0)) := mo (Laid.below HLd.out HB.out) a0_0 (by omega) (by omega)) | ((with_reducible refine aY (N := 20) rfl ?_); (try (refine aH (by rfl) ?_; dsimp only)); refine Kd.fJ Kd.string _ 9 ?hg (N := 20) ?hd (xs := ([dN ByteArray.empty aT a0_0] : List ByteArray)) (inner := [.string (dN ByteArray.empty aT a0_0)]) (ok := fun _ => True) (okp := fun _ => True) ?hr ?hp (fun _ hk => hk) trivial (Below.refl _ _) (Zd _) (by simp) ?_; (case hd => rfl); (case hg => rfl); (case hr => first | (go_simp; done) | (go_simp; rfl)); (case hp => exact (bJ.one (show Kd.M Kd.string _ _ _ (dN ByteArray.empty aT a0_0) [.string (dN ByteArray.empty aT a0_0)] from rfl) (bJ.none _ _))); intro v2 w2 ho hb hg_ hnew_; clear hg_ hnew_; have HO := aa.mk (Kd.bU ho (aK HB.out)); have HX := aa.mk (cB HX.out hb); have HB := aa.mk (aj HB.out hb); clear ho hb hx0 hx1 hx2 hlw; have hx0 : w2.cell? ⟨gi, 0, none⟩ = some (.int .i64 a0_0) := (ae HX.out 0).trans rfl) | (go_at_call 89; (with_reducible refine (bG.calls k a0_0 n _ A1.out).mono ?_); rintro e w3 ⟨rfl, hd⟩; have hb3 : Below w2.heap.size w2 w3 := (by obtain ⟨nd, rfl⟩ := hd; exact aW (Below.refl _ _) nd); have HX := aa.mk (cB HX.out hb3); have HO := aa.mk (Kd.eT HO.out hb3); have HB := aa.mk (aj HB.out hb3); clear hb3 hd hx0; have hx1 : w3.cell? ⟨gi, 1, none⟩ = some (.int .i64 a0_1) := (ae HX.out 1).trans rfl; have hx2 : w3.cell? ⟨gi, 2, none⟩ = some (.int .i64 a0_2) := (ae HX.out 2).trans rfl))
  clear hx1 hx2
  go_loopg [4, 45] 2 (fun kq v4 v45 w' => ∃ (x : Nat) (l : List ByteArray), v45 = .int .i64 (x : Int) ∧ aa (kq + x = 2) ∧ aa (l = match x with | 0 => [dN ByteArray.empty aT a0_0] | 1 => [dN ByteArray.empty aT a0_0] ++ [t] | _ => [dN ByteArray.empty aT a0_0] ++ [t]) ∧ aa (w'.heap[gi]? = some (.cells #[.int .i64 a0_0, .int .i64 a0_1, .int .i64 a0_2] 43 (0, 0))) ∧ aa (Kd.R Kd.string 9 w' w.heap.size (fun _ => True) v4 l) ∧ aa (Below w.heap.size w w'))
  case atStart => exact ⟨0, _, rfl, ⟨rfl⟩, ⟨rfl⟩, HX, HO, HB⟩
  case round =>
   clear HX HO HB; obtain ⟨x, l, rfl, HK, HE, HX, HO, HB⟩ := hrel; have hx : x = 0 ∨ x = 1 ∨ x = 2 := by have := HK.out; omega
   rcases hx with rfl | rfl | rfl
   ·skip
    have hE := HE.out; simp only at hE; subst hE
    cases gk with
    | zero => exact absurd HK.out (by omega)
    | succ k1 =>
     have hk1 : k1 + 1 = 2 := by have := HK.out; omega
     clear HE HK
     go_wp2_with (first | (go_at_call 90; (with_reducible refine (aV.calls a0_1 t _ AT.out).mono ?_); rintro e w6 ⟨rfl, hb⟩; have HX := aa.mk (cB HX.out hb); have HO := aa.mk (Kd.eT HO.out hb); have HB := aa.mk (aj HB.out hb); clear hb) | ((with_reducible refine di (b := .append) (xs := #[.tmp 52, .tmp 55]) rfl ?_); at_builtin; refine Kd.fQ Kd.string (w0 := w) w.heap.size rfl (.tmp 52) (.tmp 55) 127 9 (.string ⟨#[]⟩) 16 rfl Tryd.underlying127 uI rfl (by decide) (by omega) _ _ t [.string t] (fun _ => True) (fun _ => False) rfl rfl rfl (fun _ hk => hk.elim) (fun _ _ => trivial) HO.out HB.out (aK HB.out) (by simp) ?_; intro v7 w7 ho hb hg hat; have HX := aa.mk (cZ HX.out hg (Kd.kV HO.out HX.out (by decide))); have HO := aa.mk ho; have HB := aa.mk hb; clear ho hb hg hat))
     go_roundg k1
     case measure => omega
     case rel => exact ⟨1, _, by simp, ⟨hk1⟩, ⟨rfl⟩, HX, HO, HB⟩
   ·skip
    have hE := HE.out; simp only at hE; subst hE
    cases gk with
    | zero => exact absurd HK.out (by omega)
    | succ k1 =>
     have hk1 : k1 + 2 = 2 := by have := HK.out; omega
     clear HE HK; go_wp2
     go_roundg k1
     case measure => omega
     case rel => exact ⟨2, _, by simp, ⟨hk1⟩, ⟨rfl⟩, HX, HO, HB⟩
   ·skip
    have hE := HE.out; simp only at hE; have AJ2 : aa (cz.f k l = some r1) := ⟨by rw [show l = ([dN ByteArray.empty aT a0_0, t] : List ByteArray) from hE]; exact AJ.out⟩; clear HE HK hE; obtain ⟨Aq, cq, eq_⟩ := Kd.dh HO.out; subst eq_
    go_wp2_with (first | (go_at_call 91; (with_reducible refine (cz.calls k Aq cq l _ _ (Kd.aU HO.out).2.2 (Kd.aU HO.out).2.1 AJ2.out).mono ?_); rintro e w9 ⟨rfl, hb⟩; have HB := aa.mk (aj HB.out hb); clear hb))
    go_ret2; exact ⟨by first | rfl | (simp; done), HB.out⟩
 rw [if_neg c4] at H; have c4b : decide (n < 2) = false := Zb c4; replace H := Option.bind_eq_some_iff.mp H; obtain ⟨t, A30, H⟩ := H; have AT := aa.mk A30; clear A30; replace H := Option.bind_eq_some_iff.mp H; obtain ⟨u, A40, H⟩ := H; have AU := aa.mk A40; clear A40; replace H := Option.bind_eq_some_iff.mp H; obtain ⟨s, A20, H⟩ := H; have AJ := aa.mk A20; clear A20; obtain ⟨e1_, e2_⟩ : s = r1 ∧ (0 : Int) = r2 := by injection H with H; injection H with h1_ h2_; exact ⟨h1_, h2_⟩
 subst e2_; replace AJ := aa.mk (e1_ ▸ AJ.out); clear H e1_ s; have hn0 : decide (0 < n) = true := Za (by omega); have hn1 : decide (1 < n) = true := Za (by omega); go_enter Tryd.func83, Tryd.ntmps83
 go_wp2_with (first | ((with_reducible refine aY (N := 1) rfl ?_); (try (refine aH (by rfl) ?_; dsimp only)); refine bx 1 #[.int .i64 a0_0, .int .i64 a0_1, .int .i64 a0_2] 43 ?_; intro gi hg w1 hbx hbb; clear hg; have HX := aa.mk hbx; have HB := aa.mk hbb; clear hbx hbb; have hx0 : w1.cell? ⟨gi, 0, none⟩ = some (.int .i64 a0_0) := (ae HX.out 0).trans rfl; have hx1 : w1.cell? ⟨gi, 1, none⟩ = some (.int .i64 a0_1) := (ae HX.out 1).trans rfl; have hx2 : w1.cell? ⟨gi, 2, none⟩ = some (.int .i64 a0_2) := (ae HX.out 2).trans rfl; have hlw : w1.cell? ⟨0, a0_0.toNat, none⟩ = some (.string (dN ByteArray.empty aT a0_0)) := mo (Laid.below HLd.out HB.out) a0_0 (by omega) (by omega)) | ((with_reducible refine aY (N := 20) rfl ?_); (try (refine aH (by rfl) ?_; dsimp only)); refine Kd.fJ Kd.string _ 9 ?hg (N := 20) ?hd (xs := ([dN ByteArray.empty aT a0_0] : List ByteArray)) (inner := [.string (dN ByteArray.empty aT a0_0)]) (ok := fun _ => True) (okp := fun _ => True) ?hr ?hp (fun _ hk => hk) trivial (Below.refl _ _) (Zd _) (by simp) ?_; (case hd => rfl); (case hg => rfl); (case hr => first | (go_simp; done) | (go_simp; rfl)); (case hp => exact (bJ.one (show Kd.M Kd.string _ _ _ (dN ByteArray.empty aT a0_0) [.string (dN ByteArray.empty aT a0_0)] from rfl) (bJ.none _ _))); intro v2 w2 ho hb hg_ hnew_; clear hg_ hnew_; have HO := aa.mk (Kd.bU ho (aK HB.out)); have HX := aa.mk (cB HX.out hb); have HB := aa.mk (aj HB.out hb); clear ho hb hx0 hx1 hx2 hlw; have hx0 : w2.cell? ⟨gi, 0, none⟩ = some (.int .i64 a0_0) := (ae HX.out 0).trans rfl) | (go_at_call 89; (with_reducible refine (bG.calls k a0_0 n _ A1.out).mono ?_); rintro e w3 ⟨rfl, hd⟩; have hb3 : Below w2.heap.size w2 w3 := (by obtain ⟨nd, rfl⟩ := hd; exact aW (Below.refl _ _) nd); have HX := aa.mk (cB HX.out hb3); have HO := aa.mk (Kd.eT HO.out hb3); have HB := aa.mk (aj HB.out hb3); clear hb3 hd hx0; have hx1 : w3.cell? ⟨gi, 1, none⟩ = some (.int .i64 a0_1) := (ae HX.out 1).trans rfl; have hx2 : w3.cell? ⟨gi, 2, none⟩ = some (.int .i64 a0_2) := (ae HX.out 2).trans rfl))
 clear hx1 hx2
 go_loopg [4, 45] 2 (fun kq v4 v45 w' => ∃ (x : Nat) (l : List ByteArray), v45 = .int .i64 (x : Int) ∧ aa (kq + x = 2) ∧ aa (l = match x with | 0 => [dN ByteArray.empty aT a0_0] | 1 => [dN ByteArray.empty aT a0_0] ++ [t] | _ => [dN ByteArray.empty aT a0_0] ++ [t] ++ [u]) ∧ aa (w'.heap[gi]? = some (.cells #[.int .i64 a0_0, .int .i64 a0_1, .int .i64 a0_2] 43 (0, 0))) ∧ aa (Kd.R Kd.string 9 w' w.heap.size (fun _ => True) v4 l) ∧ aa (Below w.heap.size w w'))
 case atStart => exact ⟨0, _, rfl, ⟨rfl⟩, ⟨rfl⟩, HX, HO, HB⟩
 case round =>
  clear HX HO HB; obtain ⟨x, l, rfl, HK, HE, HX, HO, HB⟩ := hrel; have hx : x = 0 ∨ x = 1 ∨ x = 2 := by have := HK.out; omega
  rcases hx with rfl | rfl | rfl
  ·skip
   have hE := HE.out; simp only at hE; subst hE
   cases gk with
   | zero => exact absurd HK.out (by omega)
   | succ k1 =>
    have hk1 : k1 + 1 = 2 := by have := HK.out; omega
    clear HE HK
    go_wp2_with (first | (go_at_call 90; (with_reducible refine (aV.calls a0_1 t _ AT.out).mono ?_); rintro e w6 ⟨rfl, hb⟩; have HX := aa.mk (cB HX.out hb); have HO := aa.mk (Kd.eT HO.out hb); have HB := aa.mk (aj HB.out hb); clear hb) | ((with_reducible refine di (b := .append) (xs := #[.tmp 52, .tmp 55]) rfl ?_); at_builtin; refine Kd.fQ Kd.string (w0 := w) w.heap.size rfl (.tmp 52) (.tmp 55) 127 9 (.string ⟨#[]⟩) 16 rfl Tryd.underlying127 uI rfl (by decide) (by omega) _ _ t [.string t] (fun _ => True) (fun _ => False) rfl rfl rfl (fun _ hk => hk.elim) (fun _ _ => trivial) HO.out HB.out (aK HB.out) (by simp) ?_; intro v7 w7 ho hb hg hat; have HX := aa.mk (cZ HX.out hg (Kd.kV HO.out HX.out (by decide))); have HO := aa.mk ho; have HB := aa.mk hb; clear ho hb hg hat))
    go_roundg k1
    case measure => omega
    case rel => exact ⟨1, _, by simp, ⟨hk1⟩, ⟨rfl⟩, HX, HO, HB⟩
  ·skip
   have hE := HE.out; simp only at hE; subst hE
   cases gk with
   | zero => exact absurd HK.out (by omega)
   | succ k1 =>
    have hk1 : k1 + 2 = 2 := by have := HK.out; omega
    clear HE HK
    go_wp2_with (first | (go_at_call 90; (with_reducible refine (aV.calls a0_2 u _ AU.out).mono ?_); rintro e w6 ⟨rfl, hb⟩; have HX := aa.mk (cB HX.out hb); have HO := aa.mk (Kd.eT HO.out hb); have HB := aa.mk (aj HB.out hb); clear hb) | ((with_reducible refine di (b := .append) (xs := #[.tmp 52, .tmp 55]) rfl ?_); at_builtin; refine Kd.fQ Kd.string (w0 := w) w.heap.size rfl (.tmp 52) (.tmp 55) 127 9 (.string ⟨#[]⟩) 16 rfl Tryd.underlying127 uI rfl (by decide) (by omega) _ _ u [.string u] (fun _ => True) (fun _ => False) rfl rfl rfl (fun _ hk => hk.elim) (fun _ _ => trivial) HO.out HB.out (aK HB.out) (by simp) ?_; intro v7 w7 ho hb hg hat; have HX := aa.mk (cZ HX.out hg (Kd.kV HO.out HX.out (by decide))); have HO := aa.mk ho; have HB := aa.mk hb; clear ho hb hg hat))
    go_roundg k1
    case measure => omega
    case rel => exact ⟨2, _, by simp, ⟨hk1⟩, ⟨rfl⟩, HX, HO, HB⟩
  ·skip
   have hE := HE.out; simp only at hE; have AJ2 : aa (cz.f k l = some r1) := ⟨by rw [show l = ([dN ByteArray.empty aT a0_0, t, u] : List ByteArray) from hE]; exact AJ.out⟩; clear HE HK hE; obtain ⟨Aq, cq, eq_⟩ := Kd.dh HO.out; subst eq_
   go_wp2_with (first | (go_at_call 91; (with_reducible refine (cz.calls k Aq cq l _ _ (Kd.aU HO.out).2.2 (Kd.aU HO.out).2.1 AJ2.out).mono ?_); rintro e w9 ⟨rfl, hb⟩; have HB := aa.mk (aj HB.out hb); clear hb))
   go_ret2; exact ⟨by first | rfl | (simp; done), HB.out⟩
def cK.f (l0 : List (S46)) (a1 : Int) (a2 : Int) (l3_0 : List (S43)) (a3_1 : Int) (a3_2 : Int) (a3_3 : Bool) : Option (Bool) := if a1 ≥ 0 then (if a2 ≥ 1 then (if a1 ≤ a3_1 then (some (decide (a2 ≤ (wrap64 (a3_1 - a1))))) else (some false)) else (some false)) else (some false)
theorem cK.sJ (gb111 : Nat) (A0 : Option Addr) (c0 : Nat) (l0 : List (S46)) (a1 : Int) (a2 : Int) (A3_0 : Option Addr) (c3_0 : Nat) (l3_0 : List (S43)) (a3_1 : Int) (a3_2 : Int) (a3_3 : Bool) (r : Bool) (w w8 : World) (hr0 : Kd.C k46 w A0 l0.length l0) (hc0 : l0.length ≤ c0) (hr3_0 : Kd.C k43 w A3_0 l3_0.length l3_0) (hc3_0 : l3_0.length ≤ c3_0) (hbox : w8.heap[gb111]? = some (.cells #[.slice A0 l0.length c0, .slice A3_0 l3_0.length c3_0, .int .i64 a3_1, .int .i64 a3_2, .bool a3_3, .slice none 0 0] 101 (0, 0))) (hw3 : w8 = w) (h : cK.f l0 a1 a2 l3_0 a3_1 a3_2 a3_3 = some r) :
  Calls Tryd.prog 84 #[.pointer (some ⟨gb111, 0, none⟩), .int .i64 a1, .int .i64 a2] w8 fun e w' => e = .returned (.bool r) ∧ Below w.heap.size w w' := by
 have hu101 := Tryd.underlying101; have HR0 := aa.mk hr0; have HC0 := aa.mk hc0; clear hr0 hc0; have HR3_0 := aa.mk hr3_0; have HC3_0 := aa.mk hc3_0; clear hr3_0 hc3_0; have HB := aa.mk (Below.refl w.heap.size w); have H : (if a1 ≥ 0 then (if a2 ≥ 1 then (if a1 ≤ a3_1 then (some (decide (a2 ≤ (wrap64 (a3_1 - a1))))) else (some false)) else (some false)) else (some false)) = some r := h; clear h; have HH_ := aa.mk H; clear H; have BK111 := aa.mk hbox; have n0_ := aa.mk (show Below w.heap.size w w8 from by subst hw3; exact Below.refl _ _); clear hw3 HB; have HB := n0_; clear n0_ hbox; refine ?roundEnd; go_enter Tryd.func84, Tryd.ntmps84
 go_wp2_with (first | fail)
 case roundEnd =>
  have H := HH_.out; clear HH_
  by_cases c5 : a1 ≥ 0
  ·rw [if_pos c5] at H; have c5b0 : decide (0 ≤ a1) = true := Za c5; clear c5; have HH_ := aa.mk H; clear H; refine ?roundEnd; go_wp2
   case roundEnd =>
    have H := HH_.out; clear HH_
    by_cases c6 : a2 ≥ 1
    ·rw [if_pos c6] at H; have c6b0 : decide (1 ≤ a2) = true := Za c6; clear c6; have HH_ := aa.mk H; clear H; obtain ⟨hcz9_0, hcz9_1, hcz9_2, hcz9_3, hcz9_4, hcz9_5, hfz9_0, hfz9_1, hfz9_2, hfz9_3, hfz9_4, hfz9_5⟩ := bc6 BK111.out; refine ?roundEnd; go_wp2
     case roundEnd =>
      have H := HH_.out; clear HH_
      by_cases c7 : a1 ≤ a3_1
      ·rw [if_pos c7] at H; have c7b0 := Za c7; clear c7; obtain rfl := Zg H; go_wp2; go_ret; exact ⟨pe, bl⟩
      ·rw [if_neg c7] at H; have c7b0 := Zb c7; clear c7; obtain rfl := Zg H; go_wp2; go_ret; exact ⟨pe, bl⟩
    ·rw [if_neg c6] at H; have c6b0 : decide (1 ≤ a2) = false := Zb c6; clear c6; obtain rfl := Zg H; go_wp2; go_ret; exact ⟨pe, bl⟩
  ·rw [if_neg c5] at H; have c5b0 : decide (0 ≤ a1) = false := Zb c5; clear c5; obtain rfl := Zg H; go_wp2; go_ret; exact ⟨pe, bl⟩
theorem cK.calls (gb111 : Nat) (A0 : Option Addr) (c0 : Nat) (l0 : List (S46)) (a1 : Int) (a2 : Int) (A3_0 : Option Addr) (c3_0 : Nat) (l3_0 : List (S43)) (a3_1 : Int) (a3_2 : Int) (a3_3 : Bool) (r : Bool) (w : World) (hr0 : Kd.C k46 w A0 l0.length l0) (hc0 : l0.length ≤ c0) (hr3_0 : Kd.C k43 w A3_0 l3_0.length l3_0) (hc3_0 : l3_0.length ≤ c3_0) (hbox : w.heap[gb111]? = some (.cells #[.slice A0 l0.length c0, .slice A3_0 l3_0.length c3_0, .int .i64 a3_1, .int .i64 a3_2, .bool a3_3, .slice none 0 0] 101 (0, 0))) (h : cK.f l0 a1 a2 l3_0 a3_1 a3_2 a3_3 = some r) :
  Calls Tryd.prog 84 #[.pointer (some ⟨gb111, 0, none⟩), .int .i64 a1, .int .i64 a2] w fun e w' => e = .returned (.bool r) ∧ Below w.heap.size w w' := cK.sJ gb111 A0 c0 l0 a1 a2 A3_0 c3_0 l3_0 a3_1 a3_2 a3_3 r w w hr0 hc0 hr3_0 hc3_0 hbox rfl h
end Go.Proofs.YthckiolgpgplpaaDoor.YD
