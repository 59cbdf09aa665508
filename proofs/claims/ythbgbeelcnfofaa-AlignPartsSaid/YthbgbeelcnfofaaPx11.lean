-- Written by a program of this session (its own turn of the print: wip/patch_print.py), not by hand. Lean checks it.
import Derived.Test.YthbgbeelcnfofaaPx0
import Derived.Test.YthbgbeelcnfofaaPx10
namespace Go.Proofs.Ythbgbeelcnfofaa.P
open Go.RowKit Go.Proofs.YthbgbeelcnfofaaW.PrintWords Go.Proofs.YthbgbeelcnfofaaW.PrintLast Go.Proofs.YthbgbeelcnfofaaW.PrintMore
attribute [local go_sem] max2_int min2_int max_two min_two max_three min_three max_four min_four   -- for this text's walks alone
set_option linter.unusedVariables false
set_option linter.unusedSimpArgs false

/-! ### parallaxref01_Text: function 37 -/
def parallaxref01_Text.l0 : Nat → Int → ByteArray → Int → Option (ByteArray)
  | 0, _, _, _ => none
  | k + 1, x0, x3, x4 => if x3.toList = ([] : List UInt8) then ((some (([(IntKind.u64.wrap (48 + (Int.tmod x4 10))) % 256] : List Int) : List Int)).bind fun y270 => (if (strOfNums y270).size + x3.size ≤ 9223372036854775807 then (parallaxref01_Text.l0 k x0 ((strOfNums y270) ++ x3) (IntKind.u64.wrap (Int.tdiv x4 10))) else (none))) else (if x4 > 0 then ((some (([(IntKind.u64.wrap (48 + (Int.tmod x4 10))) % 256] : List Int) : List Int)).bind fun y273 => (if (strOfNums y273).size + x3.size ≤ 9223372036854775807 then (parallaxref01_Text.l0 k x0 ((strOfNums y273) ++ x3) (IntKind.u64.wrap (Int.tdiv x4 10))) else (none))) else (if x0 < 0 then (if 1 + x3.size ≤ 9223372036854775807 then (some ((⟨#[45]⟩ : ByteArray) ++ x3)) else (none)) else (some x3)))
def parallaxref01_Text.f (k : Nat) (a0 : Int) : Option (ByteArray) := (parallaxref01_size.f k a0).bind fun t269 => (parallaxref01_Text.l0 k a0 (⟨#[]⟩ : ByteArray) t269)
theorem parallaxref01_Text.mono_l : ∀ k, (∀ y0 y1 y2, LeO (parallaxref01_Text.l0 k y0 y1 y2) (parallaxref01_Text.l0 (k + 1) y0 y1 y2))
  | 0 => fun _ _ _ r h => by simp [parallaxref01_Text.l0] at h
  | k + 1 => by
    have ih0 := parallaxref01_Text.mono_l k
    · intro y0 y1 y2
      unfold parallaxref01_Text.l0
      repeat' first
      | (with_reducible exact ih0 _ _ _)
      | (with_reducible exact parallaxref01_size.mono _ _)
      | (with_reducible exact LeO.refl _)
      | (with_reducible exact LeO.none _)
      | (with_reducible refine LeO.ite ?_ ?_)
      | (with_reducible refine LeO.bind ?_ (fun _ => ?_))
      | exact ih0 _ _ _
      | exact parallaxref01_size.mono _ _
      | exact LeO.none _
      | refine LeO.ite ?_ ?_
      | refine LeO.bind ?_ (fun _ => ?_)
theorem parallaxref01_Text.mono : ∀ a0 k, LeO (parallaxref01_Text.f k a0) (parallaxref01_Text.f (k + 1) a0) := by
  intro a0 k
  have ih0 := parallaxref01_Text.mono_l k
  unfold parallaxref01_Text.f
  repeat' first
      | (with_reducible exact ih0 _ _ _)
      | (with_reducible exact parallaxref01_size.mono _ _)
      | (with_reducible exact LeO.refl _)
      | (with_reducible exact LeO.none _)
      | (with_reducible refine LeO.ite ?_ ?_)
      | (with_reducible refine LeO.bind ?_ (fun _ => ?_))
      | exact ih0 _ _ _
      | exact parallaxref01_size.mono _ _
      | exact LeO.none _
      | refine LeO.ite ?_ ?_
      | refine LeO.bind ?_ (fun _ => ?_)
set_option maxHeartbeats 8000000 in
set_option maxRecDepth 100000 in
theorem parallaxref01_Text.calls (k : Nat) (a0 : Int) (r : ByteArray) (w : World) (h : parallaxref01_Text.f k a0 = some r) :
    Calls Try.prog 37 #[.int .i64 a0] w fun e w' => e = .returned (.string r) ∧ Below w.heap.size w w' := by
  have HB := Aside0.mk (Below.refl w.heap.size w)
  have H : ((parallaxref01_size.f k a0).bind fun t269 => (parallaxref01_Text.l0 k a0 (⟨#[]⟩ : ByteArray) t269)) = some r := h
  clear h
  replace H := Option.bind_eq_some_iff.mp H
  obtain ⟨t269, A20, H⟩ := H
  replace H : (parallaxref01_Text.l0 k a0 (⟨#[]⟩ : ByteArray) t269) = some r := H
  have A2 := Aside0.mk A20
  clear A20
  have H' := Aside0.mk H
  clear H
  go_enter Try.func37, Try.ntmps37
  go_wp2_with (first | ((with_reducible refine gate_callee (f := 47) rfl ?_); refine goesL_ (some 6) rfl rfl Try.func47 (by kernel_rfl) rfl #[.int .i64 a0] rfl (by (try simp only [List.map_toArray, List.map_cons, List.map_nil]); first | done | rfl | (simp only [List.length_drop, List.length_take]; rfl)) ?_; (with_reducible refine (parallaxref01_size.calls k a0 t269 _ A2.out).mono ?_); rintro e w3 ⟨rfl, hb⟩; refine ⟨_, rfl, ?_⟩; have n0_ := Aside0.mk (below_step (by repeat (first | (with_reducible first | exact HB.out | apply below_alloc | apply pw_below_drewN | apply below_drew1) | exact HB.out)) hb); clear HB; have HB := n0_; clear n0_; (try clear hb); (try clear hb2); (try clear hk); (try clear hi)))
  go_loopg [3, 4] k (fun kq v3 v4 w' => ∃ (x3_1 : ByteArray) (x4_1 : Int), v3 = .string x3_1 ∧ v4 = .int .u64 x4_1 ∧ Aside0 (parallaxref01_Text.l0 kq a0 x3_1 x4_1 = some r) ∧ Aside0 (kq ≤ k) ∧ Aside0 (Below w.heap.size w w'))
  case atStart => exact ⟨((⟨#[]⟩ : ByteArray)), (t269), (by first | rfl | (simp; done) | (simp [*]; done)), (by first | rfl | (simp; done) | (simp [*]; done)), H', ⟨Nat.le_refl _⟩, ⟨by repeat (first | (with_reducible first | exact HB.out | apply below_alloc | apply pw_below_drewN | apply below_drew1) | exact HB.out)⟩⟩
  case round =>
    clear H'
    try clear p2
    try clear c3
    obtain ⟨x3_1, x4_1, rfl, rfl, HA, HK1, HB⟩ := hrel
    cases gk with
    | zero => exact absurd HA.out (by simp [parallaxref01_Text.l0])
    | succ k1 =>
      have H := HA.out
      clear HA
      simp only [parallaxref01_Text.l0] at H
      by_cases c4 : x3_1.toList = ([] : List UInt8)
      · rw [if_pos c4] at H
        have c4b0 : (x3_1.toList == ([] : List UInt8)) = true := beq_iff_eq.mpr c4
        have c4b1 : (x3_1.toList != ([] : List UInt8)) = false := bne_eq_false_iff_eq.mpr c4
        clear c4
        obtain ⟨y270, hy270⟩ : ∃ y_ : List Int, y_ = (([(IntKind.u64.wrap (48 + (Int.tmod x4_1 10))) % 256] : List Int)) := ⟨_, rfl⟩
        replace H : (if (strOfNums y270).size + x3_1.size ≤ 9223372036854775807 then (parallaxref01_Text.l0 k1 a0 ((strOfNums y270) ++ x3_1) (IntKind.u64.wrap (Int.tdiv x4_1 10))) else (none)) = some r := by first | (rw [hy270]; with_reducible exact H) | (have H2_ := (Option.bind_some _ _).symm.trans H; rw [hy270]; with_reducible exact H2_) | (have H2_ := (Option.bind_some _ _).symm.trans H; with_reducible exact H2_) | with_reducible exact H | (rw [hy270]; exact H) | exact H
        have Ny270 := Aside0.mk hy270
        clear hy270
        by_cases c5 : (strOfNums y270).size + x3_1.size ≤ 9223372036854775807
        · rw [if_pos c5] at H
          have c5b0 := eq_true c5
          have c5b1 : decide ((strOfNums y270).size + x3_1.size ≤ 9223372036854775807) = true := decide_eq_true c5
          try have c5b2 : (9223372036854775807 < (strOfNums y270).size + x3_1.size) = False := eq_false (Nat.not_lt.2 c5)
          have H' := Aside0.mk H
          clear H
          go_wp2_with (first | ((with_reducible refine gate_dst (N := 17) rfl ?_); refine Kd.R_lit (Kd.int .u8) _ 5 ?hg (N := 17) ?hd (xs := ([(IntKind.u64.wrap (48 + (Int.tmod x4_1 10))) % 256] : List Int)) (inner := [.int .u8 ((IntKind.u64.wrap (48 + (Int.tmod x4_1 10))) % 256)]) (ok := fun _ => True) (okp := fun _ => True) ?hr ?hp (fun _ hk => hk) trivial (Below.refl _ _) (Nat.le_refl _) (by simp) ?_; (case hd => rfl); (case hg => rfl); (case hr => first | (go_simp; done) | (go_simp; rfl)); (case hp => exact (Reps.one (show Kd.M (Kd.int .u8) _ _ _ ((IntKind.u64.wrap (48 + (Int.tmod x4_1 10))) % 256) [.int .u8 ((IntKind.u64.wrap (48 + (Int.tmod x4_1 10))) % 256)] from rfl) (Reps.none _ _))); intro v271 w6 ho7 hb hg_ hnew_; clear hg_ hnew_; (first | rw [← Ny270.out] at ho7 | (simp only [Int.reduceToNat] at ho7; rw [← Ny270.out] at ho7)); have n0_ := Aside0.mk (Kd.R_lower ho7 (below_size (by repeat (first | (with_reducible first | exact HB.out | apply below_alloc | apply pw_below_drewN | apply below_drew1) | exact HB.out)))); have n1_ := Aside0.mk (below_step (by repeat (first | (with_reducible first | exact HB.out | apply below_alloc | apply pw_below_drewN | apply below_drew1) | exact HB.out)) hb); clear HB; have HO272 := n0_; have HB := n1_; clear n0_ n1_; clear hb ho7; have hcv8 := own_string (P := Try.prog) Try.underlying79 Try.underlying5 Try.underlying9 (Kd.own_of_R HO272.out)))
          go_roundg k1
          case measure => have := HK1.out; omega
          case rel => exact ⟨((strOfNums y270) ++ x3_1), (IntKind.u64.wrap (Int.tdiv x4_1 10)), (by first | rfl | (simp; done) | (simp [*]; done)), (by first | rfl | (simp; done) | (simp [*]; done)), H', ⟨by have := HK1.out; omega⟩, ⟨by repeat (first | (with_reducible first | exact HB.out | apply below_alloc | apply pw_below_drewN | apply below_drew1) | exact HB.out)⟩⟩
        · rw [if_neg c5] at H
          exact absurd H (by simp)
      · rw [if_neg c4] at H
        have c4b0 : (x3_1.toList == ([] : List UInt8)) = false := beq_eq_false_iff_ne.mpr c4
        have c4b1 : (x3_1.toList != ([] : List UInt8)) = true := bne_iff_ne.mpr c4
        by_cases c9 : x4_1 > 0
        · rw [if_pos c9] at H
          have c9b0 : decide (0 < x4_1) = true := decide_eq_true c9
          clear c9
          obtain ⟨y273, hy273⟩ : ∃ y_ : List Int, y_ = (([(IntKind.u64.wrap (48 + (Int.tmod x4_1 10))) % 256] : List Int)) := ⟨_, rfl⟩
          replace H : (if (strOfNums y273).size + x3_1.size ≤ 9223372036854775807 then (parallaxref01_Text.l0 k1 a0 ((strOfNums y273) ++ x3_1) (IntKind.u64.wrap (Int.tdiv x4_1 10))) else (none)) = some r := by first | (rw [hy273]; with_reducible exact H) | (have H2_ := (Option.bind_some _ _).symm.trans H; rw [hy273]; with_reducible exact H2_) | (have H2_ := (Option.bind_some _ _).symm.trans H; with_reducible exact H2_) | with_reducible exact H | (rw [hy273]; exact H) | exact H
          have Ny273 := Aside0.mk hy273
          clear hy273
          by_cases c10 : (strOfNums y273).size + x3_1.size ≤ 9223372036854775807
          · rw [if_pos c10] at H
            have c10b0 := eq_true c10
            have c10b1 : decide ((strOfNums y273).size + x3_1.size ≤ 9223372036854775807) = true := decide_eq_true c10
            try have c10b2 : (9223372036854775807 < (strOfNums y273).size + x3_1.size) = False := eq_false (Nat.not_lt.2 c10)
            have H' := Aside0.mk H
            clear H
            go_wp2_with (first | ((with_reducible refine gate_dst (N := 17) rfl ?_); refine Kd.R_lit (Kd.int .u8) _ 5 ?hg (N := 17) ?hd (xs := ([(IntKind.u64.wrap (48 + (Int.tmod x4_1 10))) % 256] : List Int)) (inner := [.int .u8 ((IntKind.u64.wrap (48 + (Int.tmod x4_1 10))) % 256)]) (ok := fun _ => True) (okp := fun _ => True) ?hr ?hp (fun _ hk => hk) trivial (Below.refl _ _) (Nat.le_refl _) (by simp) ?_; (case hd => rfl); (case hg => rfl); (case hr => first | (go_simp; done) | (go_simp; rfl)); (case hp => exact (Reps.one (show Kd.M (Kd.int .u8) _ _ _ ((IntKind.u64.wrap (48 + (Int.tmod x4_1 10))) % 256) [.int .u8 ((IntKind.u64.wrap (48 + (Int.tmod x4_1 10))) % 256)] from rfl) (Reps.none _ _))); intro v274 w11 ho12 hb hg_ hnew_; clear hg_ hnew_; (first | rw [← Ny273.out] at ho12 | (simp only [Int.reduceToNat] at ho12; rw [← Ny273.out] at ho12)); have n0_ := Aside0.mk (Kd.R_lower ho12 (below_size (by repeat (first | (with_reducible first | exact HB.out | apply below_alloc | apply pw_below_drewN | apply below_drew1) | exact HB.out)))); have n1_ := Aside0.mk (below_step (by repeat (first | (with_reducible first | exact HB.out | apply below_alloc | apply pw_below_drewN | apply below_drew1) | exact HB.out)) hb); clear HB; have HO275 := n0_; have HB := n1_; clear n0_ n1_; clear hb ho12; have hcv13 := own_string (P := Try.prog) Try.underlying79 Try.underlying5 Try.underlying9 (Kd.own_of_R HO275.out)))
            go_roundg k1
            case measure => have := HK1.out; omega
            case rel => exact ⟨((strOfNums y273) ++ x3_1), (IntKind.u64.wrap (Int.tdiv x4_1 10)), (by first | rfl | (simp; done) | (simp [*]; done)), (by first | rfl | (simp; done) | (simp [*]; done)), H', ⟨by have := HK1.out; omega⟩, ⟨by repeat (first | (with_reducible first | exact HB.out | apply below_alloc | apply pw_below_drewN | apply below_drew1) | exact HB.out)⟩⟩
          · rw [if_neg c10] at H
            exact absurd H (by simp)
        · rw [if_neg c9] at H
          have c9b0 : decide (0 < x4_1) = false := decide_eq_false c9
          clear c9
          by_cases c14 : a0 < 0
          · rw [if_pos c14] at H
            have c14b0 : decide (a0 < 0) = true := decide_eq_true c14
            clear c14
            by_cases c15 : 1 + x3_1.size ≤ 9223372036854775807
            · rw [if_pos c15] at H
              have c15b0 := eq_true c15
              have c15b1 : decide (1 + x3_1.size ≤ 9223372036854775807) = true := decide_eq_true c15
              try have c15b2 : (9223372036854775807 < 1 + x3_1.size) = False := eq_false (Nat.not_lt.2 c15)
              obtain rfl := Option.some.inj H
              go_wp2
              go_ret
              exact ⟨by first | rfl | (simp [errW_none, errW_some] <;> rfl) | (simp [*, errW_none, errW_some] <;> rfl), by repeat (first | (with_reducible first | exact HB.out | apply below_alloc | apply pw_below_drewN | apply below_drew1) | exact HB.out)⟩
            · rw [if_neg c15] at H
              exact absurd H (by simp)
          · rw [if_neg c14] at H
            have c14b0 : decide (a0 < 0) = false := decide_eq_false c14
            clear c14
            obtain rfl := Option.some.inj H
            go_wp2
            go_ret
            exact ⟨by first | rfl | (simp [errW_none, errW_some] <;> rfl) | (simp [*, errW_none, errW_some] <;> rfl), by repeat (first | (with_reducible first | exact HB.out | apply below_alloc | apply pw_below_drewN | apply below_drew1) | exact HB.out)⟩

/-! ### parallaxref15_Text: function 16 -/
def parallaxref15_Text.f (k : Nat) (a0_0 : Int) (a0_1 : Int) : Option (ByteArray) := (parallaxref01_Text.f k a0_1).bind fun t277 => (if 6 + t277.size ≤ 9223372036854775807 then (if 5 + t277.size ≤ 9223372036854775807 then ((some (([(⟨#[]⟩ : ByteArray), (⟨#[112, 114, 105, 110, 116, 32]⟩ : ByteArray) ++ t277, (⟨#[114, 101, 97, 100, 32]⟩ : ByteArray) ++ t277, (⟨#[101, 110, 100]⟩ : ByteArray), (⟨#[116, 114, 97, 112, 32]⟩ : ByteArray) ++ t277, (⟨#[102, 117, 101, 108]⟩ : ByteArray)] : List ByteArray) : List ByteArray)).bind fun y278 => (if a0_0 < 1 then ((parallaxref01_Text.f k a0_0).bind fun t281 => (if 6 + t281.size ≤ 9223372036854775807 then (if ((⟨#[101, 118, 101, 110, 116, 32]⟩ : ByteArray) ++ t281).size + 1 ≤ 9223372036854775807 then (if (((⟨#[101, 118, 101, 110, 116, 32]⟩ : ByteArray) ++ t281) ++ (⟨#[32]⟩ : ByteArray)).size + t277.size ≤ 9223372036854775807 then (some ((((⟨#[101, 118, 101, 110, 116, 32]⟩ : ByteArray) ++ t281) ++ (⟨#[32]⟩ : ByteArray)) ++ t277)) else (none)) else (none)) else (none))) else (if a0_0 > 5 then ((parallaxref01_Text.f k a0_0).bind fun t282 => (if 6 + t282.size ≤ 9223372036854775807 then (if ((⟨#[101, 118, 101, 110, 116, 32]⟩ : ByteArray) ++ t282).size + 1 ≤ 9223372036854775807 then (if (((⟨#[101, 118, 101, 110, 116, 32]⟩ : ByteArray) ++ t282) ++ (⟨#[32]⟩ : ByteArray)).size + t277.size ≤ 9223372036854775807 then (some ((((⟨#[101, 118, 101, 110, 116, 32]⟩ : ByteArray) ++ t282) ++ (⟨#[32]⟩ : ByteArray)) ++ t277)) else (none)) else (none)) else (none))) else (if 0 ≤ a0_0 then (if a0_0 < (y278.length : Int) then (some (rdOf ByteArray.empty y278 a0_0)) else (none)) else (none))))) else (none)) else (none))
theorem parallaxref15_Text.mono : ∀ a0 a1 k, LeO (parallaxref15_Text.f k a0 a1) (parallaxref15_Text.f (k + 1) a0 a1) := by
  intro a0 a1 k
  unfold parallaxref15_Text.f
  repeat' first
      | (with_reducible exact parallaxref01_Text.mono _ _)
      | (with_reducible exact LeO.refl _)
      | (with_reducible exact LeO.none _)
      | (with_reducible refine LeO.ite ?_ ?_)
      | (with_reducible refine LeO.bind ?_ (fun _ => ?_))
      | exact parallaxref01_Text.mono _ _
      | exact LeO.none _
      | refine LeO.ite ?_ ?_
      | refine LeO.bind ?_ (fun _ => ?_)
set_option maxHeartbeats 8000000 in
set_option maxRecDepth 100000 in
theorem parallaxref15_Text.calls (k : Nat) (a0_0 : Int) (a0_1 : Int) (r : ByteArray) (w : World) (h : parallaxref15_Text.f k a0_0 a0_1 = some r) :
    Calls Try.prog 16 #[.agg #[.int .i64 a0_0, .int .i64 a0_1]] w fun e w' => e = .returned (.string r) ∧ Below w.heap.size w w' := by
  have hu24 := Try.underlying24
  have HB := Aside0.mk (Below.refl w.heap.size w)
  have H : ((parallaxref01_Text.f k a0_1).bind fun t277 => (if 6 + t277.size ≤ 9223372036854775807 then (if 5 + t277.size ≤ 9223372036854775807 then ((some (([(⟨#[]⟩ : ByteArray), (⟨#[112, 114, 105, 110, 116, 32]⟩ : ByteArray) ++ t277, (⟨#[114, 101, 97, 100, 32]⟩ : ByteArray) ++ t277, (⟨#[101, 110, 100]⟩ : ByteArray), (⟨#[116, 114, 97, 112, 32]⟩ : ByteArray) ++ t277, (⟨#[102, 117, 101, 108]⟩ : ByteArray)] : List ByteArray) : List ByteArray)).bind fun y278 => (if a0_0 < 1 then ((parallaxref01_Text.f k a0_0).bind fun t281 => (if 6 + t281.size ≤ 9223372036854775807 then (if ((⟨#[101, 118, 101, 110, 116, 32]⟩ : ByteArray) ++ t281).size + 1 ≤ 9223372036854775807 then (if (((⟨#[101, 118, 101, 110, 116, 32]⟩ : ByteArray) ++ t281) ++ (⟨#[32]⟩ : ByteArray)).size + t277.size ≤ 9223372036854775807 then (some ((((⟨#[101, 118, 101, 110, 116, 32]⟩ : ByteArray) ++ t281) ++ (⟨#[32]⟩ : ByteArray)) ++ t277)) else (none)) else (none)) else (none))) else (if a0_0 > 5 then ((parallaxref01_Text.f k a0_0).bind fun t282 => (if 6 + t282.size ≤ 9223372036854775807 then (if ((⟨#[101, 118, 101, 110, 116, 32]⟩ : ByteArray) ++ t282).size + 1 ≤ 9223372036854775807 then (if (((⟨#[101, 118, 101, 110, 116, 32]⟩ : ByteArray) ++ t282) ++ (⟨#[32]⟩ : ByteArray)).size + t277.size ≤ 9223372036854775807 then (some ((((⟨#[101, 118, 101, 110, 116, 32]⟩ : ByteArray) ++ t282) ++ (⟨#[32]⟩ : ByteArray)) ++ t277)) else (none)) else (none)) else (none))) else (if 0 ≤ a0_0 then (if a0_0 < (y278.length : Int) then (some (rdOf ByteArray.empty y278 a0_0)) else (none)) else (none))))) else (none)) else (none))) = some r := h
  clear h
  replace H := Option.bind_eq_some_iff.mp H
  obtain ⟨t277, A20, H⟩ := H
  replace H : (if 6 + t277.size ≤ 9223372036854775807 then (if 5 + t277.size ≤ 9223372036854775807 then ((some (([(⟨#[]⟩ : ByteArray), (⟨#[112, 114, 105, 110, 116, 32]⟩ : ByteArray) ++ t277, (⟨#[114, 101, 97, 100, 32]⟩ : ByteArray) ++ t277, (⟨#[101, 110, 100]⟩ : ByteArray), (⟨#[116, 114, 97, 112, 32]⟩ : ByteArray) ++ t277, (⟨#[102, 117, 101, 108]⟩ : ByteArray)] : List ByteArray) : List ByteArray)).bind fun y278 => (if a0_0 < 1 then ((parallaxref01_Text.f k a0_0).bind fun t281 => (if 6 + t281.size ≤ 9223372036854775807 then (if ((⟨#[101, 118, 101, 110, 116, 32]⟩ : ByteArray) ++ t281).size + 1 ≤ 9223372036854775807 then (if (((⟨#[101, 118, 101, 110, 116, 32]⟩ : ByteArray) ++ t281) ++ (⟨#[32]⟩ : ByteArray)).size + t277.size ≤ 9223372036854775807 then (some ((((⟨#[101, 118, 101, 110, 116, 32]⟩ : ByteArray) ++ t281) ++ (⟨#[32]⟩ : ByteArray)) ++ t277)) else (none)) else (none)) else (none))) else (if a0_0 > 5 then ((parallaxref01_Text.f k a0_0).bind fun t282 => (if 6 + t282.size ≤ 9223372036854775807 then (if ((⟨#[101, 118, 101, 110, 116, 32]⟩ : ByteArray) ++ t282).size + 1 ≤ 9223372036854775807 then (if (((⟨#[101, 118, 101, 110, 116, 32]⟩ : ByteArray) ++ t282) ++ (⟨#[32]⟩ : ByteArray)).size + t277.size ≤ 9223372036854775807 then (some ((((⟨#[101, 118, 101, 110, 116, 32]⟩ : ByteArray) ++ t282) ++ (⟨#[32]⟩ : ByteArray)) ++ t277)) else (none)) else (none)) else (none))) else (if 0 ≤ a0_0 then (if a0_0 < (y278.length : Int) then (some (rdOf ByteArray.empty y278 a0_0)) else (none)) else (none))))) else (none)) else (none)) = some r := H
  have A2 := Aside0.mk A20
  clear A20
  by_cases c3 : 6 + t277.size ≤ 9223372036854775807
  · rw [if_pos c3] at H
    have c3b0 := eq_true c3
    have c3b1 : decide (6 + t277.size ≤ 9223372036854775807) = true := decide_eq_true c3
    try have c3b2 : (9223372036854775807 < 6 + t277.size) = False := eq_false (Nat.not_lt.2 c3)
    by_cases c4 : 5 + t277.size ≤ 9223372036854775807
    · rw [if_pos c4] at H
      have c4b0 := eq_true c4
      have c4b1 : decide (5 + t277.size ≤ 9223372036854775807) = true := decide_eq_true c4
      try have c4b2 : (9223372036854775807 < 5 + t277.size) = False := eq_false (Nat.not_lt.2 c4)
      obtain ⟨y278, hy278⟩ : ∃ y_ : List ByteArray, y_ = (([(⟨#[]⟩ : ByteArray), (⟨#[112, 114, 105, 110, 116, 32]⟩ : ByteArray) ++ t277, (⟨#[114, 101, 97, 100, 32]⟩ : ByteArray) ++ t277, (⟨#[101, 110, 100]⟩ : ByteArray), (⟨#[116, 114, 97, 112, 32]⟩ : ByteArray) ++ t277, (⟨#[102, 117, 101, 108]⟩ : ByteArray)] : List ByteArray)) := ⟨_, rfl⟩
      replace H : (if a0_0 < 1 then ((parallaxref01_Text.f k a0_0).bind fun t281 => (if 6 + t281.size ≤ 9223372036854775807 then (if ((⟨#[101, 118, 101, 110, 116, 32]⟩ : ByteArray) ++ t281).size + 1 ≤ 9223372036854775807 then (if (((⟨#[101, 118, 101, 110, 116, 32]⟩ : ByteArray) ++ t281) ++ (⟨#[32]⟩ : ByteArray)).size + t277.size ≤ 9223372036854775807 then (some ((((⟨#[101, 118, 101, 110, 116, 32]⟩ : ByteArray) ++ t281) ++ (⟨#[32]⟩ : ByteArray)) ++ t277)) else (none)) else (none)) else (none))) else (if a0_0 > 5 then ((parallaxref01_Text.f k a0_0).bind fun t282 => (if 6 + t282.size ≤ 9223372036854775807 then (if ((⟨#[101, 118, 101, 110, 116, 32]⟩ : ByteArray) ++ t282).size + 1 ≤ 9223372036854775807 then (if (((⟨#[101, 118, 101, 110, 116, 32]⟩ : ByteArray) ++ t282) ++ (⟨#[32]⟩ : ByteArray)).size + t277.size ≤ 9223372036854775807 then (some ((((⟨#[101, 118, 101, 110, 116, 32]⟩ : ByteArray) ++ t282) ++ (⟨#[32]⟩ : ByteArray)) ++ t277)) else (none)) else (none)) else (none))) else (if 0 ≤ a0_0 then (if a0_0 < (y278.length : Int) then (some (rdOf ByteArray.empty y278 a0_0)) else (none)) else (none)))) = some r := by first | (rw [hy278]; with_reducible exact H) | (have H2_ := (Option.bind_some _ _).symm.trans H; rw [hy278]; with_reducible exact H2_) | (have H2_ := (Option.bind_some _ _).symm.trans H; with_reducible exact H2_) | with_reducible exact H | (rw [hy278]; exact H) | exact H
      have Ny278 := Aside0.mk hy278
      clear hy278
      by_cases c5 : a0_0 < 1
      · rw [if_pos c5] at H
        have c5b0 : decide (a0_0 < 1) = true := decide_eq_true c5
        clear c5
        replace H := Option.bind_eq_some_iff.mp H
        obtain ⟨t281, A60, H⟩ := H
        replace H : (if 6 + t281.size ≤ 9223372036854775807 then (if ((⟨#[101, 118, 101, 110, 116, 32]⟩ : ByteArray) ++ t281).size + 1 ≤ 9223372036854775807 then (if (((⟨#[101, 118, 101, 110, 116, 32]⟩ : ByteArray) ++ t281) ++ (⟨#[32]⟩ : ByteArray)).size + t277.size ≤ 9223372036854775807 then (some ((((⟨#[101, 118, 101, 110, 116, 32]⟩ : ByteArray) ++ t281) ++ (⟨#[32]⟩ : ByteArray)) ++ t277)) else (none)) else (none)) else (none)) = some r := H
        have A6 := Aside0.mk A60
        clear A60
        by_cases c7 : 6 + t281.size ≤ 9223372036854775807
        · rw [if_pos c7] at H
          have c7b0 := eq_true c7
          have c7b1 : decide (6 + t281.size ≤ 9223372036854775807) = true := decide_eq_true c7
          try have c7b2 : (9223372036854775807 < 6 + t281.size) = False := eq_false (Nat.not_lt.2 c7)
          by_cases c8 : ((⟨#[101, 118, 101, 110, 116, 32]⟩ : ByteArray) ++ t281).size + 1 ≤ 9223372036854775807
          · rw [if_pos c8] at H
            have c8b0 := eq_true c8
            have c8b1 : decide (((⟨#[101, 118, 101, 110, 116, 32]⟩ : ByteArray) ++ t281).size + 1 ≤ 9223372036854775807) = true := decide_eq_true c8
            try have c8b2 : (9223372036854775807 < ((⟨#[101, 118, 101, 110, 116, 32]⟩ : ByteArray) ++ t281).size + 1) = False := eq_false (Nat.not_lt.2 c8)
            try have c8b3 : (9223372036854775807 < 6 + t281.size + 1) = False := eq_false (Nat.not_lt.2 (show 6 + t281.size + 1 ≤ 9223372036854775807 from by have h_ := c8; simp only [ByteArray.size_append] at h_; exact h_))
            by_cases c9 : (((⟨#[101, 118, 101, 110, 116, 32]⟩ : ByteArray) ++ t281) ++ (⟨#[32]⟩ : ByteArray)).size + t277.size ≤ 9223372036854775807
            · rw [if_pos c9] at H
              have c9b0 := eq_true c9
              have c9b1 : decide ((((⟨#[101, 118, 101, 110, 116, 32]⟩ : ByteArray) ++ t281) ++ (⟨#[32]⟩ : ByteArray)).size + t277.size ≤ 9223372036854775807) = true := decide_eq_true c9
              try have c9b2 : (9223372036854775807 < (((⟨#[101, 118, 101, 110, 116, 32]⟩ : ByteArray) ++ t281) ++ (⟨#[32]⟩ : ByteArray)).size + t277.size) = False := eq_false (Nat.not_lt.2 c9)
              try have c9b3 : (9223372036854775807 < 6 + t281.size + 1 + t277.size) = False := eq_false (Nat.not_lt.2 (show 6 + t281.size + 1 + t277.size ≤ 9223372036854775807 from by have h_ := c9; simp only [ByteArray.size_append] at h_; exact h_))
              obtain rfl := Option.some.inj H
              go_enter Try.func16, Try.ntmps16
              go_wp2_with (first | ((with_reducible refine gate_dst (N := 1) rfl ?_); refine box_event ?hg (N := 1) ?hd (cs := #[.int .i64 a0_0, .int .i64 a0_1]) (t := 24) ?hr ?_; (case hd => rfl); (case hg => rfl); (case hr => first | (go_simp; done) | (go_simp; rfl)); intro gb276 hg w10 hbox hb; have n0_ := Aside0.mk (below_step (by repeat (first | (with_reducible first | exact HB.out | apply below_alloc | apply pw_below_drewN | apply below_drew1) | exact HB.out)) hb); have n1_ := Aside0.mk (hbox); have n2_ := Aside0.mk ((by rw [hg]; exact (below_size (by repeat (first | (with_reducible first | exact HB.out | apply below_alloc | apply pw_below_drewN | apply below_drew1) | exact HB.out))) : w.heap.size ≤ gb276)); have n3_ := Aside0.mk ((by rw [hg]; exact (below_size (by repeat (first | (with_reducible first | exact HB.out | apply below_alloc | apply pw_below_drewN | apply below_drew1) | exact HB.out))) : w.heap.size ≤ gb276)); clear HB; have HB := n0_; have BK276 := n1_; have GW276 := n2_; have GE276 := n3_; clear n0_ n1_ n2_ n3_; clear hb hbox hg; have hcz11_0 : w10.cell? ⟨gb276, 0, none⟩ = some (.int .i64 a0_0) := (blk_cell BK276.out 0).trans rfl; have hcz11_1 : w10.cell? ⟨gb276, 1, none⟩ = some (.int .i64 a0_1) := (blk_cell BK276.out 1).trans rfl; have hfz11_0 := blk_frozen BK276.out 0; have hfz11_1 := blk_frozen BK276.out 1) | ((with_reducible refine gate_callee (f := 37) rfl ?_); refine goesL_ (some 7) rfl rfl Try.func37 (by kernel_rfl) rfl #[.int .i64 a0_1] rfl (by (try simp only [List.map_toArray, List.map_cons, List.map_nil]); first | done | rfl | (simp only [List.length_drop, List.length_take]; rfl)) ?_; (with_reducible refine (parallaxref01_Text.calls k a0_1 t277 _ A2.out).mono ?_); rintro e w12 ⟨rfl, hb⟩; refine ⟨_, rfl, ?_⟩; have n0_ := Aside0.mk (blk_below (g := gb276) (o := .cells #[.int .i64 a0_0, .int .i64 a0_1] 24 (0, 0)) (by (with_reducible repeat (first | refine blk_drewN ?_ _ | refine blk_drew ?_ | refine blk_alloc ?_ _)); exact BK276.out) hb); have n1_ := Aside0.mk (below_step (by repeat (first | (with_reducible first | exact HB.out | apply below_alloc | apply pw_below_drewN | apply below_drew1 | refine below_set ?_ GE276.out) | exact HB.out)) hb); clear BK276; clear HB; have BK276 := n0_; have HB := n1_; clear n0_ n1_; (try clear hb); (try clear hb2); (try clear hk); (try clear hi)) | ((with_reducible refine gate_dst (N := 14) rfl ?_); refine Kd.R_lit Kd.string _ 9 ?hg (N := 14) ?hd (xs := ([(⟨#[]⟩ : ByteArray), (⟨#[112, 114, 105, 110, 116, 32]⟩ : ByteArray) ++ t277, (⟨#[114, 101, 97, 100, 32]⟩ : ByteArray) ++ t277, (⟨#[101, 110, 100]⟩ : ByteArray), (⟨#[116, 114, 97, 112, 32]⟩ : ByteArray) ++ t277, (⟨#[102, 117, 101, 108]⟩ : ByteArray)] : List ByteArray)) (inner := [.string (⟨#[]⟩ : ByteArray), .string ((⟨#[112, 114, 105, 110, 116, 32]⟩ : ByteArray) ++ t277), .string ((⟨#[114, 101, 97, 100, 32]⟩ : ByteArray) ++ t277), .string (⟨#[101, 110, 100]⟩ : ByteArray), .string ((⟨#[116, 114, 97, 112, 32]⟩ : ByteArray) ++ t277), .string (⟨#[102, 117, 101, 108]⟩ : ByteArray)]) (ok := fun _ => True) (okp := fun _ => True) ?hr ?hp (fun _ hk => hk) trivial (Below.refl _ _) (Nat.le_refl _) (by simp) ?_; (case hd => rfl); (case hg => rfl); (case hr => first | (go_simp; done) | (go_simp; rfl)); (case hp => exact (Reps.one (show Kd.M Kd.string _ _ _ (⟨#[]⟩ : ByteArray) [.string (⟨#[]⟩ : ByteArray)] from rfl) (Reps.one (show Kd.M Kd.string _ _ _ ((⟨#[112, 114, 105, 110, 116, 32]⟩ : ByteArray) ++ t277) [.string ((⟨#[112, 114, 105, 110, 116, 32]⟩ : ByteArray) ++ t277)] from rfl) (Reps.one (show Kd.M Kd.string _ _ _ ((⟨#[114, 101, 97, 100, 32]⟩ : ByteArray) ++ t277) [.string ((⟨#[114, 101, 97, 100, 32]⟩ : ByteArray) ++ t277)] from rfl) (Reps.one (show Kd.M Kd.string _ _ _ (⟨#[101, 110, 100]⟩ : ByteArray) [.string (⟨#[101, 110, 100]⟩ : ByteArray)] from rfl) (Reps.one (show Kd.M Kd.string _ _ _ ((⟨#[116, 114, 97, 112, 32]⟩ : ByteArray) ++ t277) [.string ((⟨#[116, 114, 97, 112, 32]⟩ : ByteArray) ++ t277)] from rfl) (Reps.one (show Kd.M Kd.string _ _ _ (⟨#[102, 117, 101, 108]⟩ : ByteArray) [.string (⟨#[102, 117, 101, 108]⟩ : ByteArray)] from rfl) (Reps.none _ _)))))))); intro v279 w13 ho14 hb hg_ hnew_; clear hg_ hnew_; (first | rw [← Ny278.out] at ho14 | (simp only [Int.reduceToNat] at ho14; rw [← Ny278.out] at ho14)); have n0_ := Aside0.mk (Kd.R_lower ho14 (below_size (by repeat (first | (with_reducible first | exact HB.out | apply below_alloc | apply pw_below_drewN | apply below_drew1 | refine below_set ?_ GE276.out) | exact HB.out)))); have n1_ := Aside0.mk (blk_below (g := gb276) (o := .cells #[.int .i64 a0_0, .int .i64 a0_1] 24 (0, 0)) (by (with_reducible repeat (first | refine blk_drewN ?_ _ | refine blk_drew ?_ | refine blk_alloc ?_ _)); exact BK276.out) hb); have n2_ := Aside0.mk (below_step (by repeat (first | (with_reducible first | exact HB.out | apply below_alloc | apply pw_below_drewN | apply below_drew1 | refine below_set ?_ GE276.out) | exact HB.out)) hb); clear BK276; clear HB; have HO280 := n0_; have BK276 := n1_; have HB := n2_; clear n0_ n1_ n2_; clear hb ho14; have hcz15_0 : w13.cell? ⟨gb276, 0, none⟩ = some (.int .i64 a0_0) := (blk_cell BK276.out 0).trans rfl; have hcz15_1 : w13.cell? ⟨gb276, 1, none⟩ = some (.int .i64 a0_1) := (blk_cell BK276.out 1).trans rfl; have hfz15_0 := blk_frozen BK276.out 0; have hfz15_1 := blk_frozen BK276.out 1) | ((with_reducible refine gate_callee (f := 37) rfl ?_); refine goesL_ (some 25) rfl rfl Try.func37 (by kernel_rfl) rfl #[.int .i64 a0_0] rfl (by (try simp only [List.map_toArray, List.map_cons, List.map_nil]); first | done | rfl | (simp only [List.length_drop, List.length_take]; rfl)) ?_; (with_reducible refine (parallaxref01_Text.calls k a0_0 t281 _ A6.out).mono ?_); rintro e w16 ⟨rfl, hb⟩; refine ⟨_, rfl, ?_⟩; have n0_ := Aside0.mk (Kd.R_below (by (with_reducible repeat (first | apply Kd.R_alloc | apply Kd.R_drewN | apply Kd.R_drew)); exact HO280.out) hb); have n1_ := Aside0.mk (blk_below (g := gb276) (o := .cells #[.int .i64 a0_0, .int .i64 a0_1] 24 (0, 0)) (by (with_reducible repeat (first | refine blk_drewN ?_ _ | refine blk_drew ?_ | refine blk_alloc ?_ _)); exact BK276.out) hb); have n2_ := Aside0.mk (below_step (by repeat (first | (with_reducible first | exact HB.out | apply below_alloc | apply pw_below_drewN | apply below_drew1 | refine below_set ?_ GE276.out) | exact HB.out)) hb); clear HO280; clear BK276; clear HB; have HO280 := n0_; have BK276 := n1_; have HB := n2_; clear n0_ n1_ n2_; (try clear hb); (try clear hb2); (try clear hk); (try clear hi)))
              go_ret
              exact ⟨by first | rfl | (simp [errW_none, errW_some] <;> rfl) | (simp [*, errW_none, errW_some] <;> rfl), by repeat (first | (with_reducible first | exact HB.out | apply below_alloc | apply pw_below_drewN | apply below_drew1 | refine below_set ?_ GE276.out) | exact HB.out)⟩
            · rw [if_neg c9] at H
              exact absurd H (by simp)
          · rw [if_neg c8] at H
            exact absurd H (by simp)
        · rw [if_neg c7] at H
          exact absurd H (by simp)
      · rw [if_neg c5] at H
        have c5b0 : decide (a0_0 < 1) = false := decide_eq_false c5
        clear c5
        by_cases c17 : a0_0 > 5
        · rw [if_pos c17] at H
          have c17b0 : decide (5 < a0_0) = true := decide_eq_true c17
          clear c17
          replace H := Option.bind_eq_some_iff.mp H
          obtain ⟨t282, A180, H⟩ := H
          replace H : (if 6 + t282.size ≤ 9223372036854775807 then (if ((⟨#[101, 118, 101, 110, 116, 32]⟩ : ByteArray) ++ t282).size + 1 ≤ 9223372036854775807 then (if (((⟨#[101, 118, 101, 110, 116, 32]⟩ : ByteArray) ++ t282) ++ (⟨#[32]⟩ : ByteArray)).size + t277.size ≤ 9223372036854775807 then (some ((((⟨#[101, 118, 101, 110, 116, 32]⟩ : ByteArray) ++ t282) ++ (⟨#[32]⟩ : ByteArray)) ++ t277)) else (none)) else (none)) else (none)) = some r := H
          have A18 := Aside0.mk A180
          clear A180
          by_cases c19 : 6 + t282.size ≤ 9223372036854775807
          · rw [if_pos c19] at H
            have c19b0 := eq_true c19
            have c19b1 : decide (6 + t282.size ≤ 9223372036854775807) = true := decide_eq_true c19
            try have c19b2 : (9223372036854775807 < 6 + t282.size) = False := eq_false (Nat.not_lt.2 c19)
            by_cases c20 : ((⟨#[101, 118, 101, 110, 116, 32]⟩ : ByteArray) ++ t282).size + 1 ≤ 9223372036854775807
            · rw [if_pos c20] at H
              have c20b0 := eq_true c20
              have c20b1 : decide (((⟨#[101, 118, 101, 110, 116, 32]⟩ : ByteArray) ++ t282).size + 1 ≤ 9223372036854775807) = true := decide_eq_true c20
              try have c20b2 : (9223372036854775807 < ((⟨#[101, 118, 101, 110, 116, 32]⟩ : ByteArray) ++ t282).size + 1) = False := eq_false (Nat.not_lt.2 c20)
              try have c20b3 : (9223372036854775807 < 6 + t282.size + 1) = False := eq_false (Nat.not_lt.2 (show 6 + t282.size + 1 ≤ 9223372036854775807 from by have h_ := c20; simp only [ByteArray.size_append] at h_; exact h_))
              by_cases c21 : (((⟨#[101, 118, 101, 110, 116, 32]⟩ : ByteArray) ++ t282) ++ (⟨#[32]⟩ : ByteArray)).size + t277.size ≤ 9223372036854775807
              · rw [if_pos c21] at H
                have c21b0 := eq_true c21
                have c21b1 : decide ((((⟨#[101, 118, 101, 110, 116, 32]⟩ : ByteArray) ++ t282) ++ (⟨#[32]⟩ : ByteArray)).size + t277.size ≤ 9223372036854775807) = true := decide_eq_true c21
                try have c21b2 : (9223372036854775807 < (((⟨#[101, 118, 101, 110, 116, 32]⟩ : ByteArray) ++ t282) ++ (⟨#[32]⟩ : ByteArray)).size + t277.size) = False := eq_false (Nat.not_lt.2 c21)
                try have c21b3 : (9223372036854775807 < 6 + t282.size + 1 + t277.size) = False := eq_false (Nat.not_lt.2 (show 6 + t282.size + 1 + t277.size ≤ 9223372036854775807 from by have h_ := c21; simp only [ByteArray.size_append] at h_; exact h_))
                obtain rfl := Option.some.inj H
                go_enter Try.func16, Try.ntmps16
                go_wp2_with (first | ((with_reducible refine gate_dst (N := 1) rfl ?_); refine box_event ?hg (N := 1) ?hd (cs := #[.int .i64 a0_0, .int .i64 a0_1]) (t := 24) ?hr ?_; (case hd => rfl); (case hg => rfl); (case hr => first | (go_simp; done) | (go_simp; rfl)); intro gb276 hg w22 hbox hb; have n0_ := Aside0.mk (below_step (by repeat (first | (with_reducible first | exact HB.out | apply below_alloc | apply pw_below_drewN | apply below_drew1) | exact HB.out)) hb); have n1_ := Aside0.mk (hbox); have n2_ := Aside0.mk ((by rw [hg]; exact (below_size (by repeat (first | (with_reducible first | exact HB.out | apply below_alloc | apply pw_below_drewN | apply below_drew1) | exact HB.out))) : w.heap.size ≤ gb276)); have n3_ := Aside0.mk ((by rw [hg]; exact (below_size (by repeat (first | (with_reducible first | exact HB.out | apply below_alloc | apply pw_below_drewN | apply below_drew1) | exact HB.out))) : w.heap.size ≤ gb276)); clear HB; have HB := n0_; have BK276 := n1_; have GW276 := n2_; have GE276 := n3_; clear n0_ n1_ n2_ n3_; clear hb hbox hg; have hcz23_0 : w22.cell? ⟨gb276, 0, none⟩ = some (.int .i64 a0_0) := (blk_cell BK276.out 0).trans rfl; have hcz23_1 : w22.cell? ⟨gb276, 1, none⟩ = some (.int .i64 a0_1) := (blk_cell BK276.out 1).trans rfl; have hfz23_0 := blk_frozen BK276.out 0; have hfz23_1 := blk_frozen BK276.out 1) | ((with_reducible refine gate_callee (f := 37) rfl ?_); refine goesL_ (some 7) rfl rfl Try.func37 (by kernel_rfl) rfl #[.int .i64 a0_1] rfl (by (try simp only [List.map_toArray, List.map_cons, List.map_nil]); first | done | rfl | (simp only [List.length_drop, List.length_take]; rfl)) ?_; (with_reducible refine (parallaxref01_Text.calls k a0_1 t277 _ A2.out).mono ?_); rintro e w24 ⟨rfl, hb⟩; refine ⟨_, rfl, ?_⟩; have n0_ := Aside0.mk (blk_below (g := gb276) (o := .cells #[.int .i64 a0_0, .int .i64 a0_1] 24 (0, 0)) (by (with_reducible repeat (first | refine blk_drewN ?_ _ | refine blk_drew ?_ | refine blk_alloc ?_ _)); exact BK276.out) hb); have n1_ := Aside0.mk (below_step (by repeat (first | (with_reducible first | exact HB.out | apply below_alloc | apply pw_below_drewN | apply below_drew1 | refine below_set ?_ GE276.out) | exact HB.out)) hb); clear BK276; clear HB; have BK276 := n0_; have HB := n1_; clear n0_ n1_; (try clear hb); (try clear hb2); (try clear hk); (try clear hi)) | ((with_reducible refine gate_dst (N := 14) rfl ?_); refine Kd.R_lit Kd.string _ 9 ?hg (N := 14) ?hd (xs := ([(⟨#[]⟩ : ByteArray), (⟨#[112, 114, 105, 110, 116, 32]⟩ : ByteArray) ++ t277, (⟨#[114, 101, 97, 100, 32]⟩ : ByteArray) ++ t277, (⟨#[101, 110, 100]⟩ : ByteArray), (⟨#[116, 114, 97, 112, 32]⟩ : ByteArray) ++ t277, (⟨#[102, 117, 101, 108]⟩ : ByteArray)] : List ByteArray)) (inner := [.string (⟨#[]⟩ : ByteArray), .string ((⟨#[112, 114, 105, 110, 116, 32]⟩ : ByteArray) ++ t277), .string ((⟨#[114, 101, 97, 100, 32]⟩ : ByteArray) ++ t277), .string (⟨#[101, 110, 100]⟩ : ByteArray), .string ((⟨#[116, 114, 97, 112, 32]⟩ : ByteArray) ++ t277), .string (⟨#[102, 117, 101, 108]⟩ : ByteArray)]) (ok := fun _ => True) (okp := fun _ => True) ?hr ?hp (fun _ hk => hk) trivial (Below.refl _ _) (Nat.le_refl _) (by simp) ?_; (case hd => rfl); (case hg => rfl); (case hr => first | (go_simp; done) | (go_simp; rfl)); (case hp => exact (Reps.one (show Kd.M Kd.string _ _ _ (⟨#[]⟩ : ByteArray) [.string (⟨#[]⟩ : ByteArray)] from rfl) (Reps.one (show Kd.M Kd.string _ _ _ ((⟨#[112, 114, 105, 110, 116, 32]⟩ : ByteArray) ++ t277) [.string ((⟨#[112, 114, 105, 110, 116, 32]⟩ : ByteArray) ++ t277)] from rfl) (Reps.one (show Kd.M Kd.string _ _ _ ((⟨#[114, 101, 97, 100, 32]⟩ : ByteArray) ++ t277) [.string ((⟨#[114, 101, 97, 100, 32]⟩ : ByteArray) ++ t277)] from rfl) (Reps.one (show Kd.M Kd.string _ _ _ (⟨#[101, 110, 100]⟩ : ByteArray) [.string (⟨#[101, 110, 100]⟩ : ByteArray)] from rfl) (Reps.one (show Kd.M Kd.string _ _ _ ((⟨#[116, 114, 97, 112, 32]⟩ : ByteArray) ++ t277) [.string ((⟨#[116, 114, 97, 112, 32]⟩ : ByteArray) ++ t277)] from rfl) (Reps.one (show Kd.M Kd.string _ _ _ (⟨#[102, 117, 101, 108]⟩ : ByteArray) [.string (⟨#[102, 117, 101, 108]⟩ : ByteArray)] from rfl) (Reps.none _ _)))))))); intro v279 w25 ho26 hb hg_ hnew_; clear hg_ hnew_; (first | rw [← Ny278.out] at ho26 | (simp only [Int.reduceToNat] at ho26; rw [← Ny278.out] at ho26)); have n0_ := Aside0.mk (Kd.R_lower ho26 (below_size (by repeat (first | (with_reducible first | exact HB.out | apply below_alloc | apply pw_below_drewN | apply below_drew1 | refine below_set ?_ GE276.out) | exact HB.out)))); have n1_ := Aside0.mk (blk_below (g := gb276) (o := .cells #[.int .i64 a0_0, .int .i64 a0_1] 24 (0, 0)) (by (with_reducible repeat (first | refine blk_drewN ?_ _ | refine blk_drew ?_ | refine blk_alloc ?_ _)); exact BK276.out) hb); have n2_ := Aside0.mk (below_step (by repeat (first | (with_reducible first | exact HB.out | apply below_alloc | apply pw_below_drewN | apply below_drew1 | refine below_set ?_ GE276.out) | exact HB.out)) hb); clear BK276; clear HB; have HO280 := n0_; have BK276 := n1_; have HB := n2_; clear n0_ n1_ n2_; clear hb ho26; have hcz27_0 : w25.cell? ⟨gb276, 0, none⟩ = some (.int .i64 a0_0) := (blk_cell BK276.out 0).trans rfl; have hcz27_1 : w25.cell? ⟨gb276, 1, none⟩ = some (.int .i64 a0_1) := (blk_cell BK276.out 1).trans rfl; have hfz27_0 := blk_frozen BK276.out 0; have hfz27_1 := blk_frozen BK276.out 1) | ((with_reducible refine gate_callee (f := 37) rfl ?_); refine goesL_ (some 25) rfl rfl Try.func37 (by kernel_rfl) rfl #[.int .i64 a0_0] rfl (by (try simp only [List.map_toArray, List.map_cons, List.map_nil]); first | done | rfl | (simp only [List.length_drop, List.length_take]; rfl)) ?_; (with_reducible refine (parallaxref01_Text.calls k a0_0 t282 _ A18.out).mono ?_); rintro e w28 ⟨rfl, hb⟩; refine ⟨_, rfl, ?_⟩; have n0_ := Aside0.mk (Kd.R_below (by (with_reducible repeat (first | apply Kd.R_alloc | apply Kd.R_drewN | apply Kd.R_drew)); exact HO280.out) hb); have n1_ := Aside0.mk (blk_below (g := gb276) (o := .cells #[.int .i64 a0_0, .int .i64 a0_1] 24 (0, 0)) (by (with_reducible repeat (first | refine blk_drewN ?_ _ | refine blk_drew ?_ | refine blk_alloc ?_ _)); exact BK276.out) hb); have n2_ := Aside0.mk (below_step (by repeat (first | (with_reducible first | exact HB.out | apply below_alloc | apply pw_below_drewN | apply below_drew1 | refine below_set ?_ GE276.out) | exact HB.out)) hb); clear HO280; clear BK276; clear HB; have HO280 := n0_; have BK276 := n1_; have HB := n2_; clear n0_ n1_ n2_; (try clear hb); (try clear hb2); (try clear hk); (try clear hi)))
                go_ret
                exact ⟨by first | rfl | (simp [errW_none, errW_some] <;> rfl) | (simp [*, errW_none, errW_some] <;> rfl), by repeat (first | (with_reducible first | exact HB.out | apply below_alloc | apply pw_below_drewN | apply below_drew1 | refine below_set ?_ GE276.out) | exact HB.out)⟩
              · rw [if_neg c21] at H
                exact absurd H (by simp)
            · rw [if_neg c20] at H
              exact absurd H (by simp)
          · rw [if_neg c19] at H
            exact absurd H (by simp)
        · rw [if_neg c17] at H
          have c17b0 : decide (5 < a0_0) = false := decide_eq_false c17
          clear c17
          by_cases c29 : 0 ≤ a0_0
          · rw [if_pos c29] at H
            have c29b0 : decide (0 ≤ a0_0) = true := decide_eq_true c29
            clear c29
            by_cases c30 : a0_0 < (y278.length : Int)
            · rw [if_pos c30] at H
              have c30b0 : decide (a0_0 < (y278.length : Int)) = true := decide_eq_true c30
              clear c30
              obtain rfl := Option.some.inj H
              go_enter Try.func16, Try.ntmps16
              go_wp2_with (first | ((with_reducible refine gate_dst (N := 1) rfl ?_); refine box_event ?hg (N := 1) ?hd (cs := #[.int .i64 a0_0, .int .i64 a0_1]) (t := 24) ?hr ?_; (case hd => rfl); (case hg => rfl); (case hr => first | (go_simp; done) | (go_simp; rfl)); intro gb276 hg w31 hbox hb; have n0_ := Aside0.mk (below_step (by repeat (first | (with_reducible first | exact HB.out | apply below_alloc | apply pw_below_drewN | apply below_drew1) | exact HB.out)) hb); have n1_ := Aside0.mk (hbox); have n2_ := Aside0.mk ((by rw [hg]; exact (below_size (by repeat (first | (with_reducible first | exact HB.out | apply below_alloc | apply pw_below_drewN | apply below_drew1) | exact HB.out))) : w.heap.size ≤ gb276)); have n3_ := Aside0.mk ((by rw [hg]; exact (below_size (by repeat (first | (with_reducible first | exact HB.out | apply below_alloc | apply pw_below_drewN | apply below_drew1) | exact HB.out))) : w.heap.size ≤ gb276)); clear HB; have HB := n0_; have BK276 := n1_; have GW276 := n2_; have GE276 := n3_; clear n0_ n1_ n2_ n3_; clear hb hbox hg; have hcz32_0 : w31.cell? ⟨gb276, 0, none⟩ = some (.int .i64 a0_0) := (blk_cell BK276.out 0).trans rfl; have hcz32_1 : w31.cell? ⟨gb276, 1, none⟩ = some (.int .i64 a0_1) := (blk_cell BK276.out 1).trans rfl; have hfz32_0 := blk_frozen BK276.out 0; have hfz32_1 := blk_frozen BK276.out 1) | ((with_reducible refine gate_callee (f := 37) rfl ?_); refine goesL_ (some 7) rfl rfl Try.func37 (by kernel_rfl) rfl #[.int .i64 a0_1] rfl (by (try simp only [List.map_toArray, List.map_cons, List.map_nil]); first | done | rfl | (simp only [List.length_drop, List.length_take]; rfl)) ?_; (with_reducible refine (parallaxref01_Text.calls k a0_1 t277 _ A2.out).mono ?_); rintro e w33 ⟨rfl, hb⟩; refine ⟨_, rfl, ?_⟩; have n0_ := Aside0.mk (blk_below (g := gb276) (o := .cells #[.int .i64 a0_0, .int .i64 a0_1] 24 (0, 0)) (by (with_reducible repeat (first | refine blk_drewN ?_ _ | refine blk_drew ?_ | refine blk_alloc ?_ _)); exact BK276.out) hb); have n1_ := Aside0.mk (below_step (by repeat (first | (with_reducible first | exact HB.out | apply below_alloc | apply pw_below_drewN | apply below_drew1 | refine below_set ?_ GE276.out) | exact HB.out)) hb); clear BK276; clear HB; have BK276 := n0_; have HB := n1_; clear n0_ n1_; (try clear hb); (try clear hb2); (try clear hk); (try clear hi)) | ((with_reducible refine gate_dst (N := 14) rfl ?_); refine Kd.R_lit Kd.string _ 9 ?hg (N := 14) ?hd (xs := ([(⟨#[]⟩ : ByteArray), (⟨#[112, 114, 105, 110, 116, 32]⟩ : ByteArray) ++ t277, (⟨#[114, 101, 97, 100, 32]⟩ : ByteArray) ++ t277, (⟨#[101, 110, 100]⟩ : ByteArray), (⟨#[116, 114, 97, 112, 32]⟩ : ByteArray) ++ t277, (⟨#[102, 117, 101, 108]⟩ : ByteArray)] : List ByteArray)) (inner := [.string (⟨#[]⟩ : ByteArray), .string ((⟨#[112, 114, 105, 110, 116, 32]⟩ : ByteArray) ++ t277), .string ((⟨#[114, 101, 97, 100, 32]⟩ : ByteArray) ++ t277), .string (⟨#[101, 110, 100]⟩ : ByteArray), .string ((⟨#[116, 114, 97, 112, 32]⟩ : ByteArray) ++ t277), .string (⟨#[102, 117, 101, 108]⟩ : ByteArray)]) (ok := fun _ => True) (okp := fun _ => True) ?hr ?hp (fun _ hk => hk) trivial (Below.refl _ _) (Nat.le_refl _) (by simp) ?_; (case hd => rfl); (case hg => rfl); (case hr => first | (go_simp; done) | (go_simp; rfl)); (case hp => exact (Reps.one (show Kd.M Kd.string _ _ _ (⟨#[]⟩ : ByteArray) [.string (⟨#[]⟩ : ByteArray)] from rfl) (Reps.one (show Kd.M Kd.string _ _ _ ((⟨#[112, 114, 105, 110, 116, 32]⟩ : ByteArray) ++ t277) [.string ((⟨#[112, 114, 105, 110, 116, 32]⟩ : ByteArray) ++ t277)] from rfl) (Reps.one (show Kd.M Kd.string _ _ _ ((⟨#[114, 101, 97, 100, 32]⟩ : ByteArray) ++ t277) [.string ((⟨#[114, 101, 97, 100, 32]⟩ : ByteArray) ++ t277)] from rfl) (Reps.one (show Kd.M Kd.string _ _ _ (⟨#[101, 110, 100]⟩ : ByteArray) [.string (⟨#[101, 110, 100]⟩ : ByteArray)] from rfl) (Reps.one (show Kd.M Kd.string _ _ _ ((⟨#[116, 114, 97, 112, 32]⟩ : ByteArray) ++ t277) [.string ((⟨#[116, 114, 97, 112, 32]⟩ : ByteArray) ++ t277)] from rfl) (Reps.one (show Kd.M Kd.string _ _ _ (⟨#[102, 117, 101, 108]⟩ : ByteArray) [.string (⟨#[102, 117, 101, 108]⟩ : ByteArray)] from rfl) (Reps.none _ _)))))))); intro v279 w34 ho35 hb hg_ hnew_; clear hg_ hnew_; (first | rw [← Ny278.out] at ho35 | (simp only [Int.reduceToNat] at ho35; rw [← Ny278.out] at ho35)); have n0_ := Aside0.mk (Kd.R_lower ho35 (below_size (by repeat (first | (with_reducible first | exact HB.out | apply below_alloc | apply pw_below_drewN | apply below_drew1 | refine below_set ?_ GE276.out) | exact HB.out)))); have n1_ := Aside0.mk (blk_below (g := gb276) (o := .cells #[.int .i64 a0_0, .int .i64 a0_1] 24 (0, 0)) (by (with_reducible repeat (first | refine blk_drewN ?_ _ | refine blk_drew ?_ | refine blk_alloc ?_ _)); exact BK276.out) hb); have n2_ := Aside0.mk (below_step (by repeat (first | (with_reducible first | exact HB.out | apply below_alloc | apply pw_below_drewN | apply below_drew1 | refine below_set ?_ GE276.out) | exact HB.out)) hb); clear BK276; clear HB; have HO280 := n0_; have BK276 := n1_; have HB := n2_; clear n0_ n1_ n2_; clear hb ho35; have hcz36_0 : w34.cell? ⟨gb276, 0, none⟩ = some (.int .i64 a0_0) := (blk_cell BK276.out 0).trans rfl; have hcz36_1 : w34.cell? ⟨gb276, 1, none⟩ = some (.int .i64 a0_1) := (blk_cell BK276.out 1).trans rfl; have hfz36_0 := blk_frozen BK276.out 0; have hfz36_1 := blk_frozen BK276.out 1; obtain ⟨Ao37, co37, eo37⟩ := Kd.R_slice HO280.out; subst eo37; have p283 : 0 ≤ (a0_0 : Int) := of_decide_eq_true (by first | (with_reducible assumption) | assumption); have q283 : a0_0 < (y278.length : Int) := of_decide_eq_true (by first | (with_reducible assumption) | assumption); obtain ⟨ad283, e283, hx283_0⟩ := Kd.at_string (Kd.R_reads' HO280.out).2.2 a0_0 p283 q283; cases e283; replace p283 := eq_true p283; replace q283 := eq_true q283))
              go_ret
              exact ⟨by first | rfl | (simp [errW_none, errW_some] <;> rfl) | (simp [*, errW_none, errW_some] <;> rfl), by repeat (first | (with_reducible first | exact HB.out | apply below_alloc | apply pw_below_drewN | apply below_drew1 | refine below_set ?_ GE276.out) | exact HB.out)⟩
            · rw [if_neg c30] at H
              exact absurd H (by simp)
          · rw [if_neg c29] at H
            exact absurd H (by simp)
    · rw [if_neg c4] at H
      exact absurd H (by simp)
  · rw [if_neg c3] at H
    exact absurd H (by simp)

end Go.Proofs.Ythbgbeelcnfofaa.P
