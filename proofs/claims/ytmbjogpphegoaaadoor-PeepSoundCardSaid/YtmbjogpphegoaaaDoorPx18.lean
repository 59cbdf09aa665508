-- Written by a program of this session (its own turn of the print: wip/patch_print.py), not by hand. Lean checks it.
import Derived.Test.YtmbjogpphegoaaaDoorWZip3
import Derived.Test.YtmbjogpphegoaaaDoorPx0
import Derived.Test.YtmbjogpphegoaaaDoorPx17
namespace Go.Proofs.YtmbjogpphegoaaaDoor.P
open Go.RowKit Go.Proofs.YtmbjogpphegoaaaDoorW.PrintWords Go.Proofs.YtmbjogpphegoaaaDoorW.PrintLast Go.Proofs.YtmbjogpphegoaaaDoorW.PrintMore
attribute [local go_sem] max2_int min2_int max_two min_two max_three min_three max_four min_four
set_option linter.unusedVariables false
set_option linter.unusedSimpArgs false

/-! ### parallaxref01_Sub: function 91 -/
def parallaxref01_Sub.f (k : Nat) (a0 : Int) (a1 : Int) : Option (Int) := (parallaxref01_Bits.f k a0).bind fun t456 => ((parallaxref01_Bits.f k a1).bind fun t459 => ((parallaxref01_other.f k t459).bind fun t462 => ((parallaxref01_plus.f k t456 t462 1).bind fun t465 => ((parallaxref01_number.f k t465).bind fun t468 => (some t468)))))
set_option maxHeartbeats 8000000 in
set_option maxRecDepth 100000 in
theorem parallaxref01_Sub.calls (k : Nat) (a0 : Int) (a1 : Int) (r : Int) (w : World) (h : parallaxref01_Sub.f k a0 a1 = some r) :
  Calls Tryd.prog 91 #[.int .i64 a0, .int .i64 a1] w fun e w' => e = .returned (.int .i64 r) ∧ Below w.heap.size w w' := by
 have HB := Aside0.mk (Below.refl w.heap.size w); have H : ((parallaxref01_Bits.f k a0).bind fun t456 => ((parallaxref01_Bits.f k a1).bind fun t459 => ((parallaxref01_other.f k t459).bind fun t462 => ((parallaxref01_plus.f k t456 t462 1).bind fun t465 => ((parallaxref01_number.f k t465).bind fun t468 => (some t468)))))) = some r := h; clear h; replace H := ob H; obtain ⟨t456, A3, H⟩ := H; replace H := ob H; obtain ⟨t459, A4, H⟩ := H; replace H := ob H; obtain ⟨t462, A5, H⟩ := H; replace H := ob H; obtain ⟨t465, A6, H⟩ := H; replace H := ob H; obtain ⟨t468, A7, H⟩ := H; obtain rfl := Option.some.inj H; go_enter Tryd.func91, Tryd.ntmps91
 go_wp2_with (first | ((with_reducible refine gate_callee (f := 105) rfl ?_); refine goesL_ (some 6) rfl rfl Tryd.func105 (by kernel_rfl) rfl #[.int .i64 a0] rfl (by (try simp only [List.map_toArray, List.map_cons, List.map_nil]); first | done | rfl | (simp only [List.length_drop, List.length_take]; rfl)) ?_; (with_reducible refine (parallaxref01_Bits.calls k a0 t456 _ A3.out).mono ?_); rintro e w8 ⟨v457, rfl, ho0, hb⟩; refine ⟨_, rfl, ?_⟩; have n_ := an2 (Kd.R_lower ho0 (below_size bl)) (below_step bl hb); clear HB; obtain ⟨HO458, HB⟩ := n_; (try clear hb); (try clear ho0)) | ((with_reducible refine gate_callee (f := 105) rfl ?_); refine goesL_ (some 8) rfl rfl Tryd.func105 (by kernel_rfl) rfl #[.int .i64 a1] rfl (by (try simp only [List.map_toArray, List.map_cons, List.map_nil]); first | done | rfl | (simp only [List.length_drop, List.length_take]; rfl)) ?_; (with_reducible refine (parallaxref01_Bits.calls k a1 t459 _ A4.out).mono ?_); rintro e w9 ⟨v460, rfl, ho0, hb⟩; refine ⟨_, rfl, ?_⟩; have n_ := an3 (Kd.R_elder' (bR HO458.out) (Kd.R_base ho0) hb) (Kd.R_lower (Kd.R_new' ho0 (Kd.R_lt (bR HO458.out))) (below_size bl)) (below_step bl hb); clear HO458 HB; obtain ⟨HO458, HO461, HB⟩ := n_; (try clear hb); (try clear ho0); obtain ⟨Ao10, co10, eo10⟩ := Kd.R_slice HO461.out; subst eo10) | ((with_reducible refine gate_callee (f := 106) rfl ?_); refine goesL_ (some 9) rfl rfl Tryd.func106 (by kernel_rfl) rfl #[.slice Ao10 t459.length co10] rfl (by (try simp only [List.map_toArray, List.map_cons, List.map_nil]); first | done | rfl | (simp only [List.length_drop, List.length_take]; rfl)) ?_; (with_reducible refine (parallaxref01_other.calls k _ _ t459 t462 _ ?side1 ?side2 A5.out).mono ?_); (case side1 => repeat (first | exact (Kd.R_reads' HO461.out).2.2 | (with_reducible refine Kd.C_alloc ?_ _) | (with_reducible refine Kd.C_drewN ?_ _) | (with_reducible refine Kd.C_drew ?_))); (case side2 => exact (Kd.R_reads' HO461.out).2.1); rintro e w11 ⟨v463, rfl, ho0, hb⟩; refine ⟨_, rfl, ?_⟩; have n_ := an4 (Kd.R_elder' (bR HO458.out) (Kd.R_base ho0) hb) (Kd.R_elder' (bR HO461.out) (Kd.R_base ho0) hb) (Kd.R_lower (Kd.R_new' (Kd.R_new' ho0 (Kd.R_lt (bR HO458.out))) (Kd.R_lt (bR HO461.out))) (below_size bl)) (below_step bl hb); clear HO458 HO461 HB; obtain ⟨HO458, HO461, HO464, HB⟩ := n_; (try clear hb); (try clear ho0); obtain ⟨Ao12, co12, eo12⟩ := Kd.R_slice HO458.out; subst eo12; obtain ⟨Ao13, co13, eo13⟩ := Kd.R_slice HO464.out; subst eo13) | ((with_reducible refine gate_callee (f := 104) rfl ?_); refine goesL_ (some 10) rfl rfl Tryd.func104 (by kernel_rfl) rfl #[.slice Ao12 t456.length co12, .slice Ao13 t462.length co13, .int .i64 1] rfl (by (try simp only [List.map_toArray, List.map_cons, List.map_nil]); first | done | rfl | (simp only [List.length_drop, List.length_take]; rfl)) ?_; (with_reducible refine (parallaxref01_plus.calls k _ _ t456 _ _ t462 1 t465 _ ?side1 ?side2 ?side3 ?side4 A6.out).mono ?_); (case side1 => repeat (first | exact (Kd.R_reads' HO458.out).2.2 | (with_reducible refine Kd.C_alloc ?_ _) | (with_reducible refine Kd.C_drewN ?_ _) | (with_reducible refine Kd.C_drew ?_))); (case side2 => exact (Kd.R_reads' HO458.out).2.1); (case side3 => repeat (first | exact (Kd.R_reads' HO464.out).2.2 | (with_reducible refine Kd.C_alloc ?_ _) | (with_reducible refine Kd.C_drewN ?_ _) | (with_reducible refine Kd.C_drew ?_))); (case side4 => exact (Kd.R_reads' HO464.out).2.1); rintro e w14 ⟨v466, rfl, ho0, hb⟩; refine ⟨_, rfl, ?_⟩; have n_ := an5 (Kd.R_elder' (bR HO458.out) (Kd.R_base ho0) hb) (Kd.R_elder' (bR HO461.out) (Kd.R_base ho0) hb) (Kd.R_elder' (bR HO464.out) (Kd.R_base ho0) hb) (Kd.R_lower (Kd.R_new' (Kd.R_new' (Kd.R_new' ho0 (Kd.R_lt (bR HO458.out))) (Kd.R_lt (bR HO461.out))) (Kd.R_lt (bR HO464.out))) (below_size bl)) (below_step bl hb); clear HO458 HO461 HO464 HB; obtain ⟨HO458, HO461, HO464, HO467, HB⟩ := n_; (try clear hb); (try clear ho0); obtain ⟨Ao15, co15, eo15⟩ := Kd.R_slice HO467.out; subst eo15) | ((with_reducible refine gate_callee (f := 103) rfl ?_); refine goesL_ (some 11) rfl rfl Tryd.func103 (by kernel_rfl) rfl #[.slice Ao15 t465.length co15] rfl (by (try simp only [List.map_toArray, List.map_cons, List.map_nil]); first | done | rfl | (simp only [List.length_drop, List.length_take]; rfl)) ?_; (with_reducible refine (parallaxref01_number.calls k _ _ t465 t468 _ ?side1 ?side2 A7.out).mono ?_); (case side1 => repeat (first | exact (Kd.R_reads' HO467.out).2.2 | (with_reducible refine Kd.C_alloc ?_ _) | (with_reducible refine Kd.C_drewN ?_ _) | (with_reducible refine Kd.C_drew ?_))); (case side2 => exact (Kd.R_reads' HO467.out).2.1); rintro e w' ⟨rfl, ⟨nd, rfl⟩⟩; refine ⟨_, rfl, ?_⟩))
 go_ret; exact ⟨pe, bl⟩

/-! ### parallaxref01_Neg: function 76 -/
def parallaxref01_Neg.f (k : Nat) (a0 : Int) : Option (Int) := (parallaxref01_Sub.f k 0 a0).bind fun t469 => (some t469)
set_option maxHeartbeats 8000000 in
set_option maxRecDepth 100000 in
theorem parallaxref01_Neg.calls (k : Nat) (a0 : Int) (r : Int) (w : World) (h : parallaxref01_Neg.f k a0 = some r) :
  Calls Tryd.prog 76 #[.int .i64 a0] w fun e w' => e = .returned (.int .i64 r) ∧ Below w.heap.size w w' := by
 have HB := Aside0.mk (Below.refl w.heap.size w); have H : ((parallaxref01_Sub.f k 0 a0).bind fun t469 => (some t469)) = some r := h; clear h; replace H := ob H; obtain ⟨t469, A2, H⟩ := H; obtain rfl := Option.some.inj H; go_enter Tryd.func76, Tryd.ntmps76
 go_wp2_with (first | ((with_reducible refine gate_callee (f := 91) rfl ?_); refine goesL_ (some 4) rfl rfl Tryd.func91 (by kernel_rfl) rfl #[.int .i64 0, .int .i64 a0] rfl (by (try simp only [List.map_toArray, List.map_cons, List.map_nil]); first | done | rfl | (simp only [List.length_drop, List.length_take]; rfl)) ?_; (with_reducible refine (parallaxref01_Sub.calls k 0 a0 t469 _ A2.out).mono ?_); rintro e w3 ⟨rfl, hb⟩; refine ⟨_, rfl, ?_⟩; have n0_ := Aside0.mk (below_step bl hb); clear HB; have HB := n0_; clear n0_; (try clear hb)))
 go_ret; exact ⟨pe, bl⟩

/-! ### parallaxref01_size: function 108 -/
def parallaxref01_size.f (k : Nat) (a0 : Int) : Option (Int) := if a0 < 0 then ((parallaxref01_Neg.f k a0).bind fun t470 => (some (IntKind.u64.wrap (t470)))) else (some (IntKind.u64.wrap (a0)))
set_option maxHeartbeats 8000000 in
set_option maxRecDepth 100000 in
theorem parallaxref01_size.calls (k : Nat) (a0 : Int) (r : Int) (w : World) (h : parallaxref01_size.f k a0 = some r) :
  Calls Tryd.prog 108 #[.int .i64 a0] w fun e w' => e = .returned (.int .u64 r) ∧ Below w.heap.size w w' := by
 have HB := Aside0.mk (Below.refl w.heap.size w); have H : (if a0 < 0 then ((parallaxref01_Neg.f k a0).bind fun t470 => (some (IntKind.u64.wrap (t470)))) else (some (IntKind.u64.wrap (a0)))) = some r := h; clear h
 by_cases c2 : a0 < 0
 ·rw [if_pos c2] at H; have c2b0 := decide_eq_true c2; clear c2; replace H := ob H; obtain ⟨t470, A3, H⟩ := H; obtain rfl := Option.some.inj H; go_enter Tryd.func108, Tryd.ntmps108
  go_wp2_with (first | ((with_reducible refine gate_callee (f := 76) rfl ?_); refine goesL_ (some 6) rfl rfl Tryd.func76 (by kernel_rfl) rfl #[.int .i64 a0] rfl (by (try simp only [List.map_toArray, List.map_cons, List.map_nil]); first | done | rfl | (simp only [List.length_drop, List.length_take]; rfl)) ?_; (with_reducible refine (parallaxref01_Neg.calls k a0 t470 _ A3.out).mono ?_); rintro e w4 ⟨rfl, hb⟩; refine ⟨_, rfl, ?_⟩; have n0_ := Aside0.mk (below_step bl hb); clear HB; have HB := n0_; clear n0_; (try clear hb)))
  go_ret; exact ⟨pe, bl⟩
 ·rw [if_neg c2] at H; have c2b0 := decide_eq_false c2; clear c2; obtain rfl := Option.some.inj H; go_enter Tryd.func108, Tryd.ntmps108; go_wp2; go_ret; exact ⟨pe, bl⟩

/-! ### parallaxref01_Text: function 100 -/
def parallaxref01_Text.l0 : Nat → Int → ByteArray → Int → Option (ByteArray)
 | 0, _, _, _ => none
 | k + 1, x0, x3, x4 => if x3.toList = ([] : List UInt8) then ((some (([(IntKind.u64.wrap (48 + (Int.tmod x4 10))) % 256] : List Int) : List Int)).bind fun y472 => (if (strOfNums y472).size + x3.size ≤ 9223372036854775807 then (parallaxref01_Text.l0 k x0 ((strOfNums y472) ++ x3) (IntKind.u64.wrap (Int.tdiv x4 10))) else (none))) else (if x4 > 0 then ((some (([(IntKind.u64.wrap (48 + (Int.tmod x4 10))) % 256] : List Int) : List Int)).bind fun y475 => (if (strOfNums y475).size + x3.size ≤ 9223372036854775807 then (parallaxref01_Text.l0 k x0 ((strOfNums y475) ++ x3) (IntKind.u64.wrap (Int.tdiv x4 10))) else (none))) else (if x0 < 0 then (if 1 + x3.size ≤ 9223372036854775807 then (some ((⟨#[45]⟩ : ByteArray) ++ x3)) else (none)) else (some x3)))
def parallaxref01_Text.f (k : Nat) (a0 : Int) : Option (ByteArray) := (parallaxref01_size.f k a0).bind fun t471 => (parallaxref01_Text.l0 k a0 (⟨#[]⟩ : ByteArray) t471)
set_option maxHeartbeats 8000000 in
set_option maxRecDepth 100000 in
theorem parallaxref01_Text.calls (k : Nat) (a0 : Int) (r : ByteArray) (w : World) (h : parallaxref01_Text.f k a0 = some r) :
  Calls Tryd.prog 100 #[.int .i64 a0] w fun e w' => e = .returned (.string r) ∧ Below w.heap.size w w' := by
 have HB := Aside0.mk (Below.refl w.heap.size w); have H : ((parallaxref01_size.f k a0).bind fun t471 => (parallaxref01_Text.l0 k a0 (⟨#[]⟩ : ByteArray) t471)) = some r := h; clear h; replace H := ob H; obtain ⟨t471, A2, H⟩ := H; have H' := Aside0.mk H; clear H; go_enter Tryd.func100, Tryd.ntmps100
 go_wp2_with (first | ((with_reducible refine gate_callee (f := 108) rfl ?_); refine goesL_ (some 6) rfl rfl Tryd.func108 (by kernel_rfl) rfl #[.int .i64 a0] rfl (by (try simp only [List.map_toArray, List.map_cons, List.map_nil]); first | done | rfl | (simp only [List.length_drop, List.length_take]; rfl)) ?_; (with_reducible refine (parallaxref01_size.calls k a0 t471 _ A2.out).mono ?_); rintro e w3 ⟨rfl, hb⟩; refine ⟨_, rfl, ?_⟩; have n0_ := Aside0.mk (below_step bl hb); clear HB; have HB := n0_; clear n0_; (try clear hb)))
 go_loopg [3, 4] k (fun kq v3 v4 w' => ∃ (x3_1 : ByteArray) (x4_1 : Int), v3 = .string x3_1 ∧ v4 = .int .u64 x4_1 ∧ Aside0 (parallaxref01_Text.l0 kq a0 x3_1 x4_1 = some r) ∧ Aside0 (kq ≤ k) ∧ Aside0 (Below w.heap.size w w'))
 case atStart => exact ⟨((⟨#[]⟩ : ByteArray)), (t471), pr, pr, H', ⟨Nat.le_refl _⟩, ⟨bl⟩⟩
 case round =>
  clear H'; obtain ⟨x3_1, x4_1, rfl, rfl, HA, HK1, HB⟩ := hrel
  cases gk with
  | zero => exact absurd HA.out (by simp [parallaxref01_Text.l0])
  | succ k1 =>
   have H := HA.out; clear HA; simp only [parallaxref01_Text.l0] at H
   by_cases c4 : x3_1.toList = ([] : List UInt8)
   ·rw [if_pos c4] at H; obtain ⟨c4b0, c4b1⟩ := eqs c4; clear c4; obtain ⟨y472, hy472⟩ : ∃ y_ : List Int, y_ = (([(IntKind.u64.wrap (48 + (Int.tmod x4_1 10))) % 256] : List Int)) := ⟨_, rfl⟩; (first | replace H := hs hy472 H | rw [← hy472] at H)
    have Ny472 := Aside0.mk hy472; clear hy472
    replace H := it (c := (strOfNums y472).size + x3_1.size ≤ 9223372036854775807) H; obtain ⟨c5, H⟩ := H; have c5b0 := eq_true c5; have c5b1 := decide_eq_true c5
    try have c5b2 : (9223372036854775807 < (strOfNums y472).size + x3_1.size) = False := eq_false (Nat.not_lt.2 c5)
    have H' := Aside0.mk H; clear H
    go_wp2_with (first | ((with_reducible refine gate_dst (N := 17) rfl ?_); refine Kd.R_lit (Kd.int .u8) _ 5 ?hg (N := 17) ?hd (xs := ([(IntKind.u64.wrap (48 + (Int.tmod x4_1 10))) % 256] : List Int)) (inner := [.int .u8 ((IntKind.u64.wrap (48 + (Int.tmod x4_1 10))) % 256)]) (ok := fun _ => True) (okp := fun _ => True) ?hr ?hp (fun _ hk => hk) trivial (Below.refl _ _) (Nat.le_refl _) (by simp) ?_; (case hd => rfl); (case hg => rfl); (case hr => first | (go_simp; done) | (go_simp; rfl)); (case hp => exact (Reps.one (show Kd.M (Kd.int .u8) _ _ _ ((IntKind.u64.wrap (48 + (Int.tmod x4_1 10))) % 256) [.int .u8 ((IntKind.u64.wrap (48 + (Int.tmod x4_1 10))) % 256)] from rfl) (Reps.none _ _))); intro v473 w6 ho7 hb hg_ hnew_; clear hg_ hnew_; (first | rw [← Ny472.out] at ho7 | (simp only [Int.reduceToNat] at ho7; rw [← Ny472.out] at ho7)); have n_ := an2 (Kd.R_lower ho7 (below_size bl)) (below_step bl hb); clear HB; obtain ⟨HO474, HB⟩ := n_; clear hb ho7; have hcv8 := own_string (P := Tryd.prog) Tryd.underlying159 Tryd.underlying5 Tryd.underlying9 (Kd.own_of_R HO474.out)))
    go_roundg k1
    case measure => have := HK1.out; omega
    case rel => exact ⟨((strOfNums y472) ++ x3_1), (IntKind.u64.wrap (Int.tdiv x4_1 10)), pr, pr, H', ⟨by have := HK1.out; omega⟩, ⟨bl⟩⟩
   ·rw [if_neg c4] at H; obtain ⟨c4b0, c4b1⟩ := eqf c4
    by_cases c9 : x4_1 > 0
    ·rw [if_pos c9] at H; have c9b0 : decide (0 < x4_1) = true := decide_eq_true c9; clear c9; obtain ⟨y475, hy475⟩ : ∃ y_ : List Int, y_ = (([(IntKind.u64.wrap (48 + (Int.tmod x4_1 10))) % 256] : List Int)) := ⟨_, rfl⟩; (first | replace H := hs hy475 H | rw [← hy475] at H)
     have Ny475 := Aside0.mk hy475; clear hy475
     replace H := it (c := (strOfNums y475).size + x3_1.size ≤ 9223372036854775807) H; obtain ⟨c10, H⟩ := H; have c10b0 := eq_true c10; have c10b1 := decide_eq_true c10
     try have c10b2 : (9223372036854775807 < (strOfNums y475).size + x3_1.size) = False := eq_false (Nat.not_lt.2 c10)
     have H' := Aside0.mk H; clear H
     go_wp2_with (first | ((with_reducible refine gate_dst (N := 17) rfl ?_); refine Kd.R_lit (Kd.int .u8) _ 5 ?hg (N := 17) ?hd (xs := ([(IntKind.u64.wrap (48 + (Int.tmod x4_1 10))) % 256] : List Int)) (inner := [.int .u8 ((IntKind.u64.wrap (48 + (Int.tmod x4_1 10))) % 256)]) (ok := fun _ => True) (okp := fun _ => True) ?hr ?hp (fun _ hk => hk) trivial (Below.refl _ _) (Nat.le_refl _) (by simp) ?_; (case hd => rfl); (case hg => rfl); (case hr => first | (go_simp; done) | (go_simp; rfl)); (case hp => exact (Reps.one (show Kd.M (Kd.int .u8) _ _ _ ((IntKind.u64.wrap (48 + (Int.tmod x4_1 10))) % 256) [.int .u8 ((IntKind.u64.wrap (48 + (Int.tmod x4_1 10))) % 256)] from rfl) (Reps.none _ _))); intro v476 w11 ho12 hb hg_ hnew_; clear hg_ hnew_; (first | rw [← Ny475.out] at ho12 | (simp only [Int.reduceToNat] at ho12; rw [← Ny475.out] at ho12)); have n_ := an2 (Kd.R_lower ho12 (below_size bl)) (below_step bl hb); clear HB; obtain ⟨HO477, HB⟩ := n_; clear hb ho12; have hcv13 := own_string (P := Tryd.prog) Tryd.underlying159 Tryd.underlying5 Tryd.underlying9 (Kd.own_of_R HO477.out)))
     go_roundg k1
     case measure => have := HK1.out; omega
     case rel => exact ⟨((strOfNums y475) ++ x3_1), (IntKind.u64.wrap (Int.tdiv x4_1 10)), pr, pr, H', ⟨by have := HK1.out; omega⟩, ⟨bl⟩⟩
    ·rw [if_neg c9] at H; have c9b0 : decide (0 < x4_1) = false := decide_eq_false c9; clear c9
     by_cases c14 : a0 < 0
     ·rw [if_pos c14] at H; have c14b0 := decide_eq_true c14; clear c14
      replace H := it (c := 1 + x3_1.size ≤ 9223372036854775807) H; obtain ⟨c15, H⟩ := H; have c15b0 := eq_true c15; have c15b1 := decide_eq_true c15
      try have c15b2 : (9223372036854775807 < 1 + x3_1.size) = False := eq_false (Nat.not_lt.2 c15)
      obtain rfl := Option.some.inj H; go_wp2; go_ret; exact ⟨pe, bl⟩
     ·rw [if_neg c14] at H; have c14b0 := decide_eq_false c14; clear c14; obtain rfl := Option.some.inj H; go_wp2; go_ret; exact ⟨pe, bl⟩

/-! ### parallaxref08_Text: function 81 -/
def parallaxref08_Text.j0 : Nat → Bool → Int → Int → Int → ByteArray → Int → Int → Int → Option (ByteArray × Int)
 | 0, _, _, _, _, _, _, _, _ => none
 | k + 1, x31, x479000, x479001, x479002, x484000, x484001, x484002, x484003 => if x31 = true then (some ((⟨#[]⟩ : ByteArray), 61)) else (if x484001 > 0 then (if x484000.size + 1 ≤ 9223372036854775807 then ((parallaxref01_Text.f k x479001).bind fun t484 => (if (x484000 ++ (⟨#[32]⟩ : ByteArray)).size + t484.size ≤ 9223372036854775807 then (if x484001 > 1 then (if ((x484000 ++ (⟨#[32]⟩ : ByteArray)) ++ t484).size + 1 ≤ 9223372036854775807 then ((parallaxref01_Text.f k x479002).bind fun t485 => (if (((x484000 ++ (⟨#[32]⟩ : ByteArray)) ++ t484) ++ (⟨#[32]⟩ : ByteArray)).size + t485.size ≤ 9223372036854775807 then (some ((((x484000 ++ (⟨#[32]⟩ : ByteArray)) ++ t484) ++ (⟨#[32]⟩ : ByteArray)) ++ t485, 0)) else (none))) else (none)) else (some ((x484000 ++ (⟨#[32]⟩ : ByteArray)) ++ t484, 0))) else (none))) else (none)) else (if x484001 > 1 then (if x484000.size + 1 ≤ 9223372036854775807 then ((parallaxref01_Text.f k x479002).bind fun t486 => (if (x484000 ++ (⟨#[32]⟩ : ByteArray)).size + t486.size ≤ 9223372036854775807 then (some ((x484000 ++ (⟨#[32]⟩ : ByteArray)) ++ t486, 0)) else (none))) else (none)) else (some (x484000, 0))))
def parallaxref08_Text.f (k : Nat) (a0_0 : Int) (a0_1 : Int) (a0_2 : Int) : Option (ByteArray × Int) := (parallaxref08_Of.f a0_0).bind fun bt479 => (if bt479.1.toList = ([] : List UInt8) then (parallaxref08_Text.j0 k true a0_0 a0_1 a0_2 bt479.1 bt479.2.1 bt479.2.2.1 bt479.2.2.2) else (if bt479.2.1 < 1 then (if a0_1 = 0 then (if bt479.2.1 < 2 then (parallaxref08_Text.j0 k (a0_2 != 0) a0_0 a0_1 a0_2 bt479.1 bt479.2.1 bt479.2.2.1 bt479.2.2.2) else (parallaxref08_Text.j0 k false a0_0 a0_1 a0_2 bt479.1 bt479.2.1 bt479.2.2.1 bt479.2.2.2)) else (parallaxref08_Text.j0 k true a0_0 a0_1 a0_2 bt479.1 bt479.2.1 bt479.2.2.1 bt479.2.2.2)) else (if bt479.2.1 < 2 then (parallaxref08_Text.j0 k (a0_2 != 0) a0_0 a0_1 a0_2 bt479.1 bt479.2.1 bt479.2.2.1 bt479.2.2.2) else (parallaxref08_Text.j0 k false a0_0 a0_1 a0_2 bt479.1 bt479.2.1 bt479.2.2.1 bt479.2.2.2))))
set_option maxHeartbeats 8000000 in
set_option maxRecDepth 100000 in
theorem parallaxref08_Text.calls (k : Nat) (a0_0 : Int) (a0_1 : Int) (a0_2 : Int) (r1 : ByteArray) (r2 : Int) (w : World) (h : parallaxref08_Text.f k a0_0 a0_1 a0_2 = some (r1, r2)) :
  Calls Tryd.prog 81 #[.agg #[.int .i64 a0_0, .int .i64 a0_1, .int .i64 a0_2]] w fun e w' => e = .returned (.tuple #[.string r1, .int .i64 r2]) ∧ Below w.heap.size w w' := by
 have hu40 := Tryd.underlying40; have hu108 := Tryd.underlying108; have HB := Aside0.mk (Below.refl w.heap.size w); have H : ((parallaxref08_Of.f a0_0).bind fun bt479 => (if bt479.1.toList = ([] : List UInt8) then (parallaxref08_Text.j0 k true a0_0 a0_1 a0_2 bt479.1 bt479.2.1 bt479.2.2.1 bt479.2.2.2) else (if bt479.2.1 < 1 then (if a0_1 = 0 then (if bt479.2.1 < 2 then (parallaxref08_Text.j0 k (a0_2 != 0) a0_0 a0_1 a0_2 bt479.1 bt479.2.1 bt479.2.2.1 bt479.2.2.2) else (parallaxref08_Text.j0 k false a0_0 a0_1 a0_2 bt479.1 bt479.2.1 bt479.2.2.1 bt479.2.2.2)) else (parallaxref08_Text.j0 k true a0_0 a0_1 a0_2 bt479.1 bt479.2.1 bt479.2.2.1 bt479.2.2.2)) else (if bt479.2.1 < 2 then (parallaxref08_Text.j0 k (a0_2 != 0) a0_0 a0_1 a0_2 bt479.1 bt479.2.1 bt479.2.2.1 bt479.2.2.2) else (parallaxref08_Text.j0 k false a0_0 a0_1 a0_2 bt479.1 bt479.2.1 bt479.2.2.1 bt479.2.2.2))))) = some (r1, r2) := h; clear h; replace H := ob H; obtain ⟨⟨t479, t480, t481, t482⟩, A2, H⟩ := H; have HC3 := Aside0.mk H; clear H; go_enter Tryd.func81, Tryd.ntmps81
 go_upto_region 2 with (first | ((with_reducible refine gate_dst (N := 1) rfl ?_); refine bx 1 #[.int .i64 a0_0, .int .i64 a0_1, .int .i64 a0_2] 40 ?_; intro gb478 hg w4 hbox hb; have n_ := an4 (below_step bl hb) (hbox) (bg hg) (bg hg); clear HB; obtain ⟨HB, BK478, GW478, GE478⟩ := n_; clear hb hbox hg; obtain ⟨hcz5_0, hcz5_1, hcz5_2⟩ := bd3 BK478.out; have hfz5_0 := blk_frozen BK478.out 0; have hfz5_1 := blk_frozen BK478.out 1; have hfz5_2 := blk_frozen BK478.out 2) | ((with_reducible refine gate_callee (f := 57) rfl ?_); refine goesL_ (some 8) rfl rfl Tryd.func57 (by kernel_rfl) rfl #[.int .i64 a0_0] rfl (by (try simp only [List.map_toArray, List.map_cons, List.map_nil]); first | done | rfl | (simp only [List.length_drop, List.length_take]; rfl)) ?_; (with_reducible refine (parallaxref08_Of.calls a0_0 t479 t480 t481 t482 _ A2.out).mono ?_); rintro e w6 ⟨rfl, hb⟩; refine ⟨_, rfl, ?_⟩; have n_ := an2 (bu BK478.out hb) (below_step bl hb); clear BK478 HB; obtain ⟨BK478, HB⟩ := n_; (try clear hb)) | ((with_reducible refine gate_dst (N := 4) rfl ?_); refine bx 4 #[.string (⟨#[]⟩ : ByteArray), .int .i64 0, .int .i64 0, .int .i64 0] 108 ?_; intro gb483 hg w7 hbox hb; have n_ := an7 (bu BK478.out hb) (below_step bl hb) (hbox) (bg hg) (bg hg) ((by rw [hg]; exact Nat.ne_of_lt (blk_lt (g := gb478) (o := .cells #[.int .i64 a0_0, .int .i64 a0_1, .int .i64 a0_2] 40 (0, 0)) bk) : gb478 ≠ gb483)) ((by rw [hg]; exact Nat.ne_of_gt (blk_lt (g := gb478) (o := .cells #[.int .i64 a0_0, .int .i64 a0_1, .int .i64 a0_2] 40 (0, 0)) bk) : gb483 ≠ gb478)); clear BK478 HB; obtain ⟨BK478, HB, BK483, GW483, GE483, NB478_483, NB483_478⟩ := n_; clear hb hbox hg; have hnb8 := NB483_478.out; have hnc8 := NB478_483.out; obtain ⟨hcz9_0, hcz9_1, hcz9_2, hcz9_3⟩ := bd4 BK483.out; have hfz9_0 := blk_frozen BK483.out 0; have hfz9_1 := blk_frozen BK483.out 1; have hfz9_2 := blk_frozen BK483.out 2; have hfz9_3 := blk_frozen BK483.out 3))
 (try simp only [Act.put, List.setIfInBounds_toArray, List.set_cons_zero, List.set_cons_succ])
 go_cut [31] (fun v31 wc => ∃ (kq : Nat) (x31_2 : Bool), v31 = .bool x31_2 ∧ Aside0 (parallaxref08_Text.j0 kq x31_2 a0_0 a0_1 a0_2 t479 t480 t481 t482 = some (r1, r2)) ∧ Aside0 (kq ≤ k) ∧ Aside0 (wc.heap[gb478]? = some (.cells #[.int .i64 a0_0, .int .i64 a0_1, .int .i64 a0_2] 40 (0, 0))) ∧ Aside0 (wc.heap[gb483]? = some (.cells #[.string t479, .int .i64 t480, .int .i64 t481, .int .i64 t482] 108 (0, 0))) ∧ Aside0 (Below w.heap.size w wc))
 case first =>
  have H := HC3.out; clear HC3
  by_cases c10 : t479.toList = ([] : List UInt8)
  ·rw [if_pos c10] at H; obtain ⟨c10b0, c10b1⟩ := eqs c10; clear c10; (first | rw [c10b0] | (simp only [i64_w, i32_w]; rw [c10b0]) | skip); have H' := Aside0.mk H; clear H; have hnb11 := NB483_478.out; have hnc11 := NB478_483.out; obtain ⟨hcz12_0, hcz12_1, hcz12_2, hcz12_3, hfz12_0, hfz12_1, hfz12_2, hfz12_3⟩ := bc4 BK483.out; go_wp2; go_meet
   case rel => exact ⟨_, (true), pr, H', ⟨by first | omega | exact Nat.le_refl _⟩, ⟨by (with_reducible repeat (first | refine blk_drewN ?_ _ | refine blk_drew ?_ | refine blk_alloc ?_ _)); refine blk_far ?_ NB478_483.out _; exact bf3 (bq BK478.out) NB478_483.out⟩, ⟨by exact bp4 (bq BK483.out)⟩, ⟨bl⟩⟩
  ·rw [if_neg c10] at H; obtain ⟨c10b0, c10b1⟩ := eqf c10; (first | rw [c10b0] | (simp only [i64_w, i32_w]; rw [c10b0]) | skip); have HH_ := Aside0.mk H; clear H; have hnb16 := NB483_478.out; have hnc16 := NB478_483.out; obtain ⟨hcz17_0, hcz17_1, hcz17_2, hcz17_3, hfz17_0, hfz17_1, hfz17_2, hfz17_3⟩ := bc4 BK483.out; have H := HH_.out; clear HH_
   by_cases c13 : t480 < 1
   ·rw [if_pos c13] at H; have c13b0 := decide_eq_true c13; clear c13; have HH_ := Aside0.mk H; clear H; obtain ⟨hcz18_0, hcz18_1, hcz18_2, hfz18_0, hfz18_1, hfz18_2⟩ := bc3 BK478.out; have H := HH_.out; clear HH_
    by_cases c14 : a0_1 = 0
    ·rw [if_pos c14] at H; obtain ⟨c14b0, c14b1⟩ := eqs c14; clear c14; have HH_ := Aside0.mk H; clear H; have H := HH_.out; clear HH_
     by_cases c15 : t480 < 2
     ·rw [if_pos c15] at H; have c15b0 := decide_eq_true c15; clear c15; have H' := Aside0.mk H; clear H; go_wp2; go_meet
      case rel => exact ⟨_, ((a0_2 != 0)), pr, H', ⟨by first | omega | exact Nat.le_refl _⟩, ⟨by (with_reducible repeat (first | refine blk_drewN ?_ _ | refine blk_drew ?_ | refine blk_alloc ?_ _)); refine blk_far ?_ NB478_483.out _; exact bf3 (bq BK478.out) NB478_483.out⟩, ⟨by exact bp4 (bq BK483.out)⟩, ⟨bl⟩⟩
     ·rw [if_neg c15] at H; have c15b0 := decide_eq_false c15; clear c15; have H' := Aside0.mk H; clear H; go_wp2; go_meet
      case rel => exact ⟨_, (false), pr, H', ⟨by first | omega | exact Nat.le_refl _⟩, ⟨by (with_reducible repeat (first | refine blk_drewN ?_ _ | refine blk_drew ?_ | refine blk_alloc ?_ _)); refine blk_far ?_ NB478_483.out _; exact bf3 (bq BK478.out) NB478_483.out⟩, ⟨by exact bp4 (bq BK483.out)⟩, ⟨bl⟩⟩
    ·rw [if_neg c14] at H; obtain ⟨c14b0, c14b1⟩ := eqf c14; have H' := Aside0.mk H; clear H; go_wp2; go_meet
     case rel => exact ⟨_, (true), pr, H', ⟨by first | omega | exact Nat.le_refl _⟩, ⟨by (with_reducible repeat (first | refine blk_drewN ?_ _ | refine blk_drew ?_ | refine blk_alloc ?_ _)); refine blk_far ?_ NB478_483.out _; exact bf3 (bq BK478.out) NB478_483.out⟩, ⟨by exact bp4 (bq BK483.out)⟩, ⟨bl⟩⟩
   ·rw [if_neg c13] at H; have c13b0 := decide_eq_false c13; clear c13; have HH_ := Aside0.mk H; clear H; have H := HH_.out; clear HH_
    by_cases c25 : t480 < 2
    ·rw [if_pos c25] at H; have c25b0 := decide_eq_true c25; clear c25; have H' := Aside0.mk H; clear H; obtain ⟨hcz28_0, hcz28_1, hcz28_2, hfz28_0, hfz28_1, hfz28_2⟩ := bc3 BK478.out; go_wp2; go_meet
     case rel => exact ⟨_, ((a0_2 != 0)), pr, H', ⟨by first | omega | exact Nat.le_refl _⟩, ⟨by (with_reducible repeat (first | refine blk_drewN ?_ _ | refine blk_drew ?_ | refine blk_alloc ?_ _)); refine blk_far ?_ NB478_483.out _; exact bf3 (bq BK478.out) NB478_483.out⟩, ⟨by exact bp4 (bq BK483.out)⟩, ⟨bl⟩⟩
    ·rw [if_neg c25] at H; have c25b0 := decide_eq_false c25; clear c25; have H' := Aside0.mk H; clear H; go_wp2; go_meet
     case rel => exact ⟨_, (false), pr, H', ⟨by first | omega | exact Nat.le_refl _⟩, ⟨by (with_reducible repeat (first | refine blk_drewN ?_ _ | refine blk_drew ?_ | refine blk_alloc ?_ _)); refine blk_far ?_ NB478_483.out _; exact bf3 (bq BK478.out) NB478_483.out⟩, ⟨by exact bp4 (bq BK483.out)⟩, ⟨bl⟩⟩
 case rest =>
  clear HC3; (try clear hcz5_0); (try clear hcz5_1); (try clear hcz5_2); (try clear hcz9_0); (try clear hcz9_1); (try clear hcz9_2); (try clear hcz9_3); (try clear hfz5_0); (try clear hfz5_1); (try clear hfz5_2); (try clear hfz9_0); (try clear hfz9_1); (try clear hfz9_2); (try clear hfz9_3); obtain ⟨kq, x31_2, rfl, HA, HJ2, BK478, BK483, HB⟩ := hcut
  cases kq with
  | zero => exact absurd HA.out (by simp [parallaxref08_Text.j0])
  | succ kj2 =>
   have H := HA.out; clear HA; simp only [parallaxref08_Text.j0] at H
   by_cases c31 : x31_2 = true
   ·subst c31; rw [if_pos rfl] at H; simp only [Option.some.injEq, Prod.mk.injEq] at H; obtain ⟨rfl, rfl⟩ := H; go_wp2; go_ret2; exact ⟨pe, bl⟩
   ·replace c31 := Bool.eq_false_iff.mpr c31; subst c31; rw [if_neg (show ¬ (false = true) by decide)] at H
    by_cases c32 : t480 > 0
    ·rw [if_pos c32] at H; have c32b0 : decide (0 < t480) = true := decide_eq_true c32; clear c32
     replace H := it (c := t479.size + 1 ≤ 9223372036854775807) H; obtain ⟨c33, H⟩ := H; have c33b0 := eq_true c33; have c33b1 := decide_eq_true c33
     try have c33b2 : (9223372036854775807 < t479.size + 1) = False := eq_false (Nat.not_lt.2 c33)
     replace H := ob H; obtain ⟨t484, A34, H⟩ := H
     replace H := it (c := (t479 ++ (⟨#[32]⟩ : ByteArray)).size + t484.size ≤ 9223372036854775807) H; obtain ⟨c35, H⟩ := H; have c35b0 := eq_true c35; have c35b1 := decide_eq_true c35
     try have c35b2 : (9223372036854775807 < (t479 ++ (⟨#[32]⟩ : ByteArray)).size + t484.size) = False := eq_false (Nat.not_lt.2 c35)
     try have c35b3 : (9223372036854775807 < t479.size + 1 + t484.size) = False := eq_false (Nat.not_lt.2 (show t479.size + 1 + t484.size ≤ 9223372036854775807 from by have h_ := c35; simp only [ByteArray.size_append] at h_; exact h_))
     by_cases c36 : t480 > 1
     ·rw [if_pos c36] at H; have c36b0 : decide (1 < t480) = true := decide_eq_true c36; clear c36
      replace H := it (c := ((t479 ++ (⟨#[32]⟩ : ByteArray)) ++ t484).size + 1 ≤ 9223372036854775807) H; obtain ⟨c37, H⟩ := H; have c37b0 := eq_true c37; have c37b1 := decide_eq_true c37
      try have c37b2 : (9223372036854775807 < ((t479 ++ (⟨#[32]⟩ : ByteArray)) ++ t484).size + 1) = False := eq_false (Nat.not_lt.2 c37)
      try have c37b3 : (9223372036854775807 < t479.size + 1 + t484.size + 1) = False := eq_false (Nat.not_lt.2 (show t479.size + 1 + t484.size + 1 ≤ 9223372036854775807 from by have h_ := c37; simp only [ByteArray.size_append] at h_; exact h_))
      replace H := ob H; obtain ⟨t485, A38, H⟩ := H
      replace H := it (c := (((t479 ++ (⟨#[32]⟩ : ByteArray)) ++ t484) ++ (⟨#[32]⟩ : ByteArray)).size + t485.size ≤ 9223372036854775807) H; obtain ⟨c39, H⟩ := H; have c39b0 := eq_true c39; have c39b1 := decide_eq_true c39
      try have c39b2 : (9223372036854775807 < (((t479 ++ (⟨#[32]⟩ : ByteArray)) ++ t484) ++ (⟨#[32]⟩ : ByteArray)).size + t485.size) = False := eq_false (Nat.not_lt.2 c39)
      try have c39b3 : (9223372036854775807 < t479.size + 1 + t484.size + 1 + t485.size) = False := eq_false (Nat.not_lt.2 (show t479.size + 1 + t484.size + 1 + t485.size ≤ 9223372036854775807 from by have h_ := c39; simp only [ByteArray.size_append] at h_; exact h_))
      simp only [Option.some.injEq, Prod.mk.injEq] at H; obtain ⟨rfl, rfl⟩ := H; have hnb40 := NB483_478.out; have hnc40 := NB478_483.out; obtain ⟨hcz41_0, hcz41_1, hcz41_2, hcz41_3, hfz41_0, hfz41_1, hfz41_2, hfz41_3⟩ := bc4 BK483.out; obtain ⟨hcz42_0, hcz42_1, hcz42_2, hfz42_0, hfz42_1, hfz42_2⟩ := bc3 BK478.out
      go_wp2_with (first | ((with_reducible refine gate_callee (f := 100) rfl ?_); refine goesL_ (some 41) rfl rfl Tryd.func100 (by kernel_rfl) rfl #[.int .i64 a0_1] rfl (by (try simp only [List.map_toArray, List.map_cons, List.map_nil]); first | done | rfl | (simp only [List.length_drop, List.length_take]; rfl)) ?_; (with_reducible refine (parallaxref01_Text.calls kj2 a0_1 t484 _ A34.out).mono ?_); rintro e w43 ⟨rfl, hb⟩; refine ⟨_, rfl, ?_⟩; have n_ := an3 (bu BK478.out hb) (bu BK483.out hb) (below_step bl hb); clear BK478 BK483 HB; obtain ⟨BK478, BK483, HB⟩ := n_; (try clear hb); obtain ⟨hcz44_0, hcz44_1, hcz44_2, hcz44_3, hfz44_0, hfz44_1, hfz44_2, hfz44_3⟩ := bc4 BK483.out; obtain ⟨hcz45_0, hcz45_1, hcz45_2⟩ := bd3 BK478.out; have hfz45_0 := blk_frozen BK478.out 0; have hfz45_1 := blk_frozen BK478.out 1; have hfz45_2 := blk_frozen BK478.out 2) | ((with_reducible refine gate_callee (f := 100) rfl ?_); refine goesL_ (some 50) rfl rfl Tryd.func100 (by kernel_rfl) rfl #[.int .i64 a0_2] rfl (by (try simp only [List.map_toArray, List.map_cons, List.map_nil]); first | done | rfl | (simp only [List.length_drop, List.length_take]; rfl)) ?_; (with_reducible refine (parallaxref01_Text.calls kj2 a0_2 t485 _ A38.out).mono ?_); rintro e w46 ⟨rfl, hb⟩; refine ⟨_, rfl, ?_⟩; have n_ := an3 (bu BK478.out hb) (bu BK483.out hb) (below_step bl hb); clear BK478 BK483 HB; obtain ⟨BK478, BK483, HB⟩ := n_; (try clear hb)))
      go_ret2; exact ⟨pe, bl⟩
     ·rw [if_neg c36] at H; have c36b0 : decide (1 < t480) = false := decide_eq_false c36; clear c36; simp only [Option.some.injEq, Prod.mk.injEq] at H; obtain ⟨rfl, rfl⟩ := H; have hnb47 := NB483_478.out; have hnc47 := NB478_483.out; obtain ⟨hcz48_0, hcz48_1, hcz48_2, hcz48_3, hfz48_0, hfz48_1, hfz48_2, hfz48_3⟩ := bc4 BK483.out; obtain ⟨hcz49_0, hcz49_1, hcz49_2, hfz49_0, hfz49_1, hfz49_2⟩ := bc3 BK478.out
      go_wp2_with (first | ((with_reducible refine gate_callee (f := 100) rfl ?_); refine goesL_ (some 41) rfl rfl Tryd.func100 (by kernel_rfl) rfl #[.int .i64 a0_1] rfl (by (try simp only [List.map_toArray, List.map_cons, List.map_nil]); first | done | rfl | (simp only [List.length_drop, List.length_take]; rfl)) ?_; (with_reducible refine (parallaxref01_Text.calls kj2 a0_1 t484 _ A34.out).mono ?_); rintro e w50 ⟨rfl, hb⟩; refine ⟨_, rfl, ?_⟩; have n_ := an3 (bu BK478.out hb) (bu BK483.out hb) (below_step bl hb); clear BK478 BK483 HB; obtain ⟨BK478, BK483, HB⟩ := n_; (try clear hb); obtain ⟨hcz51_0, hcz51_1, hcz51_2, hcz51_3⟩ := bd4 BK483.out; have hfz51_0 := blk_frozen BK483.out 0; have hfz51_1 := blk_frozen BK483.out 1; have hfz51_2 := blk_frozen BK483.out 2; have hfz51_3 := blk_frozen BK483.out 3))
      go_ret2; exact ⟨pe, bl⟩
    ·rw [if_neg c32] at H; have c32b0 : decide (0 < t480) = false := decide_eq_false c32; clear c32
     by_cases c52 : t480 > 1
     ·rw [if_pos c52] at H; have c52b0 : decide (1 < t480) = true := decide_eq_true c52; clear c52
      replace H := it (c := t479.size + 1 ≤ 9223372036854775807) H; obtain ⟨c53, H⟩ := H; have c53b0 := eq_true c53; have c53b1 := decide_eq_true c53
      try have c53b2 : (9223372036854775807 < t479.size + 1) = False := eq_false (Nat.not_lt.2 c53)
      replace H := ob H; obtain ⟨t486, A54, H⟩ := H
      replace H := it (c := (t479 ++ (⟨#[32]⟩ : ByteArray)).size + t486.size ≤ 9223372036854775807) H; obtain ⟨c55, H⟩ := H; have c55b0 := eq_true c55; have c55b1 := decide_eq_true c55
      try have c55b2 : (9223372036854775807 < (t479 ++ (⟨#[32]⟩ : ByteArray)).size + t486.size) = False := eq_false (Nat.not_lt.2 c55)
      try have c55b3 : (9223372036854775807 < t479.size + 1 + t486.size) = False := eq_false (Nat.not_lt.2 (show t479.size + 1 + t486.size ≤ 9223372036854775807 from by have h_ := c55; simp only [ByteArray.size_append] at h_; exact h_))
      simp only [Option.some.injEq, Prod.mk.injEq] at H; obtain ⟨rfl, rfl⟩ := H; have hnb56 := NB483_478.out; have hnc56 := NB478_483.out; obtain ⟨hcz57_0, hcz57_1, hcz57_2, hcz57_3, hfz57_0, hfz57_1, hfz57_2, hfz57_3⟩ := bc4 BK483.out; obtain ⟨hcz58_0, hcz58_1, hcz58_2, hfz58_0, hfz58_1, hfz58_2⟩ := bc3 BK478.out
      go_wp2_with (first | ((with_reducible refine gate_callee (f := 100) rfl ?_); refine goesL_ (some 50) rfl rfl Tryd.func100 (by kernel_rfl) rfl #[.int .i64 a0_2] rfl (by (try simp only [List.map_toArray, List.map_cons, List.map_nil]); first | done | rfl | (simp only [List.length_drop, List.length_take]; rfl)) ?_; (with_reducible refine (parallaxref01_Text.calls kj2 a0_2 t486 _ A54.out).mono ?_); rintro e w59 ⟨rfl, hb⟩; refine ⟨_, rfl, ?_⟩; have n_ := an3 (bu BK478.out hb) (bu BK483.out hb) (below_step bl hb); clear BK478 BK483 HB; obtain ⟨BK478, BK483, HB⟩ := n_; (try clear hb)))
      go_ret2; exact ⟨pe, bl⟩
     ·rw [if_neg c52] at H; have c52b0 : decide (1 < t480) = false := decide_eq_false c52; clear c52; simp only [Option.some.injEq, Prod.mk.injEq] at H; obtain ⟨rfl, rfl⟩ := H; have hnb60 := NB483_478.out; have hnc60 := NB478_483.out; obtain ⟨hcz61_0, hcz61_1, hcz61_2, hcz61_3, hfz61_0, hfz61_1, hfz61_2, hfz61_3⟩ := bc4 BK483.out; go_wp2; go_ret2; exact ⟨pe, bl⟩

/-! ### parallaxref08_cells: function 82 -/
def parallaxref08_cells.f (l0_0 : List (S40)) (a0_1 : Int) (a0_2 : Int) (a0_3 : Bool) (a1 : Int) (a2 : Int) : Option (Bool) := if a1 ≥ 0 then (if a2 ≥ 1 then (if a2 ≤ a0_1 then (some (decide (a1 ≤ (wrap64 (a0_1 - a2))))) else (some false)) else (some false)) else (some false)
set_option maxHeartbeats 8000000 in
set_option maxRecDepth 100000 in
theorem parallaxref08_cells.calls (A0_0 : Option Addr) (c0_0 : Nat) (l0_0 : List (S40)) (a0_1 : Int) (a0_2 : Int) (a0_3 : Bool) (a1 : Int) (a2 : Int) (r : Bool) (w : World) (hr0_0 : Kd.C k40 w A0_0 l0_0.length l0_0) (hc0_0 : l0_0.length ≤ c0_0) (h : parallaxref08_cells.f l0_0 a0_1 a0_2 a0_3 a1 a2 = some r) :
  Calls Tryd.prog 82 #[.agg #[.slice A0_0 l0_0.length c0_0, .int .i64 a0_1, .int .i64 a0_2, .bool a0_3], .int .i64 a1, .int .i64 a2] w fun e w' => e = .returned (.bool r) ∧ Below w.heap.size w w' := by
 have hu35 := Tryd.underlying35; have HR0_0 := Aside0.mk hr0_0; have HC0_0 := Aside0.mk hc0_0; clear hr0_0 hc0_0; have HB := Aside0.mk (Below.refl w.heap.size w); have H : (if a1 ≥ 0 then (if a2 ≥ 1 then (if a2 ≤ a0_1 then (some (decide (a1 ≤ (wrap64 (a0_1 - a2))))) else (some false)) else (some false)) else (some false)) = some r := h; clear h; have HH_ := Aside0.mk H; clear H; go_enter Tryd.func82, Tryd.ntmps82
 go_wp2_with (first | ((with_reducible refine gate_dst (N := 3) rfl ?_); refine bx 3 #[.slice A0_0 l0_0.length c0_0, .int .i64 a0_1, .int .i64 a0_2, .bool a0_3] 35 ?_; intro gb487 hg w7 hbox hb; have n_ := an4 (below_step bl hb) (hbox) (bg hg) (bg hg); clear HB; obtain ⟨HB, BK487, GW487, GE487⟩ := n_; clear hb hbox hg; obtain ⟨hcz8_0, hcz8_1, hcz8_2, hcz8_3, hfz8_0, hfz8_1, hfz8_2, hfz8_3⟩ := bc4 BK487.out; refine ?roundEnd))
 case roundEnd =>
  have H := HH_.out; clear HH_
  by_cases c4 : a1 ≥ 0
  ·rw [if_pos c4] at H; have c4b0 : decide (0 ≤ a1) = true := decide_eq_true c4; clear c4; have HH_ := Aside0.mk H; clear H; refine ?roundEnd; go_wp2
   case roundEnd =>
    have H := HH_.out; clear HH_
    by_cases c5 : a2 ≥ 1
    ·rw [if_pos c5] at H; have c5b0 : decide (1 ≤ a2) = true := decide_eq_true c5; clear c5; have HH_ := Aside0.mk H; clear H; refine ?roundEnd; go_wp2
     case roundEnd =>
      have H := HH_.out; clear HH_
      by_cases c6 : a2 ≤ a0_1
      ·rw [if_pos c6] at H; have c6b0 := decide_eq_true c6; clear c6; obtain rfl := Option.some.inj H; go_wp2; go_ret; exact ⟨pe, bl⟩
      ·rw [if_neg c6] at H; have c6b0 := decide_eq_false c6; clear c6; obtain rfl := Option.some.inj H; go_wp2; go_ret; exact ⟨pe, bl⟩
    ·rw [if_neg c5] at H; have c5b0 : decide (1 ≤ a2) = false := decide_eq_false c5; clear c5; obtain rfl := Option.some.inj H; go_wp2; go_ret; exact ⟨pe, bl⟩
  ·rw [if_neg c4] at H; have c4b0 : decide (0 ≤ a1) = false := decide_eq_false c4; clear c4; obtain rfl := Option.some.inj H; go_wp2; go_ret; exact ⟨pe, bl⟩

end Go.Proofs.YtmbjogpphegoaaaDoor.P
