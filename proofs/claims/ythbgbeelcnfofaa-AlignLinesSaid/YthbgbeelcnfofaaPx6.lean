-- Written by a program of this session (its own turn of the print: wip/patch_print.py), not by hand. Lean checks it.
import Derived.Test.YthbgbeelcnfofaaPx0
import Derived.Test.YthbgbeelcnfofaaPx3
import Derived.Test.YthbgbeelcnfofaaPx4
import Derived.Test.YthbgbeelcnfofaaPx5
namespace Go.Proofs.Ythbgbeelcnfofaa.P
open Go.RowKit Go.Proofs.YthbgbeelcnfofaaW.PrintWords Go.Proofs.YthbgbeelcnfofaaW.PrintLast Go.Proofs.YthbgbeelcnfofaaW.PrintMore
attribute [local go_sem] max2_int min2_int max_two min_two max_three min_three max_four min_four   -- for this text's walks alone
set_option linter.unusedVariables false
set_option linter.unusedSimpArgs false

/-! ### align_least: function 38 -/
def align_least.l0 : Nat → List (S24) → List (S24) → Int → List (S41) → Int → Int → Int → List Int → Option ((List (S41)))
 | 0, _, _, _, _, _, _, _, _ => none
 | k + 1, x0, x1, x2, x8, x9, x10, x143000, x143001 => (align_table_at.f x143000 x143001 x9 x10).bind fun bt143 => (if bt143.1 > 0 then ((align_table_at.f bt143.2 x143001 x9 x10).bind fun bt145 => ((align_find.f k bt145.2 x143001 x0 x1 x9 x10 bt145.1).bind fun bt147 => (if x8.length < 8796093022208 then (align_least.l0 k x0 x1 x2 (x8 ++ [(⟨wrap64 (x2 + bt147.1), wrap64 (x2 + bt147.2.1)⟩ : S41)]) (wrap64 (bt147.1 + 1)) (wrap64 (bt147.2.1 + 1)) bt147.2.2 x143001) else (none)))) else (some x8))
def align_least.f (k : Nat) (l0 : List (S24)) (l1 : List (S24)) (a2 : Int) : Option ((List (S41))) := (align_sizes.f l0 l1).bind fun bt140 => (align_least.l0 k l0 l1 a2 ([] : List (S41)) 0 0 bt140.1 bt140.2)
theorem align_least.mono_l : ∀ k, (∀ y0 y1 y2 y3 y4 y5 y6 y7, LeO (align_least.l0 k y0 y1 y2 y3 y4 y5 y6 y7) (align_least.l0 (k + 1) y0 y1 y2 y3 y4 y5 y6 y7))
 | 0 => fun _ _ _ _ _ _ _ _ r h => by simp [align_least.l0] at h
 | k + 1 => by
  have ih0 := align_least.mono_l k
  ·intro y0 y1 y2 y3 y4 y5 y6 y7
   unfold align_least.l0
   repeat' first
   | (with_reducible exact ih0 _ _ _ _ _ _ _ _)
   | (with_reducible exact align_find.mono _ _ _ _ _ _ _ _)
   | (with_reducible exact LeO.refl _)
   | (with_reducible exact LeO.none _)
   | (with_reducible refine LeO.ite ?_ ?_)
   | (with_reducible refine LeO.bind ?_ (fun _ => ?_))
   | exact ih0 _ _ _ _ _ _ _ _
   | exact align_find.mono _ _ _ _ _ _ _ _
   | exact LeO.none _
   | refine LeO.ite ?_ ?_
   | refine LeO.bind ?_ (fun _ => ?_)
theorem align_least.mono : ∀ a0 a1 a2 k, LeO (align_least.f k a0 a1 a2) (align_least.f (k + 1) a0 a1 a2) := by
 intro a0 a1 a2 k
 have ih0 := align_least.mono_l k
 unfold align_least.f
 repeat' first
   | (with_reducible exact ih0 _ _ _ _ _ _ _ _)
   | (with_reducible exact align_find.mono _ _ _ _ _ _ _ _)
   | (with_reducible exact LeO.refl _)
   | (with_reducible exact LeO.none _)
   | (with_reducible refine LeO.ite ?_ ?_)
   | (with_reducible refine LeO.bind ?_ (fun _ => ?_))
   | exact ih0 _ _ _ _ _ _ _ _
   | exact align_find.mono _ _ _ _ _ _ _ _
   | exact LeO.none _
   | refine LeO.ite ?_ ?_
   | refine LeO.bind ?_ (fun _ => ?_)
set_option maxHeartbeats 8000000 in
set_option maxRecDepth 100000 in
theorem align_least.calls0 (k : Nat) (A0 : Option Addr) (c0 : Nat) (l0 : List (S24)) (A1 : Option Addr) (c1 : Nat) (l1 : List (S24)) (a2 : Int) (r : List (S41)) (w : World) (hr0 : Kd.C k24 w A0 l0.length l0) (hc0 : l0.length ≤ c0) (hr1 : Kd.C k24 w A1 l1.length l1) (hc1 : l1.length ≤ c1) (h : align_least.f k l0 l1 a2 = some r) :
  Calls Try.prog 38 #[.slice A0 l0.length c0, .slice A1 l1.length c1, .int .i64 a2] w fun e w' => ∃ z0 : World, Below w.heap.size w z0 ∧ (∃ v0_ : Value, e = .returned (v0_) ∧ Kd.R k41 41 w' z0.heap.size (fun _ => True) v0_ r ∧ Below z0.heap.size z0 w') := by
 have hu41 := Try.underlying41
 have HR0 := Aside0.mk hr0
 have HC0 := Aside0.mk hc0
 clear hr0 hc0
 have HR1 := Aside0.mk hr1
 have HC1 := Aside0.mk hc1
 clear hr1 hc1
 have HB := Aside0.mk (Below.refl w.heap.size w)
 have H : ((align_sizes.f l0 l1).bind fun bt140 => (align_least.l0 k l0 l1 a2 ([] : List (S41)) 0 0 bt140.1 bt140.2)) = some r := h
 clear h
 replace H := Option.bind_eq_some_iff.mp H
 obtain ⟨⟨t140, t141⟩, A40, H⟩ := H
 replace H : (align_least.l0 k l0 l1 a2 ([] : List (S41)) 0 0 t140 t141) = some r := H
 have A4 := Aside0.mk A40
 clear A40
 have H' := Aside0.mk H
 clear H
 go_enter Try.func38, Try.ntmps38
 go_wp2_with (first | ((with_reducible refine gate_callee (f := 48) rfl ?_); refine goesL_ (some 16) rfl rfl Try.func48 (by kernel_rfl) rfl #[.slice A0 l0.length c0, .slice A1 l1.length c1] rfl (by (try simp only [List.map_toArray, List.map_cons, List.map_nil]); first | done | rfl | (simp only [List.length_drop, List.length_take]; rfl)) ?_; (with_reducible refine (align_sizes.calls _ _ l0 _ _ l1 t140 t141 w _ ?side1 ?side2 ?side3 ?side4 ?side5 A4.out).mono ?_); (case side1 => repeat (first | (with_reducible first | exact HB.out | apply below_alloc | apply pw_below_drewN | apply below_drew1) | exact HB.out)); (case side2 => exact HR0.out); (case side3 => exact HC0.out); (case side4 => exact HR1.out); (case side5 => exact HC1.out); rintro e w5 ⟨g142, z0, rfl, hi, hb, hwz⟩; have HWZ := Aside0.mk (below_step HB.out hwz); clear hwz; have q0_ := Aside0.mk (Kd.C_below HR0.out HWZ.out); clear HR0; have HR0 := q0_; clear q0_; have q0_ := Aside0.mk (Kd.C_below HR1.out HWZ.out); clear HR1; have HR1 := q0_; clear q0_; have hb2 := trivial; refine ⟨_, rfl, ?_⟩; have n0_ := Aside0.mk (hb); have n1_ := Aside0.mk (hi); clear HB; have HB := n0_; have HI142 := n1_; clear n0_ n1_; (try clear hb); (try clear hb2); (try clear hk); (try clear hi)))
 go_loopg [8, 9, 10] k (fun kq v8 v9 v10 w' => ∃ (x8_1 : List (S41)) (x9_1 : Int) (x10_1 : Int) (x143000_1 : Int), v9 = .int .i64 x9_1 ∧ v10 = .int .i64 x10_1 ∧ Aside0 (align_least.l0 kq l0 l1 a2 x8_1 x9_1 x10_1 x143000_1 t141 = some r) ∧ Aside0 (kq ≤ k) ∧ Aside0 (Kd.R k41 41 w' z0.heap.size (fun _ => True) v8 x8_1) ∧ Aside0 (IsS92 z0 w' g142 x143000_1 t141) ∧ Aside0 (Below z0.heap.size z0 w'))
 case atStart => exact ⟨(([] : List (S41))), (0), (0), (t140), (by first | rfl | (simp; done) | (simp [*]; done)), (by first | rfl | (simp; done) | (simp [*]; done)), H', ⟨Nat.le_refl _⟩, ⟨by first | exact Kd.R_nil _ _ _ _ _ | exact Kd.N_nil _ _ _ _ _ | exact Kd.V_nil _ _ _ _ _ | exact Kd.Q_nil _ _ _ _ _ | exact Kd.S_nil _ _ _ _ _⟩, ⟨by repeat (first | (with_reducible first | exact HI142.out | apply IsS92.alloc | apply IsS92.drewN | apply IsS92.drew | apply IsS92.set_0) | exact HI142.out)⟩, ⟨by repeat (first | (with_reducible first | exact HB.out | apply below_alloc | apply pw_below_drewN | apply below_drew1 | refine below_set ?_ (IsS92.ge HI142.out)) | exact HB.out)⟩⟩
 case round =>
  clear H'
  try clear c1
  try clear p2
  try clear c3
  try clear c4
  obtain ⟨x8_1, x9_1, x10_1, x143000_1, rfl, rfl, HA, HK1, HO_8, HI142, HB⟩ := hrel
  cases gk with
  | zero => exact absurd HA.out (by simp [align_least.l0])
  | succ k1 =>
   have H := HA.out
   clear HA
   simp only [align_least.l0] at H
   replace H := Option.bind_eq_some_iff.mp H
   obtain ⟨⟨t143, t144⟩, A60, H⟩ := H
   replace H : (if t143 > 0 then ((align_table_at.f t144 t141 x9_1 x10_1).bind fun bt145 => ((align_find.f k1 bt145.2 t141 l0 l1 x9_1 x10_1 bt145.1).bind fun bt147 => (if x8_1.length < 8796093022208 then (align_least.l0 k1 l0 l1 a2 (x8_1 ++ [(⟨wrap64 (a2 + bt147.1), wrap64 (a2 + bt147.2.1)⟩ : S41)]) (wrap64 (bt147.1 + 1)) (wrap64 (bt147.2.1 + 1)) bt147.2.2 t141) else (none)))) else (some x8_1)) = some r := H
   have A6 := Aside0.mk A60
   clear A60
   by_cases c7 : t143 > 0
   ·rw [if_pos c7] at H
    have c7b0 : decide (0 < t143) = true := decide_eq_true c7
    clear c7
    replace H := Option.bind_eq_some_iff.mp H
    obtain ⟨⟨t145, t146⟩, A80, H⟩ := H
    replace H : ((align_find.f k1 t146 t141 l0 l1 x9_1 x10_1 t145).bind fun bt147 => (if x8_1.length < 8796093022208 then (align_least.l0 k1 l0 l1 a2 (x8_1 ++ [(⟨wrap64 (a2 + bt147.1), wrap64 (a2 + bt147.2.1)⟩ : S41)]) (wrap64 (bt147.1 + 1)) (wrap64 (bt147.2.1 + 1)) bt147.2.2 t141) else (none))) = some r := H
    have A8 := Aside0.mk A80
    clear A80
    replace H := Option.bind_eq_some_iff.mp H
    obtain ⟨⟨t147, t148, t149⟩, A90, H⟩ := H
    replace H : (if x8_1.length < 8796093022208 then (align_least.l0 k1 l0 l1 a2 (x8_1 ++ [(⟨wrap64 (a2 + t147), wrap64 (a2 + t148)⟩ : S41)]) (wrap64 (t147 + 1)) (wrap64 (t148 + 1)) t149 t141) else (none)) = some r := H
    have A9 := Aside0.mk A90
    clear A90
    by_cases c10 : x8_1.length < 8796093022208
    ·rw [if_pos c10] at H
     have LMc10 := Aside0.mk c10
     clear c10
     obtain ⟨y150, hy150⟩ : ∃ y_ : List (S41), y_ = (x8_1 ++ [(⟨wrap64 (a2 + t147), wrap64 (a2 + t148)⟩ : S41)]) := ⟨_, rfl⟩
     replace H : (align_least.l0 k1 l0 l1 a2 y150 (wrap64 (t147 + 1)) (wrap64 (t148 + 1)) t149 t141) = some r := by first | (rw [hy150]; with_reducible exact H) | (have H2_ := (Option.bind_some _ _).symm.trans H; rw [hy150]; with_reducible exact H2_) | (have H2_ := (Option.bind_some _ _).symm.trans H; with_reducible exact H2_) | with_reducible exact H | (rw [hy150]; exact H) | exact H
     have Ny150 := Aside0.mk hy150
     clear hy150
     have H' := Aside0.mk H
     clear H
     go_wp2_with (first | ((with_reducible refine gate_callee (f := 49) rfl ?_); refine goesL_ (some 20) rfl rfl Try.func49 (by kernel_rfl) rfl #[.pointer (some ⟨g142, 0, none⟩), .int .i64 x9_1, .int .i64 x10_1] rfl (by (try simp only [List.map_toArray, List.map_cons, List.map_nil]); first | done | rfl | (simp only [List.length_drop, List.length_take]; rfl)) ?_; (with_reducible refine (align_table_at.calls g142 x143000_1 t141 x9_1 x10_1 t143 t144 z0 _ ?side1 ?side2 A6.out).mono ?_); (case side1 => repeat (first | (with_reducible first | exact HI142.out | apply IsS92.alloc | apply IsS92.drewN | apply IsS92.drew | apply IsS92.set_0) | exact HI142.out)); (case side2 => repeat (first | (with_reducible first | exact HB.out | apply below_alloc | apply pw_below_drewN | apply below_drew1 | refine below_set ?_ (IsS92.ge HI142.out)) | exact HB.out)); rintro e w11 ⟨rfl, hi, hb, hk⟩; refine ⟨_, rfl, ?_⟩; have n0_ := Aside0.mk (Kd.R_mono (Kd.R_keep (IsS92.apart (show IsS92 z0 _ g142 x143000_1 t141 from by repeat (first | (with_reducible first | exact HI142.out | apply IsS92.alloc | apply IsS92.drewN | apply IsS92.drew | apply IsS92.set_0) | exact HI142.out)) (by (with_reducible repeat (first | apply Kd.R_alloc | apply Kd.R_drewN | apply Kd.R_drew)); exact HO_8.out) (by decide)) hk (fun _ h => h.2)) (fun _ h => h.1)); have n1_ := Aside0.mk (hb); have n2_ := Aside0.mk (hi); clear HO_8; clear HB; clear HI142; have HO_8 := n0_; have HB := n1_; have HI142 := n2_; clear n0_ n1_ n2_; (try clear hb); (try clear hb2); (try clear hk); (try clear hi)) | ((with_reducible refine gate_callee (f := 49) rfl ?_); refine goesL_ (some 25) rfl rfl Try.func49 (by kernel_rfl) rfl #[.pointer (some ⟨g142, 0, none⟩), .int .i64 x9_1, .int .i64 x10_1] rfl (by (try simp only [List.map_toArray, List.map_cons, List.map_nil]); first | done | rfl | (simp only [List.length_drop, List.length_take]; rfl)) ?_; (with_reducible refine (align_table_at.calls g142 t144 t141 x9_1 x10_1 t145 t146 z0 _ ?side1 ?side2 A8.out).mono ?_); (case side1 => repeat (first | (with_reducible first | exact HI142.out | apply IsS92.alloc | apply IsS92.drewN | apply IsS92.drew | apply IsS92.set_0) | exact HI142.out)); (case side2 => repeat (first | (with_reducible first | exact HB.out | apply below_alloc | apply pw_below_drewN | apply below_drew1 | refine below_set ?_ (IsS92.ge HI142.out)) | exact HB.out)); rintro e w12 ⟨rfl, hi, hb, hk⟩; refine ⟨_, rfl, ?_⟩; have n0_ := Aside0.mk (Kd.R_mono (Kd.R_keep (IsS92.apart (show IsS92 z0 _ g142 t144 t141 from by repeat (first | (with_reducible first | exact HI142.out | apply IsS92.alloc | apply IsS92.drewN | apply IsS92.drew | apply IsS92.set_0) | exact HI142.out)) (by (with_reducible repeat (first | apply Kd.R_alloc | apply Kd.R_drewN | apply Kd.R_drew)); exact HO_8.out) (by decide)) hk (fun _ h => h.2)) (fun _ h => h.1)); have n1_ := Aside0.mk (hb); have n2_ := Aside0.mk (hi); clear HO_8; clear HB; clear HI142; have HO_8 := n0_; have HB := n1_; have HI142 := n2_; clear n0_ n1_ n2_; (try clear hb); (try clear hb2); (try clear hk); (try clear hi)) | ((with_reducible refine gate_callee (f := 50) rfl ?_); refine goesL_ (some 33) rfl rfl Try.func50 (by kernel_rfl) rfl #[.pointer (some ⟨g142, 0, none⟩), .slice A0 l0.length c0, .slice A1 l1.length c1, .int .i64 x9_1, .int .i64 x10_1, .int .i64 t145] rfl (by (try simp only [List.map_toArray, List.map_cons, List.map_nil]); first | done | rfl | (simp only [List.length_drop, List.length_take]; rfl)) ?_; (with_reducible refine (align_find.calls k1 g142 t146 t141 _ _ l0 _ _ l1 x9_1 x10_1 t145 t147 t148 t149 z0 _ ?side1 ?side2 ?side3 ?side4 ?side5 ?side6 A9.out).mono ?_); (case side1 => repeat (first | (with_reducible first | exact HI142.out | apply IsS92.alloc | apply IsS92.drewN | apply IsS92.drew | apply IsS92.set_0) | exact HI142.out)); (case side2 => repeat (first | (with_reducible first | exact HB.out | apply below_alloc | apply pw_below_drewN | apply below_drew1 | refine below_set ?_ (IsS92.ge HI142.out)) | exact HB.out)); (case side3 => exact Kd.C_foot_came k24_heap HR0.out (by repeat (first | (with_reducible first | exact HB.out | apply below_alloc | apply pw_below_drewN | apply below_drew1 | refine below_set ?_ (IsS92.ge HI142.out)) | exact HB.out)) (IsS92.ge HI142.out)); (case side4 => exact HC0.out); (case side5 => exact Kd.C_foot_came k24_heap HR1.out (by repeat (first | (with_reducible first | exact HB.out | apply below_alloc | apply pw_below_drewN | apply below_drew1 | refine below_set ?_ (IsS92.ge HI142.out)) | exact HB.out)) (IsS92.ge HI142.out)); (case side6 => exact HC1.out); rintro e w13 ⟨rfl, hi, hb, hk⟩; refine ⟨_, rfl, ?_⟩; have n0_ := Aside0.mk (Kd.R_mono (Kd.R_keep (IsS92.apart (show IsS92 z0 _ g142 t146 t141 from by repeat (first | (with_reducible first | exact HI142.out | apply IsS92.alloc | apply IsS92.drewN | apply IsS92.drew | apply IsS92.set_0) | exact HI142.out)) (by (with_reducible repeat (first | apply Kd.R_alloc | apply Kd.R_drewN | apply Kd.R_drew)); exact HO_8.out) (by decide)) hk (fun _ h => h.2)) (fun _ h => h.1)); have n1_ := Aside0.mk (hb); have n2_ := Aside0.mk (hi); clear HO_8; clear HB; clear HI142; have HO_8 := n0_; have HB := n1_; have HI142 := n2_; clear n0_ n1_ n2_; (try clear hb); (try clear hb2); (try clear hk); (try clear hi)) | ((with_reducible refine gate_builtin (b := .append) (xs := #[.tmp 36, .tmp 44]) rfl ?_); at_builtin; refine Kd.R_append k41 (w0 := z0) z0.heap.size rfl (.tmp 36) (.tmp 44) 30 41 (.agg #[(.int .i64 0), (.int .i64 0)]) 16 rfl Try.underlying30 info41 rfl (by decide) (by omega) u8 x8_1 (⟨wrap64 (a2 + t147), wrap64 (a2 + t148)⟩ : S41) [.int .i64 (wrap64 (a2 + t147)), .int .i64 (wrap64 (a2 + t148))] (fun _ => True) (fun _ => False) rfl rfl ?aP (fun _ hk => hk.elim) ?aF ?aO ?aB ?aS ?aL ?_; (case aP => exact k41_mkM _ _ _ (⟨wrap64 (a2 + t147), wrap64 (a2 + t148)⟩ : S41)); (case aB => exact (by repeat (first | (with_reducible first | exact HB.out | apply below_alloc | apply pw_below_drewN | apply below_drew1 | refine below_set ?_ (IsS92.ge HI142.out)) | exact HB.out))); (case aF => exact (fun _ _ => trivial)); (case aO => exact (by (with_reducible repeat (first | apply Kd.R_alloc | apply Kd.R_drewN | apply Kd.R_drew)); exact HO_8.out)); (case aS => exact (below_size (by repeat (first | (with_reducible first | exact HB.out | apply below_alloc | apply pw_below_drewN | apply below_drew1 | refine below_set ?_ (IsS92.ge HI142.out)) | exact HB.out)))); (case aL => have := LMc10.out; omega); intro v151 w14 ho hb hg hat; rw [← Ny150.out] at ho; have n0_ := Aside0.mk (IsS92.grown (by repeat (first | (with_reducible first | exact HI142.out | apply IsS92.alloc | apply IsS92.drewN | apply IsS92.drew | apply IsS92.set_0) | exact HI142.out)) hg (IsS92.own_ne HI142.out HO_8.out (by decide))); have n1_ := Aside0.mk (hb); have n2_ := Aside0.mk (ho); clear HI142; clear HB; clear HO_8; have HI142 := n0_; have HB := n1_; have HO152 := n2_; clear n0_ n1_ n2_; clear ho hb hg hat))
     go_roundg k1
     case measure => have := HK1.out; omega
     case rel => exact ⟨(y150), (wrap64 (t147 + 1)), (wrap64 (t148 + 1)), (t149), (by first | rfl | (simp; done) | (simp [*]; done)), (by first | rfl | (simp; done) | (simp [*]; done)), H', ⟨by have := HK1.out; omega⟩, ⟨by (with_reducible repeat (first | apply Kd.R_alloc | apply Kd.R_drewN | apply Kd.R_drew)); exact HO152.out⟩, ⟨by repeat (first | (with_reducible first | exact HI142.out | apply IsS92.alloc | apply IsS92.drewN | apply IsS92.drew | apply IsS92.set_0) | exact HI142.out)⟩, ⟨by repeat (first | (with_reducible first | exact HB.out | apply below_alloc | apply pw_below_drewN | apply below_drew1 | refine below_set ?_ (IsS92.ge HI142.out)) | exact HB.out)⟩⟩
    ·rw [if_neg c10] at H
     exact absurd H (by simp)
   ·rw [if_neg c7] at H
    have c7b0 : decide (0 < t143) = false := decide_eq_false c7
    clear c7
    obtain rfl := Option.some.inj H
    go_wp2_with (first | ((with_reducible refine gate_callee (f := 49) rfl ?_); refine goesL_ (some 20) rfl rfl Try.func49 (by kernel_rfl) rfl #[.pointer (some ⟨g142, 0, none⟩), .int .i64 x9_1, .int .i64 x10_1] rfl (by (try simp only [List.map_toArray, List.map_cons, List.map_nil]); first | done | rfl | (simp only [List.length_drop, List.length_take]; rfl)) ?_; (with_reducible refine (align_table_at.calls g142 x143000_1 t141 x9_1 x10_1 t143 t144 z0 _ ?side1 ?side2 A6.out).mono ?_); (case side1 => repeat (first | (with_reducible first | exact HI142.out | apply IsS92.alloc | apply IsS92.drewN | apply IsS92.drew | apply IsS92.set_0) | exact HI142.out)); (case side2 => repeat (first | (with_reducible first | exact HB.out | apply below_alloc | apply pw_below_drewN | apply below_drew1 | refine below_set ?_ (IsS92.ge HI142.out)) | exact HB.out)); rintro e w15 ⟨rfl, hi, hb, hk⟩; refine ⟨_, rfl, ?_⟩; have n0_ := Aside0.mk (Kd.R_mono (Kd.R_keep (IsS92.apart (show IsS92 z0 _ g142 x143000_1 t141 from by repeat (first | (with_reducible first | exact HI142.out | apply IsS92.alloc | apply IsS92.drewN | apply IsS92.drew | apply IsS92.set_0) | exact HI142.out)) (by (with_reducible repeat (first | apply Kd.R_alloc | apply Kd.R_drewN | apply Kd.R_drew)); exact HO_8.out) (by decide)) hk (fun _ h => h.2)) (fun _ h => h.1)); have n1_ := Aside0.mk (hb); have n2_ := Aside0.mk (hi); clear HO_8; clear HB; clear HI142; have HO_8 := n0_; have HB := n1_; have HI142 := n2_; clear n0_ n1_ n2_; (try clear hb); (try clear hb2); (try clear hk); (try clear hi)))
    go_ret
    exact ⟨z0, HWZ.out, _, by first | rfl | (simp [errW_none, errW_some] <;> rfl) | (simp [*, errW_none, errW_some] <;> rfl), by (with_reducible repeat (first | apply Kd.R_alloc | apply Kd.R_drewN | apply Kd.R_drew)); exact HO_8.out, by repeat (first | (with_reducible first | exact HB.out | apply below_alloc | apply pw_below_drewN | apply below_drew1 | refine below_set ?_ (IsS92.ge HI142.out)) | exact HB.out)⟩
theorem align_least.calls (k : Nat) (A0 : Option Addr) (c0 : Nat) (l0 : List (S24)) (A1 : Option Addr) (c1 : Nat) (l1 : List (S24)) (a2 : Int) (r : List (S41)) (w : World) (hr0 : Kd.C k24 w A0 l0.length l0) (hc0 : l0.length ≤ c0) (hr1 : Kd.C k24 w A1 l1.length l1) (hc1 : l1.length ≤ c1) (h : align_least.f k l0 l1 a2 = some r) :
  Calls Try.prog 38 #[.slice A0 l0.length c0, .slice A1 l1.length c1, .int .i64 a2] w fun e w' => ∃ v0_ : Value, e = .returned (v0_) ∧ Kd.R k41 41 w' w.heap.size (fun _ => True) v0_ r ∧ Below w.heap.size w w' := by
 refine (align_least.calls0 k _ _ _ _ _ _ _ r w hr0 hc0 hr1 hc1 h).mono ?_; rintro e w' ⟨z0, hz, v0_, rfl, ho, hb⟩; exact ⟨v0_, rfl, Kd.R_lower ho hz.size, below_step hz hb⟩


/-! ### align_Match: function 18 -/
mutual
def align_Match.j0 : Nat → List (S24) → List (S24) → Int → Int → Option ((List (S41)) × Bool)
 | 0, _, _, _, _ => none
 | k + 1, x0, x1, x2, x8 => align_Match.l0 k x0 x1 x2 x8 ([] : List (S41)) x8 0
def align_Match.l0 : Nat → List (S24) → List (S24) → Int → Int → List (S41) → Int → Int → Option ((List (S41)) × Bool)
 | 0, _, _, _, _, _, _, _ => none
 | k + 1, x0, x1, x2, x8, x9, x20, x21 => if x21 < x20 then (if x9.length < 8796093022208 then (align_Match.l0 k x0 x1 x2 x8 (x9 ++ [(⟨x21, x21⟩ : S41)]) x20 (wrap64 (x21 + 1))) else (none)) else (if (wrap64 ((x0.length : Int) - x8)) > 0 then (if (wrap64 ((x0.length : Int) - x8)) = 0 then (none) else (if (wrap64 ((x1.length : Int) - x8)) > (wrap64 ((mx 0 x2) / (wrap64 ((x0.length : Int) - x8)))) then (some (x9, true)) else (if 0 ≤ x8 then (if x8 ≤ (x0.length : Int) then (if x8 ≤ (x1.length : Int) then ((align_least.f k (x0.drop (x8 : Int).toNat) (x1.drop (x8 : Int).toNat) x8).bind fun t165 => (if x9.length + t165.length < 8796093022208 then (some ((x9 ++ t165), false)) else (none))) else (none)) else (none)) else (none)))) else (if 0 ≤ x8 then (if x8 ≤ (x0.length : Int) then (if x8 ≤ (x1.length : Int) then ((align_least.f k (x0.drop (x8 : Int).toNat) (x1.drop (x8 : Int).toNat) x8).bind fun t179 => (if x9.length + t179.length < 8796093022208 then (some ((x9 ++ t179), false)) else (none))) else (none)) else (none)) else (none)))
end
def align_Match.f (k : Nat) (l0 : List (S24)) (l1 : List (S24)) (a2 : Int) : Option ((List (S41)) × Bool) := (align_Parting.f k l0 l1).bind fun t153 => (if t153 < 0 then (align_Match.j0 k l0 l1 a2 (l0.length : Int)) else (align_Match.j0 k l0 l1 a2 t153))
theorem align_Match.mono_l : ∀ k, (∀ y0 y1 y2 y3, LeO (align_Match.j0 k y0 y1 y2 y3) (align_Match.j0 (k + 1) y0 y1 y2 y3)) ∧ (∀ y0 y1 y2 y3 y4 y5 y6, LeO (align_Match.l0 k y0 y1 y2 y3 y4 y5 y6) (align_Match.l0 (k + 1) y0 y1 y2 y3 y4 y5 y6))
 | 0 => ⟨fun _ _ _ _ r h => by simp [align_Match.j0] at h, fun _ _ _ _ _ _ _ r h => by simp [align_Match.l0] at h⟩
 | k + 1 => by
  obtain ⟨ih0, ih1⟩ := align_Match.mono_l k
  refine ⟨?_, ?_⟩
  ·intro y0 y1 y2 y3
   unfold align_Match.j0
   repeat' first
   | (with_reducible exact ih0 _ _ _ _)
   | (with_reducible exact ih1 _ _ _ _ _ _ _)
   | (with_reducible exact align_Parting.mono _ _ _)
   | (with_reducible exact align_least.mono _ _ _ _)
   | (with_reducible exact LeO.refl _)
   | (with_reducible exact LeO.none _)
   | (with_reducible refine LeO.ite ?_ ?_)
   | (with_reducible refine LeO.bind ?_ (fun _ => ?_))
   | exact ih0 _ _ _ _
   | exact ih1 _ _ _ _ _ _ _
   | exact align_Parting.mono _ _ _
   | exact align_least.mono _ _ _ _
   | exact LeO.none _
   | refine LeO.ite ?_ ?_
   | refine LeO.bind ?_ (fun _ => ?_)
  ·intro y0 y1 y2 y3 y4 y5 y6
   unfold align_Match.l0
   repeat' first
   | (with_reducible exact ih0 _ _ _ _)
   | (with_reducible exact ih1 _ _ _ _ _ _ _)
   | (with_reducible exact align_Parting.mono _ _ _)
   | (with_reducible exact align_least.mono _ _ _ _)
   | (with_reducible exact LeO.refl _)
   | (with_reducible exact LeO.none _)
   | (with_reducible refine LeO.ite ?_ ?_)
   | (with_reducible refine LeO.bind ?_ (fun _ => ?_))
   | exact ih0 _ _ _ _
   | exact ih1 _ _ _ _ _ _ _
   | exact align_Parting.mono _ _ _
   | exact align_least.mono _ _ _ _
   | exact LeO.none _
   | refine LeO.ite ?_ ?_
   | refine LeO.bind ?_ (fun _ => ?_)
theorem align_Match.mono : ∀ a0 a1 a2 k, LeO (align_Match.f k a0 a1 a2) (align_Match.f (k + 1) a0 a1 a2) := by
 intro a0 a1 a2 k
 obtain ⟨ih0, ih1⟩ := align_Match.mono_l k
 unfold align_Match.f
 repeat' first
   | (with_reducible exact ih0 _ _ _ _)
   | (with_reducible exact ih1 _ _ _ _ _ _ _)
   | (with_reducible exact align_Parting.mono _ _ _)
   | (with_reducible exact align_least.mono _ _ _ _)
   | (with_reducible exact LeO.refl _)
   | (with_reducible exact LeO.none _)
   | (with_reducible refine LeO.ite ?_ ?_)
   | (with_reducible refine LeO.bind ?_ (fun _ => ?_))
   | exact ih0 _ _ _ _
   | exact ih1 _ _ _ _ _ _ _
   | exact align_Parting.mono _ _ _
   | exact align_least.mono _ _ _ _
   | exact LeO.none _
   | refine LeO.ite ?_ ?_
   | refine LeO.bind ?_ (fun _ => ?_)
def align_Match.T13 : Bool × List (List Nat × List Nat) := (true, [([], []), ([], []), ([], []), ([1, 2], [1, 2]), ([], []), ([], []), ([4, 5], [4, 5]), ([], []), ([3, 6, 7], [3, 6, 7]), ([0, 8, 8], [0, 8]), ([9, 9, 0, 1, 2, 3, 4, 5, 6, 7, 8, 9], [9]), ([10, 0, 1, 2, 3, 4, 5, 6, 7, 8, 9, 10], [])])
def align_Match.B13 : List Nat := [0, 0, 0, 6, 0, 0, 48, 0, 254, 511, 1023, 2047]
theorem align_Match.tab13 : rtab .any (opsOf Try.f18 13) = align_Match.T13 := by kernel_rfl
theorem align_Match.bits13 : waitsOk align_Match.T13.2 align_Match.B13 = true := by kernel_rfl
set_option maxHeartbeats 8000000 in
set_option maxRecDepth 100000 in
theorem align_Match.calls (k : Nat) (A0 : Option Addr) (c0 : Nat) (l0 : List (S24)) (A1 : Option Addr) (c1 : Nat) (l1 : List (S24)) (a2 : Int) (r1 : List (S41)) (r2 : Bool) (w : World) (hr0 : Kd.C k24 w A0 l0.length l0) (hc0 : l0.length ≤ c0) (hr1 : Kd.C k24 w A1 l1.length l1) (hc1 : l1.length ≤ c1) (h : align_Match.f k l0 l1 a2 = some (r1, r2)) :
  Calls Try.prog 18 #[.slice A0 l0.length c0, .slice A1 l1.length c1, .int .i64 a2] w fun e w' => ∃ v0_ : Value, e = .returned (.tuple #[v0_, .bool r2]) ∧ Kd.R k41 41 w' w.heap.size (fun _ => True) v0_ r1 ∧ Below w.heap.size w w' := by
 have hu41 := Try.underlying41; have HR0 := Aside0.mk hr0; have HC0 := Aside0.mk hc0; clear hr0 hc0; have HR1 := Aside0.mk hr1; have HC1 := Aside0.mk hc1; clear hr1 hc1; have HB := Aside0.mk (Below.refl w.heap.size w); have H : ((align_Parting.f k l0 l1).bind fun t153 => (if t153 < 0 then (align_Match.j0 k l0 l1 a2 (l0.length : Int)) else (align_Match.j0 k l0 l1 a2 t153))) = some (r1, r2) := h; clear h; replace H := Option.bind_eq_some_iff.mp H; obtain ⟨t153, A40, H⟩ := H; replace H : (if t153 < 0 then (align_Match.j0 k l0 l1 a2 (l0.length : Int)) else (align_Match.j0 k l0 l1 a2 t153)) = some (r1, r2) := H; have A4 := Aside0.mk A40; clear A40; have HC5 := Aside0.mk H; clear H; go_enter Try.func18, Try.ntmps18
 go_upto_if 17 with (first | ((with_reducible refine gate_callee (f := 13) rfl ?_); refine goesL_ (some 15) rfl rfl Try.func13 (by kernel_rfl) rfl #[.slice A0 l0.length c0, .slice A1 l1.length c1] rfl (by (try simp only [List.map_toArray, List.map_cons, List.map_nil]); first | done | rfl | (simp only [List.length_drop, List.length_take]; rfl)) ?_; (with_reducible refine (align_Parting.calls k _ _ l0 _ _ l1 t153 _ ?side1 ?side2 ?side3 ?side4 A4.out).mono ?_); (case side1 => repeat (first | exact HR0.out | (with_reducible refine Kd.C_alloc ?_ _) | (with_reducible refine Kd.C_drewN ?_ _) | (with_reducible refine Kd.C_drew ?_))); (case side2 => exact HC0.out); (case side3 => repeat (first | exact HR1.out | (with_reducible refine Kd.C_alloc ?_ _) | (with_reducible refine Kd.C_drewN ?_ _) | (with_reducible refine Kd.C_drew ?_))); (case side4 => exact HC1.out); rintro e w6 ⟨rfl, hb⟩; refine ⟨_, rfl, ?_⟩; have n0_ := Aside0.mk (below_step (by repeat (first | (with_reducible first | exact HB.out | apply below_alloc | apply pw_below_drewN | apply below_drew1) | exact HB.out)) hb); clear HB; have HB := n0_; clear n0_; (try clear hb); (try clear hb2); (try clear hk); (try clear hi)))
 (try simp only [Act.put, List.setIfInBounds_toArray, List.set_cons_zero, List.set_cons_succ])
 go_cut [8] (fun v8 wc => ∃ (kq : Nat) (x8_4 : Int), v8 = .int .i64 x8_4 ∧ Aside0 (align_Match.j0 kq l0 l1 a2 x8_4 = some (r1, r2)) ∧ Aside0 (kq ≤ k) ∧ Aside0 (Below w.heap.size w wc))
 case first =>
  have H := HC5.out; clear HC5
  by_cases c7 : t153 < 0
  ·rw [if_pos c7] at H; have c7b0 : decide (t153 < 0) = true := decide_eq_true c7; clear c7; (first | rw [c7b0] | (simp only [i64_w, i32_w]; rw [c7b0]) | skip); have H' := Aside0.mk H; clear H; go_wp2; go_meet
   case rel => exact ⟨_, ((l0.length : Int)), (by first | rfl | (simp; done) | (simp [*]; done)), H', ⟨by first | omega | exact Nat.le_refl _⟩, ⟨by repeat (first | (with_reducible first | exact HB.out | apply below_alloc | apply pw_below_drewN | apply below_drew1) | exact HB.out)⟩⟩
  ·rw [if_neg c7] at H; have c7b0 : decide (t153 < 0) = false := decide_eq_false c7; clear c7; (first | rw [c7b0] | (simp only [i64_w, i32_w]; rw [c7b0]) | skip); have H' := Aside0.mk H; clear H; go_wp2; go_meet
   case rel => exact ⟨_, (t153), (by first | rfl | (simp; done) | (simp [*]; done)), H', ⟨by first | omega | exact Nat.le_refl _⟩, ⟨by repeat (first | (with_reducible first | exact HB.out | apply below_alloc | apply pw_below_drewN | apply below_drew1) | exact HB.out)⟩⟩
 case rest =>
  clear HC5; (try clear c1); (try clear p2); (try clear c7); (try clear c7b0); obtain ⟨kq, x8_4, rfl, HA, HJ4, HB⟩ := hcut
  cases kq with
  | zero => exact absurd HA.out (by simp [align_Match.j0])
  | succ kj4 =>
   have H := HA.out; clear HA; simp only [align_Match.j0] at H; have H' := Aside0.mk H; clear H; go_wp2
   go_loopg [9, 21] kj4 (fun kq v9 v21 w' => ∃ (x9_2 : List (S41)) (x21_2 : Int), v21 = .int .i64 x21_2 ∧ Aside0 (align_Match.l0 kq l0 l1 a2 x8_4 x9_2 x8_4 x21_2 = some (r1, r2)) ∧ Aside0 (kq ≤ kj4) ∧ Aside0 (Kd.R k41 41 w' w.heap.size (fun _ => True) v9 x9_2) ∧ Aside0 (Below w.heap.size w w'))
   case atStart => exact ⟨(([] : List (S41))), (0), (by first | rfl | (simp; done) | (simp [*]; done)), H', ⟨Nat.le_refl _⟩, ⟨by first | exact Kd.R_nil _ _ _ _ _ | exact Kd.N_nil _ _ _ _ _ | exact Kd.V_nil _ _ _ _ _ | exact Kd.Q_nil _ _ _ _ _ | exact Kd.S_nil _ _ _ _ _⟩, ⟨by repeat (first | (with_reducible first | exact HB.out | apply below_alloc | apply pw_below_drewN | apply below_drew1) | exact HB.out)⟩⟩
   case round =>
    clear H'; (try clear c1); (try clear p2); (try clear c7); (try clear c7b0); (try clear p2); obtain ⟨x9_2, x21_2, rfl, HA, HK2, HO_9, HB⟩ := hrel
    cases gk with
    | zero => exact absurd HA.out (by simp [align_Match.l0])
    | succ k2 =>
     have H := HA.out; clear HA; simp only [align_Match.l0] at H
     by_cases c8 : x21_2 < x8_4
     ·rw [if_pos c8] at H; have c8b0 : decide (x21_2 < x8_4) = true := decide_eq_true c8; clear c8
      by_cases c9 : x9_2.length < 8796093022208
      ·rw [if_pos c9] at H; have LMc9 := Aside0.mk c9; clear c9; obtain ⟨y154, hy154⟩ : ∃ y_ : List (S41), y_ = (x9_2 ++ [(⟨x21_2, x21_2⟩ : S41)]) := ⟨_, rfl⟩; replace H : (align_Match.l0 k2 l0 l1 a2 x8_4 y154 x8_4 (wrap64 (x21_2 + 1))) = some (r1, r2) := by first | (rw [hy154]; with_reducible exact H) | (have H2_ := (Option.bind_some _ _).symm.trans H; rw [hy154]; with_reducible exact H2_) | (have H2_ := (Option.bind_some _ _).symm.trans H; with_reducible exact H2_) | with_reducible exact H | (rw [hy154]; exact H) | exact H
       have Ny154 := Aside0.mk hy154; clear hy154; have H' := Aside0.mk H; clear H
       go_wp2_with (first | ((with_reducible refine gate_builtin (b := .append) (xs := #[.tmp 24, .tmp 28]) rfl ?_); (try (refine gate_guard (by rfl) ?_; dsimp only)); at_builtin; refine Kd.R_append k41 (w0 := w) w.heap.size rfl (.tmp 24) (.tmp 28) 30 41 (.agg #[(.int .i64 0), (.int .i64 0)]) 16 rfl Try.underlying30 info41 rfl (by decide) (by omega) u9 x9_2 (⟨x21_2, x21_2⟩ : S41) [.int .i64 x21_2, .int .i64 x21_2] (fun _ => True) (fun _ => False) rfl rfl ?aP (fun _ hk => hk.elim) ?aF ?aO ?aB ?aS ?aL ?_; (case aP => exact k41_mkM _ _ _ (⟨x21_2, x21_2⟩ : S41)); (case aB => exact (by repeat (first | (with_reducible first | exact HB.out | apply below_alloc | apply pw_below_drewN | apply below_drew1) | exact HB.out))); (case aF => exact (fun _ _ => trivial)); (case aO => exact (by (with_reducible repeat (first | apply Kd.R_alloc | apply Kd.R_drewN | apply Kd.R_drew)); exact HO_9.out)); (case aS => exact (below_size (by repeat (first | (with_reducible first | exact HB.out | apply below_alloc | apply pw_below_drewN | apply below_drew1) | exact HB.out)))); (case aL => have := LMc9.out; omega); intro v155 w10 ho hb hg hat; rw [← Ny154.out] at ho; have n0_ := Aside0.mk (hb); have n1_ := Aside0.mk (ho); clear HB; clear HO_9; have HB := n0_; have HO156 := n1_; clear n0_ n1_; clear ho hb hg hat))
       go_roundg k2
       case measure => have := HJ4.out; have := HK2.out; omega
       case rel => exact ⟨(y154), (wrap64 (x21_2 + 1)), (by first | rfl | (simp; done) | (simp [*]; done)), H', ⟨by have := HJ4.out; have := HK2.out; omega⟩, ⟨by (with_reducible repeat (first | apply Kd.R_alloc | apply Kd.R_drewN | apply Kd.R_drew)); exact HO156.out⟩, ⟨by repeat (first | (with_reducible first | exact HB.out | apply below_alloc | apply pw_below_drewN | apply below_drew1) | exact HB.out)⟩⟩
      ·rw [if_neg c9] at H; exact absurd H (by simp)
     ·rw [if_neg c8] at H; have c8b0 : decide (x21_2 < x8_4) = false := decide_eq_false c8; clear c8
      by_cases c11 : (wrap64 ((l0.length : Int) - x8_4)) > 0
      ·rw [if_pos c11] at H; have c11b0 : decide (0 < (wrap64 ((l0.length : Int) - x8_4))) = true := decide_eq_true c11; clear c11; obtain ⟨ji12, hji12⟩ : ∃ j_ : Int, (mx 0 a2) = j_ := ⟨_, rfl⟩; replace H : (if (wrap64 ((l0.length : Int) - x8_4)) = 0 then (none) else (if (wrap64 ((l1.length : Int) - x8_4)) > (wrap64 ((ji12) / (wrap64 ((l0.length : Int) - x8_4)))) then (some (x9_2, true)) else (if 0 ≤ x8_4 then (if x8_4 ≤ (l0.length : Int) then (if x8_4 ≤ (l1.length : Int) then ((align_least.f k2 (l0.drop (x8_4 : Int).toNat) (l1.drop (x8_4 : Int).toNat) x8_4).bind fun t165 => (if x9_2.length + t165.length < 8796093022208 then (some ((x9_2 ++ t165), false)) else (none))) else (none)) else (none)) else (none)))) = some (r1, r2) := by first | (rw [hji12] at H; exact H) | (simp only [hji12] at H ⊢; exact H)
       have hji12_ : (if 0 < a2 then a2 else 0) = ji12 := hji12; (try (have hji12l : 0 ≤ ji12 := by (rw [← hji12_]; split <;> omega)))
       by_cases c13 : (wrap64 ((l0.length : Int) - x8_4)) = 0
       ·rw [if_pos c13] at H; exact absurd H (by simp)
       ·rw [if_neg c13] at H; have c13b0 : ((wrap64 ((l0.length : Int) - x8_4)) == 0) = false := beq_eq_false_iff_ne.mpr c13; have c13b1 : ((wrap64 ((l0.length : Int) - x8_4)) != 0) = true := bne_iff_ne.mpr c13
        by_cases c14 : (wrap64 ((l1.length : Int) - x8_4)) > (wrap64 ((ji12) / (wrap64 ((l0.length : Int) - x8_4))))
        ·rw [if_pos c14] at H; (try (have hdvji12 : Int.tdiv ji12 (wrap64 ((l0.length : Int) - x8_4)) = ji12 / (wrap64 ((l0.length : Int) - x8_4)) := Int.tdiv_eq_ediv_of_nonneg (by omega))); have c14b0 : decide ((wrap64 ((ji12) / (wrap64 ((l0.length : Int) - x8_4)))) < (wrap64 ((l1.length : Int) - x8_4))) = true := decide_eq_true c14; clear c14; simp only [Option.some.injEq, Prod.mk.injEq] at H; obtain ⟨rfl, rfl⟩ := H; go_wp2; go_ret2; exact ⟨_, by first | rfl | (simp [errW_none, errW_some] <;> rfl) | (simp only [← hji12]; first | rfl | (simp [errW_none, errW_some] <;> rfl)) | (simp [*, errW_none, errW_some] <;> rfl), by (with_reducible repeat (first | apply Kd.R_alloc | apply Kd.R_drewN | apply Kd.R_drew)); exact HO_9.out, by repeat (first | (with_reducible first | exact HB.out | apply below_alloc | apply pw_below_drewN | apply below_drew1) | exact HB.out)⟩
        ·rw [if_neg c14] at H; (try (have hdvji12 : Int.tdiv ji12 (wrap64 ((l0.length : Int) - x8_4)) = ji12 / (wrap64 ((l0.length : Int) - x8_4)) := Int.tdiv_eq_ediv_of_nonneg (by omega))); have c14b0 : decide ((wrap64 ((ji12) / (wrap64 ((l0.length : Int) - x8_4)))) < (wrap64 ((l1.length : Int) - x8_4))) = false := decide_eq_false c14; clear c14
         by_cases c15 : 0 ≤ x8_4
         ·rw [if_pos c15] at H; have c15b0 := eq_true c15; have c15b1 : decide (0 ≤ x8_4) = true := decide_eq_true c15; clear c15
          by_cases c16 : x8_4 ≤ (l0.length : Int)
          ·rw [if_pos c16] at H; have c16b0 := eq_true c16; have c16b1 : decide (x8_4 ≤ (l0.length : Int)) = true := decide_eq_true c16; clear c16; obtain ⟨y157, hy157⟩ : ∃ y_ : List (S24), y_ = (l0.drop (x8_4 : Int).toNat) := ⟨_, rfl⟩; replace H : (if x8_4 ≤ (l1.length : Int) then ((align_least.f k2 y157 (l1.drop (x8_4 : Int).toNat) x8_4).bind fun t165 => (if x9_2.length + t165.length < 8796093022208 then (some ((x9_2 ++ t165), false)) else (none))) else (none)) = some (r1, r2) := by first | (rw [hy157]; with_reducible exact H) | (have H2_ := (Option.bind_some _ _).symm.trans H; rw [hy157]; with_reducible exact H2_) | (have H2_ := (Option.bind_some _ _).symm.trans H; with_reducible exact H2_) | with_reducible exact H | (rw [hy157]; exact H) | exact H
           have Ny157 := Aside0.mk hy157; clear hy157
           have c17b0 := eq_true (of_decide_eq_true (by first | (with_reducible assumption) | assumption) : 0 ≤ x8_4)
           by_cases c18 : x8_4 ≤ (l1.length : Int)
           ·rw [if_pos c18] at H; have c18b0 := eq_true c18; have c18b1 : decide (x8_4 ≤ (l1.length : Int)) = true := decide_eq_true c18; clear c18; obtain ⟨y161, hy161⟩ : ∃ y_ : List (S24), y_ = (l1.drop (x8_4 : Int).toNat) := ⟨_, rfl⟩; replace H : ((align_least.f k2 y157 y161 x8_4).bind fun t165 => (if x9_2.length + t165.length < 8796093022208 then (some ((x9_2 ++ t165), false)) else (none))) = some (r1, r2) := by first | (rw [hy161]; with_reducible exact H) | (have H2_ := (Option.bind_some _ _).symm.trans H; rw [hy161]; with_reducible exact H2_) | (have H2_ := (Option.bind_some _ _).symm.trans H; with_reducible exact H2_) | with_reducible exact H | (rw [hy161]; exact H) | exact H
            have Ny161 := Aside0.mk hy161; clear hy161; replace H := Option.bind_eq_some_iff.mp H; obtain ⟨t165, A190, H⟩ := H; replace H : (if x9_2.length + t165.length < 8796093022208 then (some ((x9_2 ++ t165), false)) else (none)) = some (r1, r2) := H; have A19 := Aside0.mk A190; clear A190
            by_cases c20 : x9_2.length + t165.length < 8796093022208
            ·rw [if_pos c20] at H; have LMc20 := Aside0.mk c20; clear c20; obtain ⟨y168, hy168⟩ : ∃ y_ : List (S41), y_ = (x9_2 ++ t165) := ⟨_, rfl⟩; replace H : (some (y168, false)) = some (r1, r2) := by first | (rw [hy168]; with_reducible exact H) | (have H2_ := (Option.bind_some _ _).symm.trans H; rw [hy168]; with_reducible exact H2_) | (have H2_ := (Option.bind_some _ _).symm.trans H; with_reducible exact H2_) | with_reducible exact H | (rw [hy168]; exact H) | exact H
             have Ny168 := Aside0.mk hy168; clear hy168; simp only [Option.some.injEq, Prod.mk.injEq] at H; obtain ⟨rfl, rfl⟩ := H; (try go_wp2); have n0_ := Aside0.mk (Kd.R_drew HO_9.out); have n1_ := Aside0.mk (below_drew1 HB.out); clear HO_9; clear HB; have HO_9 := n0_; have HB := n1_; clear n0_ n1_
             have q22 : (x8_4 : Int) ≤ ((l0.length : Int) : Int) := of_decide_eq_true (by first | (with_reducible assumption) | assumption)
             obtain ⟨i022, hi022, _, hsz22, _⟩ := info_parts info24; have hroom22 : l0.length ≤ c0 := HC0.out; have hC22 : Kd.C k24 _ A0 l0.length l0 := HR0.out
             have q022 : (0 : Int) ≤ (x8_4 : Int) := of_decide_eq_true (by first | (with_reducible assumption) | assumption)
             have hcut22 := cut_from (P := Try.prog) 22 24 .i64 Try.underlying22 hi022 2 hsz22 A0 l0.length c0 x8_4 q022 q22; have hr22 := Kd.C_drop (m := (x8_4 : Int).toNat) (c := c0) hC22 (by omega) hroom22; obtain ⟨A22, hA22⟩ : ∃ A1_, A1_ = (if c0 = (x8_4 : Int).toNat then A0 else (A0 : Option Addr).map (·.add ((x8_4 : Int).toNat * 2))) := ⟨_, rfl⟩; obtain ⟨c22, hc22⟩ : ∃ c1_, c1_ = c0 - (x8_4 : Int).toNat := ⟨_, rfl⟩; have hy22 : y157.length = l0.length - (x8_4 : Int).toNat := (by rw [Ny157.out, List.length_drop] <;> omega); rw [show (l0).drop (x8_4 : Int).toNat = y157 from Ny157.out.symm] at hr22; replace hr22 : Kd.C k24 _ A22 y157.length y157 := (by rw [hA22]; exact hr22); rw [← hy22, ← hA22, ← hc22] at hcut22; have HR160 := Aside0.mk hr22; have HC160 := Aside0.mk (show y157.length ≤ c22 from by rw [hy22, hc22]; exact Nat.sub_le_sub_right hroom22 _); clear hr22 hC22 hroom22 hi022 hsz22 hc22; have KY22 := Aside0.mk hy22; have KA22 := Aside0.mk hA22; clear hy22 hA22; replace q22 := eq_true q22
             have q23 : (x8_4 : Int) ≤ ((l1.length : Int) : Int) := of_decide_eq_true (by first | (with_reducible assumption) | assumption)
             obtain ⟨i023, hi023, _, hsz23, _⟩ := info_parts info24; have hroom23 : l1.length ≤ c1 := HC1.out; have hC23 : Kd.C k24 _ A1 l1.length l1 := HR1.out
             have q023 : (0 : Int) ≤ (x8_4 : Int) := of_decide_eq_true (by first | (with_reducible assumption) | assumption)
             have hcut23 := cut_from (P := Try.prog) 22 24 .i64 Try.underlying22 hi023 2 hsz23 A1 l1.length c1 x8_4 q023 q23; have hr23 := Kd.C_drop (m := (x8_4 : Int).toNat) (c := c1) hC23 (by omega) hroom23; obtain ⟨A23, hA23⟩ : ∃ A1_, A1_ = (if c1 = (x8_4 : Int).toNat then A1 else (A1 : Option Addr).map (·.add ((x8_4 : Int).toNat * 2))) := ⟨_, rfl⟩; obtain ⟨c23, hc23⟩ : ∃ c1_, c1_ = c1 - (x8_4 : Int).toNat := ⟨_, rfl⟩; have hy23 : y161.length = l1.length - (x8_4 : Int).toNat := (by rw [Ny161.out, List.length_drop] <;> omega); rw [show (l1).drop (x8_4 : Int).toNat = y161 from Ny161.out.symm] at hr23; replace hr23 : Kd.C k24 _ A23 y161.length y161 := (by rw [hA23]; exact hr23); rw [← hy23, ← hA23, ← hc23] at hcut23; have HR164 := Aside0.mk hr23; have HC164 := Aside0.mk (show y161.length ≤ c23 from by rw [hy23, hc23]; exact Nat.sub_le_sub_right hroom23 _); clear hr23 hC23 hroom23 hi023 hsz23 hc23; have KY23 := Aside0.mk hy23; have KA23 := Aside0.mk hA23; clear hy23 hA23; replace q23 := eq_true q23; refine start_ (n := 12) (S := fun w' => True) (ds := []) #[false, false, false, false, false, false, false, false, false, false, false, false] (by kernel_rfl) rfl rfl trivial (fun hHeld => ?_); refine with_tabW align_Match.tab13 align_Match.bits13 (fun HT_ HW_ => ?_); generalize wr.drew = w21 at HO_9 HB HR160 HR164 hHeld ⊢; refine pure_ (i := 0) (N := some 50) (v := ?_) (a' := ?_) #[true, false, false, false, false, false, false, false, false, false, false, false] rfl rfl (any_of HT_.out (by kernel_rfl)) (fun _ _ _ h => h) (Or.inl ⟨by rfl, ?_⟩) ?_ ?_; rotate_left
             ·intro w'; go_simp; with_reducible rfl
             rotate_left
             ·simp only [Act.put, List.setIfInBounds_toArray, List.set_cons_zero, List.set_cons_succ, i64_w, i32_w]; rfl
             refine pure_ (i := 1) (N := some 51) (v := ?_) (a' := ?_) #[true, true, false, false, false, false, false, false, false, false, false, false] rfl rfl (any_of HT_.out (by kernel_rfl)) (fun _ _ _ h => h) (Or.inl ⟨by rfl, ?_⟩) ?_ ?_; rotate_left
             ·intro w'; go_simp; with_reducible rfl
             rotate_left
             ·simp only [Act.put, List.setIfInBounds_toArray, List.set_cons_zero, List.set_cons_succ, i64_w, i32_w]; rfl
             refine pure_ (i := 2) (N := some 52) (v := ?_) (a' := ?_) #[true, true, true, false, false, false, false, false, false, false, false, false] rfl rfl (any_of HT_.out (by kernel_rfl)) (fun _ _ _ h => h) (Or.inl ⟨by rfl, ?_⟩) ?_ ?_; rotate_left
             ·intro w'; go_simp; with_reducible rfl
             rotate_left
             ·simp only [Act.put, List.setIfInBounds_toArray, List.set_cons_zero, List.set_cons_succ, i64_w, i32_w]; rfl
             refine pure_ (i := 3) (N := some 53) (v := ?_) (a' := ?_) #[true, true, true, true, false, false, false, false, false, false, false, false] rfl rfl (any_of HT_.out (by kernel_rfl)) (fun _ _ _ h => h) (Or.inl ⟨by rfl, ?_⟩) ?_ ?_; rotate_left
             ·intro w'; go_simp; with_reducible rfl
             rotate_left
             ·simp only [Act.put, List.setIfInBounds_toArray, List.set_cons_zero, List.set_cons_succ, i64_w, i32_w]; rfl
             refine pure_ (i := 4) (N := some 54) (v := ?_) (a' := ?_) #[true, true, true, true, true, false, false, false, false, false, false, false] rfl rfl (any_of HT_.out (by kernel_rfl)) (fun _ _ _ h => h) (Or.inl ⟨by rfl, ?_⟩) ?_ ?_; rotate_left
             ·intro w'; go_simp; with_reducible rfl
             rotate_left
             ·simp only [Act.put, List.setIfInBounds_toArray, List.set_cons_zero, List.set_cons_succ, i64_w, i32_w]; rfl
             refine pure_ (i := 5) (N := some 55) (v := ?_) (a' := ?_) #[true, true, true, true, true, true, false, false, false, false, false, false] rfl rfl (any_of HT_.out (by kernel_rfl)) (fun _ _ _ h => h) (Or.inl ⟨by rfl, ?_⟩) ?_ ?_; rotate_left
             ·intro w'; go_simp; with_reducible rfl
             rotate_left
             ·simp only [Act.put, List.setIfInBounds_toArray, List.set_cons_zero, List.set_cons_succ, i64_w, i32_w]; rfl
             refine pure_ (i := 6) (N := some 56) (v := ?_) (a' := ?_) #[true, true, true, true, true, true, true, false, false, false, false, false] rfl rfl (any_of HT_.out (by kernel_rfl)) (fun _ _ _ h => h) (Or.inl ⟨by rfl, ?_⟩) ?_ ?_; rotate_left
             ·intro w'; go_simp; with_reducible rfl
             rotate_left
             ·simp only [Act.put, List.setIfInBounds_toArray, List.set_cons_zero, List.set_cons_succ, i64_w, i32_w]; rfl
             refine pure_ (i := 7) (N := some 57) (v := ?_) (a' := ?_) #[true, true, true, true, true, true, true, true, false, false, false, false] rfl rfl (any_of HT_.out (by kernel_rfl)) (fun _ _ _ h => h) (Or.inl ⟨by rfl, ?_⟩) ?_ ?_; rotate_left
             ·intro w'; go_simp; with_reducible rfl
             rotate_left
             ·simp only [Act.put, List.setIfInBounds_toArray, List.set_cons_zero, List.set_cons_succ, i64_w, i32_w]; rfl
             refine one_ (i := 8) (N := some 58) #[true, true, true, true, true, true, true, true, true, false, false, false] rfl rfl (one_of HT_.out (by kernel_rfl)) (by decide) (fun K hK => ?_)
             refine goes_ Try.func38 (by kernel_rfl) rfl #[.slice A22 y157.length c22, .slice A23 y161.length c23, .int .i64 x8_4] (by rfl) rfl rfl (by (try simp only [List.map_toArray, List.map_cons, List.map_nil]); first | done | rfl | (simp only [List.length_drop, List.length_take]; rfl)) ?_
             with_reducible refine (align_least.calls k2 _ _ y157 _ _ y161 x8_4 t165 _ ?side1 ?side2 ?side3 ?side4 A19.out).mono ?_
             (case side1 => repeat (first | exact (Kd.C_below HR160.out HB.out) | (with_reducible refine Kd.C_alloc ?_ _) | (with_reducible refine Kd.C_drewN ?_ _) | (with_reducible refine Kd.C_drew ?_)))
             (case side2 => exact HC160.out)
             (case side3 => repeat (first | exact (Kd.C_below HR164.out HB.out) | (with_reducible refine Kd.C_alloc ?_ _) | (with_reducible refine Kd.C_drewN ?_ _) | (with_reducible refine Kd.C_drew ?_)))
             (case side4 => exact HC164.out)
             rintro e w24 ⟨v166, rfl, ho0, hb⟩; refine ⟨_, rfl, ?_⟩
             have n0_ := Aside0.mk (Kd.R_elder' (by (with_reducible repeat (first | apply Kd.R_alloc | apply Kd.R_drewN | apply Kd.R_drew)); exact HO_9.out) (Kd.R_base ho0) hb)
             have n1_ := Aside0.mk (Kd.R_lower (Kd.R_new' ho0 (Kd.R_lt (by (with_reducible repeat (first | apply Kd.R_alloc | apply Kd.R_drewN | apply Kd.R_drew)); exact HO_9.out))) (below_size (by repeat (first | (with_reducible first | exact HB.out | apply below_alloc | apply pw_below_drewN | apply below_drew1) | exact HB.out))))
             have n2_ := Aside0.mk (below_step (by repeat (first | (with_reducible first | exact HB.out | apply below_alloc | apply pw_below_drewN | apply below_drew1) | exact HB.out)) hb)
             clear HO_9; clear HB; have HO_9 := n0_; have HO167 := n1_; have HB := n2_; clear n0_ n1_ n2_; (try clear hb); (try clear hb2); (try clear hk); (try clear hi); (try clear ho0); obtain ⟨Ao26, co26, eo26⟩ := Kd.R_slice HO167.out; (first | subst eo26 | (injection eo26 with f1_ f2_ f3_; have f4_ := f1_.symm; have f5_ := f3_.symm; clear f1_ f2_ f3_; subst f4_; subst f5_)); refine hK.out _ _ trivial (fun hHeld => ?_); clear hK K; refine norm_ (a' := ?_) ?_ ?_; rotate_left
             ·show Act.put _ (some 58) _ = _
              simp only [Act.put, List.setIfInBounds_toArray, List.set_cons_zero, List.set_cons_succ, i64_w, i32_w]; rfl
             refine one_ (i := 9) (N := some 59) #[true, true, true, true, true, true, true, true, true, true, false, false] rfl rfl (one_of HT_.out (by kernel_rfl)) (by decide) (fun K hK => ?_); refine Kd.R_append_rows_step k41 (w0 := w) w.heap.size (by rfl) (.tmp 50) (.tmp 58) 30 41 (.agg #[(.int .i64 0), (.int .i64 0)]) 16 rfl Try.underlying30 info41 rfl (by decide) (by omega) u9 x9_2 t165 _ _ _ (fun k_ => some k_ ≠ (.slice Ao26 t165.length co26 : Value).ownBlock) (fun _ => False) rfl rfl ?aO ?aR (fun _ _ h => h) (fun _ h => h.elim) ?aF ?aB ?aS ?aL ?_
             (case aR => repeat (first | exact (Kd.R_reads' HO167.out).2.2 | (with_reducible refine Kd.C_alloc ?_ _) | (with_reducible refine Kd.C_drewN ?_ _) | (with_reducible refine Kd.C_drew ?_)))
             (case aB => exact (by repeat (first | (with_reducible first | exact HB.out | apply below_alloc | apply pw_below_drewN | apply below_drew1) | exact HB.out)))
             (case aF => exact (fun k_ hk => Kd.fresh' (Kd.R_lt (by (with_reducible repeat (first | apply Kd.R_alloc | apply Kd.R_drewN | apply Kd.R_drew)); exact HO167.out)) k_ hk))
             (case aO => exact (by (with_reducible repeat (first | apply Kd.R_alloc | apply Kd.R_drewN | apply Kd.R_drew)); exact Kd.R_mono HO_9.out (fun _ hk => hk.2)))
             (case aS => exact (below_size (by repeat (first | (with_reducible first | exact HB.out | apply below_alloc | apply pw_below_drewN | apply below_drew1) | exact HB.out))))
             (case aL => have := LMc20.out; omega)
             intro v169 w25 ho hb hg hat; rw [← Ny168.out] at ho
             have n0_ := Aside0.mk (Kd.R_after (ok := (fun _ => True)) (by (with_reducible repeat (first | apply Kd.R_alloc | apply Kd.R_drewN | apply Kd.R_drew)); exact HO167.out) hg hat)
             have n1_ := Aside0.mk (hb); have n2_ := Aside0.mk (ho); clear HO167; clear HB; clear HO_9; have HO167 := n0_; have HB := n1_; have HO170 := n2_; clear n0_ n1_ n2_; clear ho hb hg hat; refine hK.out _ _ trivial (fun hHeld => ?_); clear hK K; refine norm_ (a' := ?_) ?_ ?_; rotate_left
             ·show Act.put _ (some 59) _ = _
              simp only [Act.put, List.setIfInBounds_toArray, List.set_cons_zero, List.set_cons_succ, i64_w, i32_w]; rfl
             refine pure_ (i := 10) (N := some 6) (v := ?_) (a' := ?_) #[true, true, true, true, true, true, true, true, true, true, true, false] rfl rfl (any_of HT_.out (by kernel_rfl)) (fun _ _ _ h => h) (Or.inl ⟨by rfl, ?_⟩) ?_ ?_; rotate_left
             ·intro w'; go_simp; with_reducible rfl
             rotate_left
             ·simp only [Act.put, List.setIfInBounds_toArray, List.set_cons_zero, List.set_cons_succ, i64_w, i32_w]; rfl
             refine pure_ (i := 11) (N := some 7) (v := ?_) (a' := ?_) #[true, true, true, true, true, true, true, true, true, true, true, true] rfl rfl (any_of HT_.out (by kernel_rfl)) (fun _ _ _ h => h) (Or.inl ⟨by rfl, ?_⟩) ?_ ?_; rotate_left
             ·intro w'; go_simp; with_reducible rfl
             rotate_left
             ·simp only [Act.put, List.setIfInBounds_toArray, List.set_cons_zero, List.set_cons_succ, i64_w, i32_w]; rfl
             refine done_ (done_of HT_.out (by kernel_rfl)) ?_; (try go_wp2); go_ret2; exact ⟨_, by first | rfl | (simp [errW_none, errW_some] <;> rfl) | (simp only [← hji12]; first | rfl | (simp [errW_none, errW_some] <;> rfl)) | (simp [*, errW_none, errW_some] <;> rfl), by (with_reducible repeat (first | apply Kd.R_alloc | apply Kd.R_drewN | apply Kd.R_drew)); exact Kd.R_mono HO170.out (fun _ hk => trivial), by repeat (first | (with_reducible first | exact HB.out | apply below_alloc | apply pw_below_drewN | apply below_drew1) | exact HB.out)⟩
            ·rw [if_neg c20] at H; exact absurd H (by simp)
           ·rw [if_neg c18] at H; exact absurd H (by simp)
          ·rw [if_neg c16] at H; exact absurd H (by simp)
         ·rw [if_neg c15] at H; exact absurd H (by simp)
      ·rw [if_neg c11] at H; have c11b0 : decide (0 < (wrap64 ((l0.length : Int) - x8_4))) = false := decide_eq_false c11; clear c11
       by_cases c27 : 0 ≤ x8_4
       ·rw [if_pos c27] at H; have c27b0 := eq_true c27; have c27b1 : decide (0 ≤ x8_4) = true := decide_eq_true c27; clear c27
        by_cases c28 : x8_4 ≤ (l0.length : Int)
        ·rw [if_pos c28] at H; have c28b0 := eq_true c28; have c28b1 : decide (x8_4 ≤ (l0.length : Int)) = true := decide_eq_true c28; clear c28; obtain ⟨y171, hy171⟩ : ∃ y_ : List (S24), y_ = (l0.drop (x8_4 : Int).toNat) := ⟨_, rfl⟩; replace H : (if x8_4 ≤ (l1.length : Int) then ((align_least.f k2 y171 (l1.drop (x8_4 : Int).toNat) x8_4).bind fun t179 => (if x9_2.length + t179.length < 8796093022208 then (some ((x9_2 ++ t179), false)) else (none))) else (none)) = some (r1, r2) := by first | (rw [hy171]; with_reducible exact H) | (have H2_ := (Option.bind_some _ _).symm.trans H; rw [hy171]; with_reducible exact H2_) | (have H2_ := (Option.bind_some _ _).symm.trans H; with_reducible exact H2_) | with_reducible exact H | (rw [hy171]; exact H) | exact H
         have Ny171 := Aside0.mk hy171; clear hy171
         have c29b0 := eq_true (of_decide_eq_true (by first | (with_reducible assumption) | assumption) : 0 ≤ x8_4)
         by_cases c30 : x8_4 ≤ (l1.length : Int)
         ·rw [if_pos c30] at H; have c30b0 := eq_true c30; have c30b1 : decide (x8_4 ≤ (l1.length : Int)) = true := decide_eq_true c30; clear c30; obtain ⟨y175, hy175⟩ : ∃ y_ : List (S24), y_ = (l1.drop (x8_4 : Int).toNat) := ⟨_, rfl⟩; replace H : ((align_least.f k2 y171 y175 x8_4).bind fun t179 => (if x9_2.length + t179.length < 8796093022208 then (some ((x9_2 ++ t179), false)) else (none))) = some (r1, r2) := by first | (rw [hy175]; with_reducible exact H) | (have H2_ := (Option.bind_some _ _).symm.trans H; rw [hy175]; with_reducible exact H2_) | (have H2_ := (Option.bind_some _ _).symm.trans H; with_reducible exact H2_) | with_reducible exact H | (rw [hy175]; exact H) | exact H
          have Ny175 := Aside0.mk hy175; clear hy175; replace H := Option.bind_eq_some_iff.mp H; obtain ⟨t179, A310, H⟩ := H; replace H : (if x9_2.length + t179.length < 8796093022208 then (some ((x9_2 ++ t179), false)) else (none)) = some (r1, r2) := H; have A31 := Aside0.mk A310; clear A310
          by_cases c32 : x9_2.length + t179.length < 8796093022208
          ·rw [if_pos c32] at H; have LMc32 := Aside0.mk c32; clear c32; obtain ⟨y182, hy182⟩ : ∃ y_ : List (S41), y_ = (x9_2 ++ t179) := ⟨_, rfl⟩; replace H : (some (y182, false)) = some (r1, r2) := by first | (rw [hy182]; with_reducible exact H) | (have H2_ := (Option.bind_some _ _).symm.trans H; rw [hy182]; with_reducible exact H2_) | (have H2_ := (Option.bind_some _ _).symm.trans H; with_reducible exact H2_) | with_reducible exact H | (rw [hy182]; exact H) | exact H
           have Ny182 := Aside0.mk hy182; clear hy182; simp only [Option.some.injEq, Prod.mk.injEq] at H; obtain ⟨rfl, rfl⟩ := H; (try go_wp2); have n0_ := Aside0.mk (Kd.R_drew HO_9.out); have n1_ := Aside0.mk (below_drew1 HB.out); clear HO_9; clear HB; have HO_9 := n0_; have HB := n1_; clear n0_ n1_
           have q34 : (x8_4 : Int) ≤ ((l0.length : Int) : Int) := of_decide_eq_true (by first | (with_reducible assumption) | assumption)
           obtain ⟨i034, hi034, _, hsz34, _⟩ := info_parts info24; have hroom34 : l0.length ≤ c0 := HC0.out; have hC34 : Kd.C k24 _ A0 l0.length l0 := HR0.out
           have q034 : (0 : Int) ≤ (x8_4 : Int) := of_decide_eq_true (by first | (with_reducible assumption) | assumption)
           have hcut34 := cut_from (P := Try.prog) 22 24 .i64 Try.underlying22 hi034 2 hsz34 A0 l0.length c0 x8_4 q034 q34; have hr34 := Kd.C_drop (m := (x8_4 : Int).toNat) (c := c0) hC34 (by omega) hroom34; obtain ⟨A34, hA34⟩ : ∃ A1_, A1_ = (if c0 = (x8_4 : Int).toNat then A0 else (A0 : Option Addr).map (·.add ((x8_4 : Int).toNat * 2))) := ⟨_, rfl⟩; obtain ⟨c34, hc34⟩ : ∃ c1_, c1_ = c0 - (x8_4 : Int).toNat := ⟨_, rfl⟩; have hy34 : y171.length = l0.length - (x8_4 : Int).toNat := (by rw [Ny171.out, List.length_drop] <;> omega); rw [show (l0).drop (x8_4 : Int).toNat = y171 from Ny171.out.symm] at hr34; replace hr34 : Kd.C k24 _ A34 y171.length y171 := (by rw [hA34]; exact hr34); rw [← hy34, ← hA34, ← hc34] at hcut34; have HR174 := Aside0.mk hr34; have HC174 := Aside0.mk (show y171.length ≤ c34 from by rw [hy34, hc34]; exact Nat.sub_le_sub_right hroom34 _); clear hr34 hC34 hroom34 hi034 hsz34 hc34; have KY34 := Aside0.mk hy34; have KA34 := Aside0.mk hA34; clear hy34 hA34; replace q34 := eq_true q34
           have q35 : (x8_4 : Int) ≤ ((l1.length : Int) : Int) := of_decide_eq_true (by first | (with_reducible assumption) | assumption)
           obtain ⟨i035, hi035, _, hsz35, _⟩ := info_parts info24; have hroom35 : l1.length ≤ c1 := HC1.out; have hC35 : Kd.C k24 _ A1 l1.length l1 := HR1.out
           have q035 : (0 : Int) ≤ (x8_4 : Int) := of_decide_eq_true (by first | (with_reducible assumption) | assumption)
           have hcut35 := cut_from (P := Try.prog) 22 24 .i64 Try.underlying22 hi035 2 hsz35 A1 l1.length c1 x8_4 q035 q35; have hr35 := Kd.C_drop (m := (x8_4 : Int).toNat) (c := c1) hC35 (by omega) hroom35; obtain ⟨A35, hA35⟩ : ∃ A1_, A1_ = (if c1 = (x8_4 : Int).toNat then A1 else (A1 : Option Addr).map (·.add ((x8_4 : Int).toNat * 2))) := ⟨_, rfl⟩; obtain ⟨c35, hc35⟩ : ∃ c1_, c1_ = c1 - (x8_4 : Int).toNat := ⟨_, rfl⟩; have hy35 : y175.length = l1.length - (x8_4 : Int).toNat := (by rw [Ny175.out, List.length_drop] <;> omega); rw [show (l1).drop (x8_4 : Int).toNat = y175 from Ny175.out.symm] at hr35; replace hr35 : Kd.C k24 _ A35 y175.length y175 := (by rw [hA35]; exact hr35); rw [← hy35, ← hA35, ← hc35] at hcut35; have HR178 := Aside0.mk hr35; have HC178 := Aside0.mk (show y175.length ≤ c35 from by rw [hy35, hc35]; exact Nat.sub_le_sub_right hroom35 _); clear hr35 hC35 hroom35 hi035 hsz35 hc35; have KY35 := Aside0.mk hy35; have KA35 := Aside0.mk hA35; clear hy35 hA35; replace q35 := eq_true q35; refine start_ (n := 12) (S := fun w' => True) (ds := []) #[false, false, false, false, false, false, false, false, false, false, false, false] (by kernel_rfl) rfl rfl trivial (fun hHeld => ?_); refine with_tabW align_Match.tab13 align_Match.bits13 (fun HT_ HW_ => ?_); generalize wr.drew = w33 at HO_9 HB HR174 HR178 hHeld ⊢; refine pure_ (i := 0) (N := some 50) (v := ?_) (a' := ?_) #[true, false, false, false, false, false, false, false, false, false, false, false] rfl rfl (any_of HT_.out (by kernel_rfl)) (fun _ _ _ h => h) (Or.inl ⟨by rfl, ?_⟩) ?_ ?_; rotate_left
           ·intro w'; go_simp; with_reducible rfl
           rotate_left
           ·simp only [Act.put, List.setIfInBounds_toArray, List.set_cons_zero, List.set_cons_succ, i64_w, i32_w]; rfl
           refine pure_ (i := 1) (N := some 51) (v := ?_) (a' := ?_) #[true, true, false, false, false, false, false, false, false, false, false, false] rfl rfl (any_of HT_.out (by kernel_rfl)) (fun _ _ _ h => h) (Or.inl ⟨by rfl, ?_⟩) ?_ ?_; rotate_left
           ·intro w'; go_simp; with_reducible rfl
           rotate_left
           ·simp only [Act.put, List.setIfInBounds_toArray, List.set_cons_zero, List.set_cons_succ, i64_w, i32_w]; rfl
           refine pure_ (i := 2) (N := some 52) (v := ?_) (a' := ?_) #[true, true, true, false, false, false, false, false, false, false, false, false] rfl rfl (any_of HT_.out (by kernel_rfl)) (fun _ _ _ h => h) (Or.inl ⟨by rfl, ?_⟩) ?_ ?_; rotate_left
           ·intro w'; go_simp; with_reducible rfl
           rotate_left
           ·simp only [Act.put, List.setIfInBounds_toArray, List.set_cons_zero, List.set_cons_succ, i64_w, i32_w]; rfl
           refine pure_ (i := 3) (N := some 53) (v := ?_) (a' := ?_) #[true, true, true, true, false, false, false, false, false, false, false, false] rfl rfl (any_of HT_.out (by kernel_rfl)) (fun _ _ _ h => h) (Or.inl ⟨by rfl, ?_⟩) ?_ ?_; rotate_left
           ·intro w'; go_simp; with_reducible rfl
           rotate_left
           ·simp only [Act.put, List.setIfInBounds_toArray, List.set_cons_zero, List.set_cons_succ, i64_w, i32_w]; rfl
           refine pure_ (i := 4) (N := some 54) (v := ?_) (a' := ?_) #[true, true, true, true, true, false, false, false, false, false, false, false] rfl rfl (any_of HT_.out (by kernel_rfl)) (fun _ _ _ h => h) (Or.inl ⟨by rfl, ?_⟩) ?_ ?_; rotate_left
           ·intro w'; go_simp; with_reducible rfl
           rotate_left
           ·simp only [Act.put, List.setIfInBounds_toArray, List.set_cons_zero, List.set_cons_succ, i64_w, i32_w]; rfl
           refine pure_ (i := 5) (N := some 55) (v := ?_) (a' := ?_) #[true, true, true, true, true, true, false, false, false, false, false, false] rfl rfl (any_of HT_.out (by kernel_rfl)) (fun _ _ _ h => h) (Or.inl ⟨by rfl, ?_⟩) ?_ ?_; rotate_left
           ·intro w'; go_simp; with_reducible rfl
           rotate_left
           ·simp only [Act.put, List.setIfInBounds_toArray, List.set_cons_zero, List.set_cons_succ, i64_w, i32_w]; rfl
           refine pure_ (i := 6) (N := some 56) (v := ?_) (a' := ?_) #[true, true, true, true, true, true, true, false, false, false, false, false] rfl rfl (any_of HT_.out (by kernel_rfl)) (fun _ _ _ h => h) (Or.inl ⟨by rfl, ?_⟩) ?_ ?_; rotate_left
           ·intro w'; go_simp; with_reducible rfl
           rotate_left
           ·simp only [Act.put, List.setIfInBounds_toArray, List.set_cons_zero, List.set_cons_succ, i64_w, i32_w]; rfl
           refine pure_ (i := 7) (N := some 57) (v := ?_) (a' := ?_) #[true, true, true, true, true, true, true, true, false, false, false, false] rfl rfl (any_of HT_.out (by kernel_rfl)) (fun _ _ _ h => h) (Or.inl ⟨by rfl, ?_⟩) ?_ ?_; rotate_left
           ·intro w'; go_simp; with_reducible rfl
           rotate_left
           ·simp only [Act.put, List.setIfInBounds_toArray, List.set_cons_zero, List.set_cons_succ, i64_w, i32_w]; rfl
           refine one_ (i := 8) (N := some 58) #[true, true, true, true, true, true, true, true, true, false, false, false] rfl rfl (one_of HT_.out (by kernel_rfl)) (by decide) (fun K hK => ?_)
           refine goes_ Try.func38 (by kernel_rfl) rfl #[.slice A34 y171.length c34, .slice A35 y175.length c35, .int .i64 x8_4] (by rfl) rfl rfl (by (try simp only [List.map_toArray, List.map_cons, List.map_nil]); first | done | rfl | (simp only [List.length_drop, List.length_take]; rfl)) ?_
           with_reducible refine (align_least.calls k2 _ _ y171 _ _ y175 x8_4 t179 _ ?side1 ?side2 ?side3 ?side4 A31.out).mono ?_
           (case side1 => repeat (first | exact (Kd.C_below HR174.out HB.out) | (with_reducible refine Kd.C_alloc ?_ _) | (with_reducible refine Kd.C_drewN ?_ _) | (with_reducible refine Kd.C_drew ?_)))
           (case side2 => exact HC174.out)
           (case side3 => repeat (first | exact (Kd.C_below HR178.out HB.out) | (with_reducible refine Kd.C_alloc ?_ _) | (with_reducible refine Kd.C_drewN ?_ _) | (with_reducible refine Kd.C_drew ?_)))
           (case side4 => exact HC178.out)
           rintro e w36 ⟨v180, rfl, ho0, hb⟩; refine ⟨_, rfl, ?_⟩
           have n0_ := Aside0.mk (Kd.R_elder' (by (with_reducible repeat (first | apply Kd.R_alloc | apply Kd.R_drewN | apply Kd.R_drew)); exact HO_9.out) (Kd.R_base ho0) hb)
           have n1_ := Aside0.mk (Kd.R_lower (Kd.R_new' ho0 (Kd.R_lt (by (with_reducible repeat (first | apply Kd.R_alloc | apply Kd.R_drewN | apply Kd.R_drew)); exact HO_9.out))) (below_size (by repeat (first | (with_reducible first | exact HB.out | apply below_alloc | apply pw_below_drewN | apply below_drew1) | exact HB.out))))
           have n2_ := Aside0.mk (below_step (by repeat (first | (with_reducible first | exact HB.out | apply below_alloc | apply pw_below_drewN | apply below_drew1) | exact HB.out)) hb)
           clear HO_9; clear HB; have HO_9 := n0_; have HO181 := n1_; have HB := n2_; clear n0_ n1_ n2_; (try clear hb); (try clear hb2); (try clear hk); (try clear hi); (try clear ho0); obtain ⟨Ao38, co38, eo38⟩ := Kd.R_slice HO181.out; (first | subst eo38 | (injection eo38 with f1_ f2_ f3_; have f4_ := f1_.symm; have f5_ := f3_.symm; clear f1_ f2_ f3_; subst f4_; subst f5_)); refine hK.out _ _ trivial (fun hHeld => ?_); clear hK K; refine norm_ (a' := ?_) ?_ ?_; rotate_left
           ·show Act.put _ (some 58) _ = _
            simp only [Act.put, List.setIfInBounds_toArray, List.set_cons_zero, List.set_cons_succ, i64_w, i32_w]; rfl
           refine one_ (i := 9) (N := some 59) #[true, true, true, true, true, true, true, true, true, true, false, false] rfl rfl (one_of HT_.out (by kernel_rfl)) (by decide) (fun K hK => ?_); refine Kd.R_append_rows_step k41 (w0 := w) w.heap.size (by rfl) (.tmp 50) (.tmp 58) 30 41 (.agg #[(.int .i64 0), (.int .i64 0)]) 16 rfl Try.underlying30 info41 rfl (by decide) (by omega) u9 x9_2 t179 _ _ _ (fun k_ => some k_ ≠ (.slice Ao38 t179.length co38 : Value).ownBlock) (fun _ => False) rfl rfl ?aO ?aR (fun _ _ h => h) (fun _ h => h.elim) ?aF ?aB ?aS ?aL ?_
           (case aR => repeat (first | exact (Kd.R_reads' HO181.out).2.2 | (with_reducible refine Kd.C_alloc ?_ _) | (with_reducible refine Kd.C_drewN ?_ _) | (with_reducible refine Kd.C_drew ?_)))
           (case aB => exact (by repeat (first | (with_reducible first | exact HB.out | apply below_alloc | apply pw_below_drewN | apply below_drew1) | exact HB.out)))
           (case aF => exact (fun k_ hk => Kd.fresh' (Kd.R_lt (by (with_reducible repeat (first | apply Kd.R_alloc | apply Kd.R_drewN | apply Kd.R_drew)); exact HO181.out)) k_ hk))
           (case aO => exact (by (with_reducible repeat (first | apply Kd.R_alloc | apply Kd.R_drewN | apply Kd.R_drew)); exact Kd.R_mono HO_9.out (fun _ hk => hk.2)))
           (case aS => exact (below_size (by repeat (first | (with_reducible first | exact HB.out | apply below_alloc | apply pw_below_drewN | apply below_drew1) | exact HB.out))))
           (case aL => have := LMc32.out; omega)
           intro v183 w37 ho hb hg hat; rw [← Ny182.out] at ho
           have n0_ := Aside0.mk (Kd.R_after (ok := (fun _ => True)) (by (with_reducible repeat (first | apply Kd.R_alloc | apply Kd.R_drewN | apply Kd.R_drew)); exact HO181.out) hg hat)
           have n1_ := Aside0.mk (hb); have n2_ := Aside0.mk (ho); clear HO181; clear HB; clear HO_9; have HO181 := n0_; have HB := n1_; have HO184 := n2_; clear n0_ n1_ n2_; clear ho hb hg hat; refine hK.out _ _ trivial (fun hHeld => ?_); clear hK K; refine norm_ (a' := ?_) ?_ ?_; rotate_left
           ·show Act.put _ (some 59) _ = _
            simp only [Act.put, List.setIfInBounds_toArray, List.set_cons_zero, List.set_cons_succ, i64_w, i32_w]; rfl
           refine pure_ (i := 10) (N := some 6) (v := ?_) (a' := ?_) #[true, true, true, true, true, true, true, true, true, true, true, false] rfl rfl (any_of HT_.out (by kernel_rfl)) (fun _ _ _ h => h) (Or.inl ⟨by rfl, ?_⟩) ?_ ?_; rotate_left
           ·intro w'; go_simp; with_reducible rfl
           rotate_left
           ·simp only [Act.put, List.setIfInBounds_toArray, List.set_cons_zero, List.set_cons_succ, i64_w, i32_w]; rfl
           refine pure_ (i := 11) (N := some 7) (v := ?_) (a' := ?_) #[true, true, true, true, true, true, true, true, true, true, true, true] rfl rfl (any_of HT_.out (by kernel_rfl)) (fun _ _ _ h => h) (Or.inl ⟨by rfl, ?_⟩) ?_ ?_; rotate_left
           ·intro w'; go_simp; with_reducible rfl
           rotate_left
           ·simp only [Act.put, List.setIfInBounds_toArray, List.set_cons_zero, List.set_cons_succ, i64_w, i32_w]; rfl
           refine done_ (done_of HT_.out (by kernel_rfl)) ?_; (try go_wp2); go_ret2; exact ⟨_, by first | rfl | (simp [errW_none, errW_some] <;> rfl) | (simp [*, errW_none, errW_some] <;> rfl), by (with_reducible repeat (first | apply Kd.R_alloc | apply Kd.R_drewN | apply Kd.R_drew)); exact Kd.R_mono HO184.out (fun _ hk => trivial), by repeat (first | (with_reducible first | exact HB.out | apply below_alloc | apply pw_below_drewN | apply below_drew1) | exact HB.out)⟩
          ·rw [if_neg c32] at H; exact absurd H (by simp)
         ·rw [if_neg c30] at H; exact absurd H (by simp)
        ·rw [if_neg c28] at H; exact absurd H (by simp)
       ·rw [if_neg c27] at H; exact absurd H (by simp)

end Go.Proofs.Ythbgbeelcnfofaa.P
