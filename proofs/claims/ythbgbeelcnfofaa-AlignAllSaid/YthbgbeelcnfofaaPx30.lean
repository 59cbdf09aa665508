-- Written by a program of this session (its own turn of the print: wip/patch_print.py), not by hand. Lean checks it.
import Derived.Test.YthbgbeelcnfofaaPx0
import Derived.Test.YthbgbeelcnfofaaPx7
import Derived.Test.YthbgbeelcnfofaaPx9
import Derived.Test.YthbgbeelcnfofaaPx13
namespace Go.Proofs.Ythbgbeelcnfofaa.P
open Go.RowKit Go.Proofs.YthbgbeelcnfofaaW.PrintWords Go.Proofs.YthbgbeelcnfofaaW.PrintLast Go.Proofs.YthbgbeelcnfofaaW.PrintMore
attribute [local go_sem] max2_int min2_int max_two min_two max_three min_three max_four min_four   -- for this text's walks alone
set_option linter.unusedVariables false
set_option linter.unusedSimpArgs false

/-! ### parallaxlaw15_AlignAll: function 8 -/
mutual
def parallaxlaw15_AlignAll.l0 : Nat → List (S24) → List (S24) → List (S41) → List (S49) → List Int → List Int → Int → Option (Bool)
 | 0, _, _, _, _, _, _, _ => none
 | k + 1, x0, x1, x7, x9, x11, x12, x13 => if x13 < (x7.length : Int) then (if 0 ≤ x13 then (if 0 ≤ ((rd_T41 x7 x13).f0) then (if ((rd_T41 x7 x13).f0) < (x11.length : Int) then (if 0 ≤ ((rd_T41 x7 x13).f1) then (if ((rd_T41 x7 x13).f1) < (x12.length : Int) then (parallaxlaw15_AlignAll.l0 k x0 x1 x7 x9 (x11.set (((rd_T41 x7 x13).f0) : Int).toNat (wrap64 ((rd x11 ((rd_T41 x7 x13).f0)) + 1))) (x12.set (((rd_T41 x7 x13).f1) : Int).toNat (wrap64 ((rd x12 ((rd_T41 x7 x13).f1)) + 1))) (wrap64 (x13 + 1))) else (none)) else (none)) else (none)) else (none)) else (none)) else (parallaxlaw15_AlignAll.l1 k x0 x1 x9 x11 x12 0)
def parallaxlaw15_AlignAll.l1 : Nat → List (S24) → List (S24) → List (S49) → List Int → List Int → Int → Option (Bool)
 | 0, _, _, _, _, _, _ => none
 | k + 1, x0, x1, x9, x11, x12, x14 => if x14 < (x9.length : Int) then (if 0 ≤ x14 then (if ((rd_T49 x9 x14).f0) < 0 then (parallaxlaw15_AlignAll.j2 k x0 x1 x9 x11 x12 x14 true) else (if ((rd_T49 x9 x14).f1) > (x0.length : Int) then (parallaxlaw15_AlignAll.j2 k x0 x1 x9 x11 x12 x14 true) else (if ((rd_T49 x9 x14).f2) < 0 then (parallaxlaw15_AlignAll.j2 k x0 x1 x9 x11 x12 x14 true) else (parallaxlaw15_AlignAll.j2 k x0 x1 x9 x11 x12 x14 (decide (((rd_T49 x9 x14).f3) > (x1.length : Int))))))) else (none)) else (parallaxlaw15_AlignAll.l4 k x11 x12 0)
def parallaxlaw15_AlignAll.j2 : Nat → List (S24) → List (S24) → List (S49) → List Int → List Int → Int → Bool → Option (Bool)
 | 0, _, _, _, _, _, _, _ => none
 | k + 1, x0, x1, x9, x11, x12, x14, x112 => if x112 = true then (some false) else (if 0 ≤ x14 then (if x14 < (x9.length : Int) then (parallaxlaw15_AlignAll.l2 k x0 x1 x9 x11 x12 x14 ((rd_T49 x9 x14).f0)) else (none)) else (none))
def parallaxlaw15_AlignAll.l2 : Nat → List (S24) → List (S24) → List (S49) → List Int → List Int → Int → Int → Option (Bool)
 | 0, _, _, _, _, _, _, _ => none
 | k + 1, x0, x1, x9, x11, x12, x14, x15 => if 0 ≤ x14 then (if x14 < (x9.length : Int) then (if x15 < ((rd_T49 x9 x14).f1) then (if 0 ≤ x15 then (if x15 < (x11.length : Int) then (parallaxlaw15_AlignAll.l2 k x0 x1 x9 (x11.set (x15 : Int).toNat (wrap64 ((rd x11 x15) + 1))) x12 x14 (wrap64 (x15 + 1))) else (none)) else (none)) else (parallaxlaw15_AlignAll.l3 k x0 x1 x9 x11 x12 x14 ((rd_T49 x9 x14).f2))) else (none)) else (none)
def parallaxlaw15_AlignAll.l3 : Nat → List (S24) → List (S24) → List (S49) → List Int → List Int → Int → Int → Option (Bool)
 | 0, _, _, _, _, _, _, _ => none
 | k + 1, x0, x1, x9, x11, x12, x14, x16 => if 0 ≤ x14 then (if x14 < (x9.length : Int) then (if x16 < ((rd_T49 x9 x14).f3) then (if 0 ≤ x16 then (if x16 < (x12.length : Int) then (parallaxlaw15_AlignAll.l3 k x0 x1 x9 x11 (x12.set (x16 : Int).toNat (wrap64 ((rd x12 x16) + 1))) x14 (wrap64 (x16 + 1))) else (none)) else (none)) else (parallaxlaw15_AlignAll.l1 k x0 x1 x9 x11 x12 (wrap64 (x14 + 1)))) else (none)) else (none)
def parallaxlaw15_AlignAll.l4 : Nat → List Int → List Int → Int → Option (Bool)
 | 0, _, _, _ => none
 | k + 1, x11, x12, x17 => if x17 < (x11.length : Int) then (if 0 ≤ x17 then (if (rd x11 x17) = 1 then (parallaxlaw15_AlignAll.l4 k x11 x12 (wrap64 (x17 + 1))) else (some false)) else (none)) else (parallaxlaw15_AlignAll.l5 k x12 0)
def parallaxlaw15_AlignAll.l5 : Nat → List Int → Int → Option (Bool)
 | 0, _, _ => none
 | k + 1, x12, x18 => if x18 < (x12.length : Int) then (if 0 ≤ x18 then (if (rd x12 x18) = 1 then (parallaxlaw15_AlignAll.l5 k x12 (wrap64 (x18 + 1))) else (some false)) else (none)) else ((parallaxlaw15_known.f k).bind fun t641 => (some t641))
end
def parallaxlaw15_AlignAll.f (k : Nat) (l0 : List (S24)) (l1 : List (S24)) (a2 : Int) : Option (Bool) := (parallaxlaw15_many.f l0 l1).bind fun t605 => (if t605 = true then ((parallaxlaw15_known.f k).bind fun t606 => (some t606)) else ((align_Match.f k l0 l1 a2).bind fun bt607 => ((align_Regions.f k (l0.length : Int) (l1.length : Int) bt607.1).bind fun bt611 => (if bt611.2 = 0 then (if 0 ≤ (l0.length : Int) then (if ((l0.length : Int) : Int).toNat ≤ 35184372088832 then (if 0 ≤ (l1.length : Int) then (if ((l1.length : Int) : Int).toNat ≤ 35184372088832 then (parallaxlaw15_AlignAll.l0 k l0 l1 bt607.1 bt611.1 (List.replicate ((l0.length : Int) : Int).toNat 0) (List.replicate ((l1.length : Int) : Int).toNat 0) 0) else (none)) else (none)) else (none)) else (none)) else (some false)))))
theorem parallaxlaw15_AlignAll.mono_l : ∀ k, (∀ y0 y1 y2 y3 y4 y5 y6, LeO (parallaxlaw15_AlignAll.l0 k y0 y1 y2 y3 y4 y5 y6) (parallaxlaw15_AlignAll.l0 (k + 1) y0 y1 y2 y3 y4 y5 y6)) ∧ (∀ y0 y1 y2 y3 y4 y5, LeO (parallaxlaw15_AlignAll.l1 k y0 y1 y2 y3 y4 y5) (parallaxlaw15_AlignAll.l1 (k + 1) y0 y1 y2 y3 y4 y5)) ∧ (∀ y0 y1 y2 y3 y4 y5 y6, LeO (parallaxlaw15_AlignAll.j2 k y0 y1 y2 y3 y4 y5 y6) (parallaxlaw15_AlignAll.j2 (k + 1) y0 y1 y2 y3 y4 y5 y6)) ∧ (∀ y0 y1 y2 y3 y4 y5 y6, LeO (parallaxlaw15_AlignAll.l2 k y0 y1 y2 y3 y4 y5 y6) (parallaxlaw15_AlignAll.l2 (k + 1) y0 y1 y2 y3 y4 y5 y6)) ∧ (∀ y0 y1 y2 y3 y4 y5 y6, LeO (parallaxlaw15_AlignAll.l3 k y0 y1 y2 y3 y4 y5 y6) (parallaxlaw15_AlignAll.l3 (k + 1) y0 y1 y2 y3 y4 y5 y6)) ∧ (∀ y0 y1 y2, LeO (parallaxlaw15_AlignAll.l4 k y0 y1 y2) (parallaxlaw15_AlignAll.l4 (k + 1) y0 y1 y2)) ∧ (∀ y0 y1, LeO (parallaxlaw15_AlignAll.l5 k y0 y1) (parallaxlaw15_AlignAll.l5 (k + 1) y0 y1))
 | 0 => ⟨fun _ _ _ _ _ _ _ r h => by simp [parallaxlaw15_AlignAll.l0] at h, fun _ _ _ _ _ _ r h => by simp [parallaxlaw15_AlignAll.l1] at h, fun _ _ _ _ _ _ _ r h => by simp [parallaxlaw15_AlignAll.j2] at h, fun _ _ _ _ _ _ _ r h => by simp [parallaxlaw15_AlignAll.l2] at h, fun _ _ _ _ _ _ _ r h => by simp [parallaxlaw15_AlignAll.l3] at h, fun _ _ _ r h => by simp [parallaxlaw15_AlignAll.l4] at h, fun _ _ r h => by simp [parallaxlaw15_AlignAll.l5] at h⟩
 | k + 1 => by
  obtain ⟨ih0, ih1, ih2, ih3, ih4, ih5, ih6⟩ := parallaxlaw15_AlignAll.mono_l k
  refine ⟨?_, ?_, ?_, ?_, ?_, ?_, ?_⟩
  ·intro y0 y1 y2 y3 y4 y5 y6
   unfold parallaxlaw15_AlignAll.l0
   repeat' first
   | (with_reducible exact ih0 _ _ _ _ _ _ _)
   | (with_reducible exact ih1 _ _ _ _ _ _)
   | (with_reducible exact ih2 _ _ _ _ _ _ _)
   | (with_reducible exact ih3 _ _ _ _ _ _ _)
   | (with_reducible exact ih4 _ _ _ _ _ _ _)
   | (with_reducible exact ih5 _ _ _)
   | (with_reducible exact ih6 _ _)
   | (with_reducible exact align_Match.mono _ _ _ _)
   | (with_reducible exact align_Regions.mono _ _ _ _)
   | (with_reducible exact parallaxlaw15_known.mono _)
   | (with_reducible exact LeO.refl _)
   | (with_reducible exact LeO.none _)
   | (with_reducible refine LeO.ite ?_ ?_)
   | (with_reducible refine LeO.bind ?_ (fun _ => ?_))
   | exact ih0 _ _ _ _ _ _ _
   | exact ih1 _ _ _ _ _ _
   | exact ih2 _ _ _ _ _ _ _
   | exact ih3 _ _ _ _ _ _ _
   | exact ih4 _ _ _ _ _ _ _
   | exact ih5 _ _ _
   | exact ih6 _ _
   | exact align_Match.mono _ _ _ _
   | exact align_Regions.mono _ _ _ _
   | exact parallaxlaw15_known.mono _
   | exact LeO.none _
   | refine LeO.ite ?_ ?_
   | refine LeO.bind ?_ (fun _ => ?_)
  ·intro y0 y1 y2 y3 y4 y5
   unfold parallaxlaw15_AlignAll.l1
   repeat' first
   | (with_reducible exact ih0 _ _ _ _ _ _ _)
   | (with_reducible exact ih1 _ _ _ _ _ _)
   | (with_reducible exact ih2 _ _ _ _ _ _ _)
   | (with_reducible exact ih3 _ _ _ _ _ _ _)
   | (with_reducible exact ih4 _ _ _ _ _ _ _)
   | (with_reducible exact ih5 _ _ _)
   | (with_reducible exact ih6 _ _)
   | (with_reducible exact align_Match.mono _ _ _ _)
   | (with_reducible exact align_Regions.mono _ _ _ _)
   | (with_reducible exact parallaxlaw15_known.mono _)
   | (with_reducible exact LeO.refl _)
   | (with_reducible exact LeO.none _)
   | (with_reducible refine LeO.ite ?_ ?_)
   | (with_reducible refine LeO.bind ?_ (fun _ => ?_))
   | exact ih0 _ _ _ _ _ _ _
   | exact ih1 _ _ _ _ _ _
   | exact ih2 _ _ _ _ _ _ _
   | exact ih3 _ _ _ _ _ _ _
   | exact ih4 _ _ _ _ _ _ _
   | exact ih5 _ _ _
   | exact ih6 _ _
   | exact align_Match.mono _ _ _ _
   | exact align_Regions.mono _ _ _ _
   | exact parallaxlaw15_known.mono _
   | exact LeO.none _
   | refine LeO.ite ?_ ?_
   | refine LeO.bind ?_ (fun _ => ?_)
  ·intro y0 y1 y2 y3 y4 y5 y6
   unfold parallaxlaw15_AlignAll.j2
   repeat' first
   | (with_reducible exact ih0 _ _ _ _ _ _ _)
   | (with_reducible exact ih1 _ _ _ _ _ _)
   | (with_reducible exact ih2 _ _ _ _ _ _ _)
   | (with_reducible exact ih3 _ _ _ _ _ _ _)
   | (with_reducible exact ih4 _ _ _ _ _ _ _)
   | (with_reducible exact ih5 _ _ _)
   | (with_reducible exact ih6 _ _)
   | (with_reducible exact align_Match.mono _ _ _ _)
   | (with_reducible exact align_Regions.mono _ _ _ _)
   | (with_reducible exact parallaxlaw15_known.mono _)
   | (with_reducible exact LeO.refl _)
   | (with_reducible exact LeO.none _)
   | (with_reducible refine LeO.ite ?_ ?_)
   | (with_reducible refine LeO.bind ?_ (fun _ => ?_))
   | exact ih0 _ _ _ _ _ _ _
   | exact ih1 _ _ _ _ _ _
   | exact ih2 _ _ _ _ _ _ _
   | exact ih3 _ _ _ _ _ _ _
   | exact ih4 _ _ _ _ _ _ _
   | exact ih5 _ _ _
   | exact ih6 _ _
   | exact align_Match.mono _ _ _ _
   | exact align_Regions.mono _ _ _ _
   | exact parallaxlaw15_known.mono _
   | exact LeO.none _
   | refine LeO.ite ?_ ?_
   | refine LeO.bind ?_ (fun _ => ?_)
  ·intro y0 y1 y2 y3 y4 y5 y6
   unfold parallaxlaw15_AlignAll.l2
   repeat' first
   | (with_reducible exact ih0 _ _ _ _ _ _ _)
   | (with_reducible exact ih1 _ _ _ _ _ _)
   | (with_reducible exact ih2 _ _ _ _ _ _ _)
   | (with_reducible exact ih3 _ _ _ _ _ _ _)
   | (with_reducible exact ih4 _ _ _ _ _ _ _)
   | (with_reducible exact ih5 _ _ _)
   | (with_reducible exact ih6 _ _)
   | (with_reducible exact align_Match.mono _ _ _ _)
   | (with_reducible exact align_Regions.mono _ _ _ _)
   | (with_reducible exact parallaxlaw15_known.mono _)
   | (with_reducible exact LeO.refl _)
   | (with_reducible exact LeO.none _)
   | (with_reducible refine LeO.ite ?_ ?_)
   | (with_reducible refine LeO.bind ?_ (fun _ => ?_))
   | exact ih0 _ _ _ _ _ _ _
   | exact ih1 _ _ _ _ _ _
   | exact ih2 _ _ _ _ _ _ _
   | exact ih3 _ _ _ _ _ _ _
   | exact ih4 _ _ _ _ _ _ _
   | exact ih5 _ _ _
   | exact ih6 _ _
   | exact align_Match.mono _ _ _ _
   | exact align_Regions.mono _ _ _ _
   | exact parallaxlaw15_known.mono _
   | exact LeO.none _
   | refine LeO.ite ?_ ?_
   | refine LeO.bind ?_ (fun _ => ?_)
  ·intro y0 y1 y2 y3 y4 y5 y6
   unfold parallaxlaw15_AlignAll.l3
   repeat' first
   | (with_reducible exact ih0 _ _ _ _ _ _ _)
   | (with_reducible exact ih1 _ _ _ _ _ _)
   | (with_reducible exact ih2 _ _ _ _ _ _ _)
   | (with_reducible exact ih3 _ _ _ _ _ _ _)
   | (with_reducible exact ih4 _ _ _ _ _ _ _)
   | (with_reducible exact ih5 _ _ _)
   | (with_reducible exact ih6 _ _)
   | (with_reducible exact align_Match.mono _ _ _ _)
   | (with_reducible exact align_Regions.mono _ _ _ _)
   | (with_reducible exact parallaxlaw15_known.mono _)
   | (with_reducible exact LeO.refl _)
   | (with_reducible exact LeO.none _)
   | (with_reducible refine LeO.ite ?_ ?_)
   | (with_reducible refine LeO.bind ?_ (fun _ => ?_))
   | exact ih0 _ _ _ _ _ _ _
   | exact ih1 _ _ _ _ _ _
   | exact ih2 _ _ _ _ _ _ _
   | exact ih3 _ _ _ _ _ _ _
   | exact ih4 _ _ _ _ _ _ _
   | exact ih5 _ _ _
   | exact ih6 _ _
   | exact align_Match.mono _ _ _ _
   | exact align_Regions.mono _ _ _ _
   | exact parallaxlaw15_known.mono _
   | exact LeO.none _
   | refine LeO.ite ?_ ?_
   | refine LeO.bind ?_ (fun _ => ?_)
  ·intro y0 y1 y2
   unfold parallaxlaw15_AlignAll.l4
   repeat' first
   | (with_reducible exact ih0 _ _ _ _ _ _ _)
   | (with_reducible exact ih1 _ _ _ _ _ _)
   | (with_reducible exact ih2 _ _ _ _ _ _ _)
   | (with_reducible exact ih3 _ _ _ _ _ _ _)
   | (with_reducible exact ih4 _ _ _ _ _ _ _)
   | (with_reducible exact ih5 _ _ _)
   | (with_reducible exact ih6 _ _)
   | (with_reducible exact align_Match.mono _ _ _ _)
   | (with_reducible exact align_Regions.mono _ _ _ _)
   | (with_reducible exact parallaxlaw15_known.mono _)
   | (with_reducible exact LeO.refl _)
   | (with_reducible exact LeO.none _)
   | (with_reducible refine LeO.ite ?_ ?_)
   | (with_reducible refine LeO.bind ?_ (fun _ => ?_))
   | exact ih0 _ _ _ _ _ _ _
   | exact ih1 _ _ _ _ _ _
   | exact ih2 _ _ _ _ _ _ _
   | exact ih3 _ _ _ _ _ _ _
   | exact ih4 _ _ _ _ _ _ _
   | exact ih5 _ _ _
   | exact ih6 _ _
   | exact align_Match.mono _ _ _ _
   | exact align_Regions.mono _ _ _ _
   | exact parallaxlaw15_known.mono _
   | exact LeO.none _
   | refine LeO.ite ?_ ?_
   | refine LeO.bind ?_ (fun _ => ?_)
  ·intro y0 y1
   unfold parallaxlaw15_AlignAll.l5
   repeat' first
   | (with_reducible exact ih0 _ _ _ _ _ _ _)
   | (with_reducible exact ih1 _ _ _ _ _ _)
   | (with_reducible exact ih2 _ _ _ _ _ _ _)
   | (with_reducible exact ih3 _ _ _ _ _ _ _)
   | (with_reducible exact ih4 _ _ _ _ _ _ _)
   | (with_reducible exact ih5 _ _ _)
   | (with_reducible exact ih6 _ _)
   | (with_reducible exact align_Match.mono _ _ _ _)
   | (with_reducible exact align_Regions.mono _ _ _ _)
   | (with_reducible exact parallaxlaw15_known.mono _)
   | (with_reducible exact LeO.refl _)
   | (with_reducible exact LeO.none _)
   | (with_reducible refine LeO.ite ?_ ?_)
   | (with_reducible refine LeO.bind ?_ (fun _ => ?_))
   | exact ih0 _ _ _ _ _ _ _
   | exact ih1 _ _ _ _ _ _
   | exact ih2 _ _ _ _ _ _ _
   | exact ih3 _ _ _ _ _ _ _
   | exact ih4 _ _ _ _ _ _ _
   | exact ih5 _ _ _
   | exact ih6 _ _
   | exact align_Match.mono _ _ _ _
   | exact align_Regions.mono _ _ _ _
   | exact parallaxlaw15_known.mono _
   | exact LeO.none _
   | refine LeO.ite ?_ ?_
   | refine LeO.bind ?_ (fun _ => ?_)
theorem parallaxlaw15_AlignAll.mono : ∀ a0 a1 a2 k, LeO (parallaxlaw15_AlignAll.f k a0 a1 a2) (parallaxlaw15_AlignAll.f (k + 1) a0 a1 a2) := by
 intro a0 a1 a2 k
 obtain ⟨ih0, ih1, ih2, ih3, ih4, ih5, ih6⟩ := parallaxlaw15_AlignAll.mono_l k
 unfold parallaxlaw15_AlignAll.f
 repeat' first
   | (with_reducible exact ih0 _ _ _ _ _ _ _)
   | (with_reducible exact ih1 _ _ _ _ _ _)
   | (with_reducible exact ih2 _ _ _ _ _ _ _)
   | (with_reducible exact ih3 _ _ _ _ _ _ _)
   | (with_reducible exact ih4 _ _ _ _ _ _ _)
   | (with_reducible exact ih5 _ _ _)
   | (with_reducible exact ih6 _ _)
   | (with_reducible exact align_Match.mono _ _ _ _)
   | (with_reducible exact align_Regions.mono _ _ _ _)
   | (with_reducible exact parallaxlaw15_known.mono _)
   | (with_reducible exact LeO.refl _)
   | (with_reducible exact LeO.none _)
   | (with_reducible refine LeO.ite ?_ ?_)
   | (with_reducible refine LeO.bind ?_ (fun _ => ?_))
   | exact ih0 _ _ _ _ _ _ _
   | exact ih1 _ _ _ _ _ _
   | exact ih2 _ _ _ _ _ _ _
   | exact ih3 _ _ _ _ _ _ _
   | exact ih4 _ _ _ _ _ _ _
   | exact ih5 _ _ _
   | exact ih6 _ _
   | exact align_Match.mono _ _ _ _
   | exact align_Regions.mono _ _ _ _
   | exact parallaxlaw15_known.mono _
   | exact LeO.none _
   | refine LeO.ite ?_ ?_
   | refine LeO.bind ?_ (fun _ => ?_)
def parallaxlaw15_AlignAll.T7 : Bool × List (List Nat × List Nat) := (true, [([], []), ([0], [0]), ([1, 1], [1]), ([], []), ([3], [3]), ([4, 4], [4]), ([2, 0, 1, 2], [2]), ([5, 6, 0, 1, 2, 3, 4, 5, 6], [5])])
def parallaxlaw15_AlignAll.B7 : List Nat := [0, 1, 3, 0, 8, 24, 7, 127]
theorem parallaxlaw15_AlignAll.tab7 : rtab .any (opsOf Try.f8 7) = parallaxlaw15_AlignAll.T7 := by kernel_rfl
theorem parallaxlaw15_AlignAll.bits7 : waitsOk parallaxlaw15_AlignAll.T7.2 parallaxlaw15_AlignAll.B7 = true := by kernel_rfl
set_option maxHeartbeats 8000000 in
set_option maxRecDepth 100000 in
theorem parallaxlaw15_AlignAll.calls (k : Nat) (A0 : Option Addr) (c0 : Nat) (l0 : List (S24)) (A1 : Option Addr) (c1 : Nat) (l1 : List (S24)) (a2 : Int) (r : Bool) (w : World) (hr0 : Kd.C k24 w A0 l0.length l0) (hc0 : l0.length ≤ c0) (hr1 : Kd.C k24 w A1 l1.length l1) (hc1 : l1.length ≤ c1) (h : parallaxlaw15_AlignAll.f k l0 l1 a2 = some r) :
  Calls Try.prog 8 #[.slice A0 l0.length c0, .slice A1 l1.length c1, .int .i64 a2] w fun e w' => e = .returned (.bool r) ∧ Below w.heap.size w w' := by
 have HR0 := Aside0.mk hr0
 have HC0 := Aside0.mk hc0
 clear hr0 hc0
 have HR1 := Aside0.mk hr1
 have HC1 := Aside0.mk hc1
 clear hr1 hc1
 have HB := Aside0.mk (Below.refl w.heap.size w)
 have H : ((parallaxlaw15_many.f l0 l1).bind fun t605 => (if t605 = true then ((parallaxlaw15_known.f k).bind fun t606 => (some t606)) else ((align_Match.f k l0 l1 a2).bind fun bt607 => ((align_Regions.f k (l0.length : Int) (l1.length : Int) bt607.1).bind fun bt611 => (if bt611.2 = 0 then (if 0 ≤ (l0.length : Int) then (if ((l0.length : Int) : Int).toNat ≤ 35184372088832 then (if 0 ≤ (l1.length : Int) then (if ((l1.length : Int) : Int).toNat ≤ 35184372088832 then (parallaxlaw15_AlignAll.l0 k l0 l1 bt607.1 bt611.1 (List.replicate ((l0.length : Int) : Int).toNat 0) (List.replicate ((l1.length : Int) : Int).toNat 0) 0) else (none)) else (none)) else (none)) else (none)) else (some false)))))) = some r := h
 clear h
 replace H := Option.bind_eq_some_iff.mp H
 obtain ⟨t605, A40, H⟩ := H
 replace H : (if t605 = true then ((parallaxlaw15_known.f k).bind fun t606 => (some t606)) else ((align_Match.f k l0 l1 a2).bind fun bt607 => ((align_Regions.f k (l0.length : Int) (l1.length : Int) bt607.1).bind fun bt611 => (if bt611.2 = 0 then (if 0 ≤ (l0.length : Int) then (if ((l0.length : Int) : Int).toNat ≤ 35184372088832 then (if 0 ≤ (l1.length : Int) then (if ((l1.length : Int) : Int).toNat ≤ 35184372088832 then (parallaxlaw15_AlignAll.l0 k l0 l1 bt607.1 bt611.1 (List.replicate ((l0.length : Int) : Int).toNat 0) (List.replicate ((l1.length : Int) : Int).toNat 0) 0) else (none)) else (none)) else (none)) else (none)) else (some false))))) = some r := H
 have A4 := Aside0.mk A40
 clear A40
 by_cases c5 : t605 = true
 ·subst c5
  have H1 : ((parallaxlaw15_known.f k).bind fun t606 => (some t606)) = some r := by rw [if_pos rfl] at H; exact H
  clear H
  have H := H1
  clear H1
  replace H := Option.bind_eq_some_iff.mp H
  obtain ⟨t606, A60, H⟩ := H
  replace H : (some t606) = some r := H
  have A6 := Aside0.mk A60
  clear A60
  obtain rfl := Option.some.inj H
  go_enter Try.func8, Try.ntmps8
  go_wp2_with (first | ((with_reducible refine gate_callee (f := 17) rfl ?_); refine goesL_ (some 21) rfl rfl Try.func17 (by kernel_rfl) rfl #[.slice A0 l0.length c0, .slice A1 l1.length c1] rfl (by (try simp only [List.map_toArray, List.map_cons, List.map_nil]); first | done | rfl | (simp only [List.length_drop, List.length_take]; rfl)) ?_; (with_reducible refine (parallaxlaw15_many.calls _ _ l0 _ _ l1 true _ ?side1 ?side2 ?side3 ?side4 A4.out).mono ?_); (case side1 => repeat (first | exact HR0.out | (with_reducible refine Kd.C_alloc ?_ _) | (with_reducible refine Kd.C_drewN ?_ _) | (with_reducible refine Kd.C_drew ?_))); (case side2 => exact HC0.out); (case side3 => repeat (first | exact HR1.out | (with_reducible refine Kd.C_alloc ?_ _) | (with_reducible refine Kd.C_drewN ?_ _) | (with_reducible refine Kd.C_drew ?_))); (case side4 => exact HC1.out); rintro e w' ⟨rfl, ⟨nd, rfl⟩⟩; refine ⟨_, rfl, ?_⟩) | ((with_reducible refine gate_callee (f := 12) rfl ?_); refine goesL_ (some 22) rfl rfl Try.func12 (by kernel_rfl) rfl #[] rfl (by (try simp only [List.map_toArray, List.map_cons, List.map_nil]); first | done | rfl | (simp only [List.length_drop, List.length_take]; rfl)) ?_; (with_reducible refine (parallaxlaw15_known.calls k  t606 _ A6.out).mono ?_); rintro e w7 ⟨rfl, hb⟩; refine ⟨_, rfl, ?_⟩; have n0_ := Aside0.mk (below_step (by repeat (first | (with_reducible first | exact HB.out | apply below_alloc | apply pw_below_drewN | apply below_drew1) | exact HB.out)) hb); clear HB; have HB := n0_; clear n0_; (try clear hb); (try clear hb2); (try clear hk); (try clear hi)))
  go_ret
  exact ⟨by first | rfl | (simp [errW_none, errW_some] <;> rfl) | (simp [*, errW_none, errW_some] <;> rfl), by repeat (first | (with_reducible first | exact HB.out | apply below_alloc | apply pw_below_drewN | apply below_drew1) | exact HB.out)⟩
 ·replace c5 := Bool.eq_false_iff.mpr c5
  subst c5
  have H1 : ((align_Match.f k l0 l1 a2).bind fun bt607 => ((align_Regions.f k (l0.length : Int) (l1.length : Int) bt607.1).bind fun bt611 => (if bt611.2 = 0 then (if 0 ≤ (l0.length : Int) then (if ((l0.length : Int) : Int).toNat ≤ 35184372088832 then (if 0 ≤ (l1.length : Int) then (if ((l1.length : Int) : Int).toNat ≤ 35184372088832 then (parallaxlaw15_AlignAll.l0 k l0 l1 bt607.1 bt611.1 (List.replicate ((l0.length : Int) : Int).toNat 0) (List.replicate ((l1.length : Int) : Int).toNat 0) 0) else (none)) else (none)) else (none)) else (none)) else (some false)))) = some r := by rw [if_neg (show ¬ (false = true) by decide)] at H; exact H
  clear H
  have H := H1
  clear H1
  replace H := Option.bind_eq_some_iff.mp H
  obtain ⟨⟨t607, t608⟩, A80, H⟩ := H
  replace H : ((align_Regions.f k (l0.length : Int) (l1.length : Int) t607).bind fun bt611 => (if bt611.2 = 0 then (if 0 ≤ (l0.length : Int) then (if ((l0.length : Int) : Int).toNat ≤ 35184372088832 then (if 0 ≤ (l1.length : Int) then (if ((l1.length : Int) : Int).toNat ≤ 35184372088832 then (parallaxlaw15_AlignAll.l0 k l0 l1 t607 bt611.1 (List.replicate ((l0.length : Int) : Int).toNat 0) (List.replicate ((l1.length : Int) : Int).toNat 0) 0) else (none)) else (none)) else (none)) else (none)) else (some false))) = some r := H
  have A8 := Aside0.mk A80
  clear A80
  replace H := Option.bind_eq_some_iff.mp H
  obtain ⟨⟨t611, t612⟩, A90, H⟩ := H
  replace H : (if t612 = 0 then (if 0 ≤ (l0.length : Int) then (if ((l0.length : Int) : Int).toNat ≤ 35184372088832 then (if 0 ≤ (l1.length : Int) then (if ((l1.length : Int) : Int).toNat ≤ 35184372088832 then (parallaxlaw15_AlignAll.l0 k l0 l1 t607 t611 (List.replicate ((l0.length : Int) : Int).toNat 0) (List.replicate ((l1.length : Int) : Int).toNat 0) 0) else (none)) else (none)) else (none)) else (none)) else (some false)) = some r := H
  have A9 := Aside0.mk A90
  clear A90
  by_cases c10 : t612 = 0
  ·rw [if_pos c10] at H
   have c10b0 : (t612 == 0) = true := beq_iff_eq.mpr c10
   have c10b1 : (t612 != 0) = false := bne_eq_false_iff_eq.mpr c10
   clear c10
   by_cases c11 : 0 ≤ (l0.length : Int)
   ·rw [if_pos c11] at H
    have c11b0 := eq_true c11
    have c11b1 : decide (0 ≤ (l0.length : Int)) = true := decide_eq_true c11
    clear c11
    by_cases c12 : ((l0.length : Int) : Int).toNat ≤ 35184372088832
    ·rw [if_pos c12] at H
     have c12b0 := eq_true c12
     have c12b1 : decide (((l0.length : Int) : Int).toNat ≤ 35184372088832) = true := decide_eq_true c12
     clear c12
     obtain ⟨y615, hy615⟩ : ∃ y_ : List Int, y_ = (List.replicate ((l0.length : Int) : Int).toNat 0) := ⟨_, rfl⟩
     replace H : (if 0 ≤ (l1.length : Int) then (if ((l1.length : Int) : Int).toNat ≤ 35184372088832 then (parallaxlaw15_AlignAll.l0 k l0 l1 t607 t611 y615 (List.replicate ((l1.length : Int) : Int).toNat 0) 0) else (none)) else (none)) = some r := by first | (rw [hy615]; with_reducible exact H) | (have H2_ := (Option.bind_some _ _).symm.trans H; rw [hy615]; with_reducible exact H2_) | (have H2_ := (Option.bind_some _ _).symm.trans H; with_reducible exact H2_) | with_reducible exact H | (rw [hy615]; exact H) | exact H
     have Ny615 := Aside0.mk hy615
     clear hy615
     by_cases c13 : 0 ≤ (l1.length : Int)
     ·rw [if_pos c13] at H
      have c13b0 := eq_true c13
      have c13b1 : decide (0 ≤ (l1.length : Int)) = true := decide_eq_true c13
      clear c13
      by_cases c14 : ((l1.length : Int) : Int).toNat ≤ 35184372088832
      ·rw [if_pos c14] at H
       have c14b0 := eq_true c14
       have c14b1 : decide (((l1.length : Int) : Int).toNat ≤ 35184372088832) = true := decide_eq_true c14
       clear c14
       obtain ⟨y618, hy618⟩ : ∃ y_ : List Int, y_ = (List.replicate ((l1.length : Int) : Int).toNat 0) := ⟨_, rfl⟩
       replace H : (parallaxlaw15_AlignAll.l0 k l0 l1 t607 t611 y615 y618 0) = some r := by first | (rw [hy618]; with_reducible exact H) | (have H2_ := (Option.bind_some _ _).symm.trans H; rw [hy618]; with_reducible exact H2_) | (have H2_ := (Option.bind_some _ _).symm.trans H; with_reducible exact H2_) | with_reducible exact H | (rw [hy618]; exact H) | exact H
       have Ny618 := Aside0.mk hy618
       clear hy618
       have H' := Aside0.mk H
       clear H
       go_enter Try.func8, Try.ntmps8
       try go_wp2_with (first | ((with_reducible refine gate_callee (f := 17) rfl ?_); refine goesL_ (some 21) rfl rfl Try.func17 (by kernel_rfl) rfl #[.slice A0 l0.length c0, .slice A1 l1.length c1] rfl (by (try simp only [List.map_toArray, List.map_cons, List.map_nil]); first | done | rfl | (simp only [List.length_drop, List.length_take]; rfl)) ?_; (with_reducible refine (parallaxlaw15_many.calls _ _ l0 _ _ l1 false _ ?side1 ?side2 ?side3 ?side4 A4.out).mono ?_); (case side1 => repeat (first | exact HR0.out | (with_reducible refine Kd.C_alloc ?_ _) | (with_reducible refine Kd.C_drewN ?_ _) | (with_reducible refine Kd.C_drew ?_))); (case side2 => exact HC0.out); (case side3 => repeat (first | exact HR1.out | (with_reducible refine Kd.C_alloc ?_ _) | (with_reducible refine Kd.C_drewN ?_ _) | (with_reducible refine Kd.C_drew ?_))); (case side4 => exact HC1.out); rintro e w' ⟨rfl, ⟨nd, rfl⟩⟩; refine ⟨_, rfl, ?_⟩) | ((with_reducible refine gate_callee (f := 18) rfl ?_); refine goesL_ (some 27) rfl rfl Try.func18 (by kernel_rfl) rfl #[.slice A0 l0.length c0, .slice A1 l1.length c1, .int .i64 a2] rfl (by (try simp only [List.map_toArray, List.map_cons, List.map_nil]); first | done | rfl | (simp only [List.length_drop, List.length_take]; rfl)) ?_; (with_reducible refine (align_Match.calls k _ _ l0 _ _ l1 a2 t607 t608 _ ?side1 ?side2 ?side3 ?side4 A8.out).mono ?_); (case side1 => repeat (first | exact HR0.out | (with_reducible refine Kd.C_alloc ?_ _) | (with_reducible refine Kd.C_drewN ?_ _) | (with_reducible refine Kd.C_drew ?_))); (case side2 => exact HC0.out); (case side3 => repeat (first | exact HR1.out | (with_reducible refine Kd.C_alloc ?_ _) | (with_reducible refine Kd.C_drewN ?_ _) | (with_reducible refine Kd.C_drew ?_))); (case side4 => exact HC1.out); rintro e w15 ⟨v609, rfl, ho0, hb⟩; refine ⟨_, rfl, ?_⟩; have n0_ := Aside0.mk (Kd.R_lower ho0 (below_size (by repeat (first | (with_reducible first | exact HB.out | apply below_alloc | apply pw_below_drewN | apply below_drew1) | exact HB.out)))); have n1_ := Aside0.mk (below_step (by repeat (first | (with_reducible first | exact HB.out | apply below_alloc | apply pw_below_drewN | apply below_drew1) | exact HB.out)) hb); clear HB; have HO610 := n0_; have HB := n1_; clear n0_ n1_; (try clear hb); (try clear hb2); (try clear hk); (try clear hi); (try clear ho0); obtain ⟨Ao16, co16, eo16⟩ := Kd.R_slice HO610.out; subst eo16) | ((with_reducible refine gate_callee (f := 24) rfl ?_); refine goesL_ (some 36) rfl rfl Try.func24 (by kernel_rfl) rfl #[.int .i64 (l0.length : Int), .int .i64 (l1.length : Int), .slice Ao16 t607.length co16] rfl (by (try simp only [List.map_toArray, List.map_cons, List.map_nil]); first | done | rfl | (simp only [List.length_drop, List.length_take]; rfl)) ?_; (with_reducible refine (align_Regions.calls k (l0.length : Int) (l1.length : Int) _ _ t607 t611 t612 _ ?side1 ?side2 A9.out).mono ?_); (case side1 => repeat (first | exact (Kd.R_reads' HO610.out).2.2 | (with_reducible refine Kd.C_alloc ?_ _) | (with_reducible refine Kd.C_drewN ?_ _) | (with_reducible refine Kd.C_drew ?_))); (case side2 => exact (Kd.R_reads' HO610.out).2.1); rintro e w17 ⟨v613, rfl, ho0, hb⟩; refine ⟨_, rfl, ?_⟩; have n0_ := Aside0.mk (Kd.R_below (by (with_reducible repeat (first | apply Kd.R_alloc | apply Kd.R_drewN | apply Kd.R_drew)); exact HO610.out) hb); have n1_ := Aside0.mk (Kd.R_lower ho0 (below_size (by repeat (first | (with_reducible first | exact HB.out | apply below_alloc | apply pw_below_drewN | apply below_drew1) | exact HB.out)))); have n2_ := Aside0.mk (below_step (by repeat (first | (with_reducible first | exact HB.out | apply below_alloc | apply pw_below_drewN | apply below_drew1) | exact HB.out)) hb); clear HO610; clear HB; have HO610 := n0_; have HO614 := n1_; have HB := n2_; clear n0_ n1_ n2_; (try clear hb); (try clear hb2); (try clear hk); (try clear hi); (try clear ho0)))
       have n0_ := Aside0.mk (Kd.R_drew HO610.out)
       have n1_ := Aside0.mk (Kd.R_drew HO614.out)
       have n2_ := Aside0.mk (below_drew1 HB.out)
       clear HO610
       clear HO614
       clear HB
       have HO610 := n0_
       have HO614 := n1_
       have HB := n2_
       clear n0_ n1_ n2_
       refine start_ (n := 8) (S := fun w' => True) (ds := []) #[false, false, false, false, false, false, false, false] (by kernel_rfl) rfl rfl trivial (fun hHeld => ?_); refine with_tabW parallaxlaw15_AlignAll.tab7 parallaxlaw15_AlignAll.bits7 (fun HT_ HW_ => ?_)
       generalize w17.drew = w18 at HO610 HO614 HB hHeld ⊢
       refine pure_ (i := 0) (N := some 41) (v := ?_) (a' := ?_) #[true, false, false, false, false, false, false, false] rfl rfl (any_of HT_.out (by kernel_rfl)) (fun _ _ _ h => h) (Or.inl ⟨by rfl, ?_⟩) ?_ ?_
       rotate_left
       ·intro w'
        go_simp
        with_reducible rfl
       rotate_left
       ·simp only [Act.put, List.setIfInBounds_toArray, List.set_cons_zero, List.set_cons_succ, i64_w, i32_w]
        rfl
       refine pure_ (i := 1) (N := some 42) (v := ?_) (a' := ?_) #[true, true, false, false, false, false, false, false] rfl rfl (any_of HT_.out (by kernel_rfl)) (fun _ _ _ h => h) (Or.inl ⟨by rfl, ?_⟩) ?_ ?_
       rotate_left
       ·intro w'
        go_simp
        with_reducible rfl
       rotate_left
       ·simp only [Act.put, List.setIfInBounds_toArray, List.set_cons_zero, List.set_cons_succ, i64_w, i32_w]
        rfl
       refine pure_ (i := 3) (N := some 44) (v := ?_) (a' := ?_) #[true, true, false, true, false, false, false, false] rfl rfl (any_of HT_.out (by kernel_rfl)) (fun _ _ _ h => h) (Or.inl ⟨by rfl, ?_⟩) ?_ ?_
       rotate_left
       ·intro w'
        go_simp
        with_reducible rfl
       rotate_left
       ·simp only [Act.put, List.setIfInBounds_toArray, List.set_cons_zero, List.set_cons_succ, i64_w, i32_w]
        rfl
       refine pure_ (i := 4) (N := some 45) (v := ?_) (a' := ?_) #[true, true, false, true, true, false, false, false] rfl rfl (any_of HT_.out (by kernel_rfl)) (fun _ _ _ h => h) (Or.inl ⟨by rfl, ?_⟩) ?_ ?_
       rotate_left
       ·intro w'
        go_simp
        with_reducible rfl
       rotate_left
       ·simp only [Act.put, List.setIfInBounds_toArray, List.set_cons_zero, List.set_cons_succ, i64_w, i32_w]
        rfl
       refine join_ (σ := Value × Value) 1 #[true, true, true, true, true, true, true, false] (fun s_ => [(43, s_.1), (46, s_.2), (11, s_.1)]) (fun s_ w' => (Kd.R k41 41 w' w.heap.size (fun _ => True) (.slice Ao16 t607.length co16) t607) ∧ (Kd.R k49 49 w' w.heap.size (fun _ => True) v613 t611) ∧ (Kd.R (Kd.int .i64) 3 w' w.heap.size (fun k_ => some k_ ≠ (s_.2 : Value).ownBlock) s_.1 y615) ∧ (Kd.R (Kd.int .i64) 3 w' w.heap.size (fun k_ => some k_ ≠ (s_.1 : Value).ownBlock) s_.2 y618) ∧ (Below w.heap.size w w')) ?_ ?_
       rotate_left
       ·intro hCont
        refine two_ (i := 2) (j := 5) (Ni := some 43) (Nj := some 46) #[true, true, true, true, true, false, false, false] #[true, true, false, true, true, true, false, false] rfl rfl rfl rfl (two_of HT_.out (by kernel_rfl)) (by decide) (by decide) (fun K hK => ?_) (fun K hK => ?_)
        ·skip
         refine Kd.R_make_step (Kd.int .i64) _ 3 (by rfl) (N := 43) rfl 47 _ _ rfl (l0.length : Int) rfl rfl Try.underlying47 (.int .i64 0) 8 info3 rfl (by decide) (by omega) 0 (ok := fun _ => True) (okp := fun _ => True) rfl (fun _ hk => hk) trivial (of_decide_eq_true (by first | (with_reducible assumption) | assumption)) (Nat.le_trans (Nat.mul_le_mul_right _ (of_decide_eq_true (by first | (with_reducible assumption) | assumption) : (l0.length : Int).toNat ≤ 35184372088832)) (by omega)) (Below.refl _ _) (Nat.le_refl _) ?_
         intro v616 w19 ho20 hb hg_ hnew_
         clear hg_ hnew_
         (first | rw [← Ny615.out] at ho20 | (simp only [Int.reduceToNat] at ho20; rw [← Ny615.out] at ho20))
         have n0_ := Aside0.mk (Kd.R_below (by (with_reducible repeat (first | apply Kd.R_alloc | apply Kd.R_drewN | apply Kd.R_drew)); exact HO610.out) hb)
         have n1_ := Aside0.mk (Kd.R_below (by (with_reducible repeat (first | apply Kd.R_alloc | apply Kd.R_drewN | apply Kd.R_drew)); exact HO614.out) hb)
         have n2_ := Aside0.mk (Kd.R_lower ho20 (below_size (by repeat (first | (with_reducible first | exact HB.out | apply below_alloc | apply pw_below_drewN | apply below_drew1) | exact HB.out))))
         have n3_ := Aside0.mk (below_step (by repeat (first | (with_reducible first | exact HB.out | apply below_alloc | apply pw_below_drewN | apply below_drew1) | exact HB.out)) hb)
         clear HO610
         clear HO614
         clear HB
         have HO610 := n0_
         have HO614 := n1_
         have HO617 := n2_
         have HB := n3_
         clear n0_ n1_ n2_ n3_
         clear hb ho20
         refine hK.out _ _ trivial (fun hHeld => ?_)
         clear hK K
         refine norm_ (a' := ?_) ?_ ?_
         rotate_left
         ·show Act.put _ (some 43) _ = _
          simp only [Act.put, List.setIfInBounds_toArray, List.set_cons_zero, List.set_cons_succ, i64_w, i32_w]
          rfl
         refine pure_ (i := 6) (N := some 11) (v := ?_) (a' := ?_) #[true, true, true, true, true, false, true, false] rfl rfl (any_of HT_.out (by kernel_rfl)) (fun _ _ _ h => h) (Or.inl ⟨by rfl, ?_⟩) ?_ ?_
         rotate_left
         ·intro w'
          go_simp
          with_reducible rfl
         rotate_left
         ·simp only [Act.put, List.setIfInBounds_toArray, List.set_cons_zero, List.set_cons_succ, i64_w, i32_w]
          rfl
         refine one_ (i := 5) (N := some 46) #[true, true, true, true, true, true, true, false] rfl rfl (one_of HT_.out (by kernel_rfl)) (by decide) (fun K hK => ?_)
         refine Kd.R_make_step (Kd.int .i64) _ 3 (by rfl) (N := 46) rfl 47 _ _ rfl (l1.length : Int) rfl rfl Try.underlying47 (.int .i64 0) 8 info3 rfl (by decide) (by omega) 0 (ok := fun _ => True) (okp := fun _ => True) rfl (fun _ hk => hk) trivial (of_decide_eq_true (by first | (with_reducible assumption) | assumption)) (Nat.le_trans (Nat.mul_le_mul_right _ (of_decide_eq_true (by first | (with_reducible assumption) | assumption) : (l1.length : Int).toNat ≤ 35184372088832)) (by omega)) (Below.refl _ _) (Nat.le_refl _) ?_
         intro v619 w21 ho22 hb hg_ hnew_
         clear hg_ hnew_
         (first | rw [← Ny618.out] at ho22 | (simp only [Int.reduceToNat] at ho22; rw [← Ny618.out] at ho22))
         have n0_ := Aside0.mk (Kd.R_below (by (with_reducible repeat (first | apply Kd.R_alloc | apply Kd.R_drewN | apply Kd.R_drew)); exact HO610.out) hb)
         have n1_ := Aside0.mk (Kd.R_below (by (with_reducible repeat (first | apply Kd.R_alloc | apply Kd.R_drewN | apply Kd.R_drew)); exact HO614.out) hb)
         have n2_ := Aside0.mk (Kd.R_elder' (by (with_reducible repeat (first | apply Kd.R_alloc | apply Kd.R_drewN | apply Kd.R_drew)); exact HO617.out) (Kd.R_base ho22) hb)
         have n3_ := Aside0.mk (Kd.R_lower (Kd.R_new' ho22 (Kd.R_lt (by (with_reducible repeat (first | apply Kd.R_alloc | apply Kd.R_drewN | apply Kd.R_drew)); exact HO617.out))) (below_size (by repeat (first | (with_reducible first | exact HB.out | apply below_alloc | apply pw_below_drewN | apply below_drew1) | exact HB.out))))
         have n4_ := Aside0.mk (below_step (by repeat (first | (with_reducible first | exact HB.out | apply below_alloc | apply pw_below_drewN | apply below_drew1) | exact HB.out)) hb)
         clear HO610
         clear HO614
         clear HO617
         clear HB
         have HO610 := n0_
         have HO614 := n1_
         have HO617 := n2_
         have HO620 := n3_
         have HB := n4_
         clear n0_ n1_ n2_ n3_ n4_
         clear hb ho22
         refine hK.out _ _ trivial (fun hHeld => ?_)
         clear hK K
         refine norm_ (a' := ?_) ?_ ?_
         rotate_left
         ·show Act.put _ (some 46) _ = _
          simp only [Act.put, List.setIfInBounds_toArray, List.set_cons_zero, List.set_cons_succ, i64_w, i32_w]
          rfl
         exact norm_ (by simp only [putAll, Act.put, List.setIfInBounds_toArray, List.set_cons_zero, List.set_cons_succ]) (hCont (v616, v619) _ ⟨(by (with_reducible repeat (first | apply Kd.R_alloc | apply Kd.R_drewN | apply Kd.R_drew)); exact HO610.out), (by (with_reducible repeat (first | apply Kd.R_alloc | apply Kd.R_drewN | apply Kd.R_drew)); exact HO614.out), (by (with_reducible repeat (first | apply Kd.R_alloc | apply Kd.R_drewN | apply Kd.R_drew)); exact Kd.R_mono HO617.out (fun _ hk => hk.2)), (by (with_reducible repeat (first | apply Kd.R_alloc | apply Kd.R_drewN | apply Kd.R_drew)); exact Kd.R_mono HO620.out (fun _ hk => hk.2)), (by repeat (first | (with_reducible first | exact HB.out | apply below_alloc | apply pw_below_drewN | apply below_drew1) | exact HB.out))⟩)
        ·skip
         refine Kd.R_make_step (Kd.int .i64) _ 3 (by rfl) (N := 46) rfl 47 _ _ rfl (l1.length : Int) rfl rfl Try.underlying47 (.int .i64 0) 8 info3 rfl (by decide) (by omega) 0 (ok := fun _ => True) (okp := fun _ => True) rfl (fun _ hk => hk) trivial (of_decide_eq_true (by first | (with_reducible assumption) | assumption)) (Nat.le_trans (Nat.mul_le_mul_right _ (of_decide_eq_true (by first | (with_reducible assumption) | assumption) : (l1.length : Int).toNat ≤ 35184372088832)) (by omega)) (Below.refl _ _) (Nat.le_refl _) ?_
         intro v619 w19 ho20 hb hg_ hnew_
         clear hg_ hnew_
         (first | rw [← Ny618.out] at ho20 | (simp only [Int.reduceToNat] at ho20; rw [← Ny618.out] at ho20))
         have n0_ := Aside0.mk (Kd.R_below (by (with_reducible repeat (first | apply Kd.R_alloc | apply Kd.R_drewN | apply Kd.R_drew)); exact HO610.out) hb)
         have n1_ := Aside0.mk (Kd.R_below (by (with_reducible repeat (first | apply Kd.R_alloc | apply Kd.R_drewN | apply Kd.R_drew)); exact HO614.out) hb)
         have n2_ := Aside0.mk (Kd.R_lower ho20 (below_size (by repeat (first | (with_reducible first | exact HB.out | apply below_alloc | apply pw_below_drewN | apply below_drew1) | exact HB.out))))
         have n3_ := Aside0.mk (below_step (by repeat (first | (with_reducible first | exact HB.out | apply below_alloc | apply pw_below_drewN | apply below_drew1) | exact HB.out)) hb)
         clear HO610
         clear HO614
         clear HB
         have HO610 := n0_
         have HO614 := n1_
         have HO620 := n2_
         have HB := n3_
         clear n0_ n1_ n2_ n3_
         clear hb ho20
         refine hK.out _ _ trivial (fun hHeld => ?_)
         clear hK K
         refine norm_ (a' := ?_) ?_ ?_
         rotate_left
         ·show Act.put _ (some 46) _ = _
          simp only [Act.put, List.setIfInBounds_toArray, List.set_cons_zero, List.set_cons_succ, i64_w, i32_w]
          rfl
         refine one_ (i := 2) (N := some 43) #[true, true, true, true, true, true, false, false] rfl rfl (one_of HT_.out (by kernel_rfl)) (by decide) (fun K hK => ?_)
         refine Kd.R_make_step (Kd.int .i64) _ 3 (by rfl) (N := 43) rfl 47 _ _ rfl (l0.length : Int) rfl rfl Try.underlying47 (.int .i64 0) 8 info3 rfl (by decide) (by omega) 0 (ok := fun _ => True) (okp := fun _ => True) rfl (fun _ hk => hk) trivial (of_decide_eq_true (by first | (with_reducible assumption) | assumption)) (Nat.le_trans (Nat.mul_le_mul_right _ (of_decide_eq_true (by first | (with_reducible assumption) | assumption) : (l0.length : Int).toNat ≤ 35184372088832)) (by omega)) (Below.refl _ _) (Nat.le_refl _) ?_
         intro v616 w21 ho22 hb hg_ hnew_
         clear hg_ hnew_
         (first | rw [← Ny615.out] at ho22 | (simp only [Int.reduceToNat] at ho22; rw [← Ny615.out] at ho22))
         have n0_ := Aside0.mk (Kd.R_below (by (with_reducible repeat (first | apply Kd.R_alloc | apply Kd.R_drewN | apply Kd.R_drew)); exact HO610.out) hb)
         have n1_ := Aside0.mk (Kd.R_below (by (with_reducible repeat (first | apply Kd.R_alloc | apply Kd.R_drewN | apply Kd.R_drew)); exact HO614.out) hb)
         have n2_ := Aside0.mk (Kd.R_elder' (by (with_reducible repeat (first | apply Kd.R_alloc | apply Kd.R_drewN | apply Kd.R_drew)); exact HO620.out) (Kd.R_base ho22) hb)
         have n3_ := Aside0.mk (Kd.R_lower (Kd.R_new' ho22 (Kd.R_lt (by (with_reducible repeat (first | apply Kd.R_alloc | apply Kd.R_drewN | apply Kd.R_drew)); exact HO620.out))) (below_size (by repeat (first | (with_reducible first | exact HB.out | apply below_alloc | apply pw_below_drewN | apply below_drew1) | exact HB.out))))
         have n4_ := Aside0.mk (below_step (by repeat (first | (with_reducible first | exact HB.out | apply below_alloc | apply pw_below_drewN | apply below_drew1) | exact HB.out)) hb)
         clear HO610
         clear HO614
         clear HO620
         clear HB
         have HO610 := n0_
         have HO614 := n1_
         have HO620 := n2_
         have HO617 := n3_
         have HB := n4_
         clear n0_ n1_ n2_ n3_ n4_
         clear hb ho22
         refine hK.out _ _ trivial (fun hHeld => ?_)
         clear hK K
         refine norm_ (a' := ?_) ?_ ?_
         rotate_left
         ·show Act.put _ (some 43) _ = _
          simp only [Act.put, List.setIfInBounds_toArray, List.set_cons_zero, List.set_cons_succ, i64_w, i32_w]
          rfl
         refine pure_ (i := 6) (N := some 11) (v := ?_) (a' := ?_) #[true, true, true, true, true, true, true, false] rfl rfl (any_of HT_.out (by kernel_rfl)) (fun _ _ _ h => h) (Or.inl ⟨by rfl, ?_⟩) ?_ ?_
         rotate_left
         ·intro w'
          go_simp
          with_reducible rfl
         rotate_left
         ·simp only [Act.put, List.setIfInBounds_toArray, List.set_cons_zero, List.set_cons_succ, i64_w, i32_w]
          rfl
         exact norm_ (by simp only [putAll, Act.put, List.setIfInBounds_toArray, List.set_cons_zero, List.set_cons_succ]) (hCont (v616, v619) _ ⟨(by (with_reducible repeat (first | apply Kd.R_alloc | apply Kd.R_drewN | apply Kd.R_drew)); exact HO610.out), (by (with_reducible repeat (first | apply Kd.R_alloc | apply Kd.R_drewN | apply Kd.R_drew)); exact HO614.out), (by (with_reducible repeat (first | apply Kd.R_alloc | apply Kd.R_drewN | apply Kd.R_drew)); exact Kd.R_mono HO617.out (fun _ hk => hk.2)), (by (with_reducible repeat (first | apply Kd.R_alloc | apply Kd.R_drewN | apply Kd.R_drew)); exact Kd.R_mono HO620.out (fun _ hk => hk.2)), (by repeat (first | (with_reducible first | exact HB.out | apply below_alloc | apply pw_below_drewN | apply below_drew1) | exact HB.out))⟩)
       rintro ⟨v616, v619⟩ w23 ⟨h0_, h1_, h2_, h3_, h4_⟩
       have n0_ : Aside0 (Kd.R k41 41 w23 w.heap.size (fun _ => True) (.slice Ao16 t607.length co16) t607) := ⟨h0_⟩
       have n1_ : Aside0 (Kd.R k49 49 w23 w.heap.size (fun _ => True) v613 t611) := ⟨h1_⟩
       have n2_ : Aside0 (Kd.R (Kd.int .i64) 3 w23 w.heap.size (fun k_ => some k_ ≠ (v619 : Value).ownBlock) v616 y615) := ⟨h2_⟩
       have n3_ : Aside0 (Kd.R (Kd.int .i64) 3 w23 w.heap.size (fun k_ => some k_ ≠ (v616 : Value).ownBlock) v619 y618) := ⟨h3_⟩
       have n4_ : Aside0 (Below w.heap.size w w23) := ⟨h4_⟩
       clear HO610
       clear HO614
       clear HB
       clear h0_ h1_ h2_ h3_ h4_
       have HO610 := n0_
       have HO614 := n1_
       have HO617 := n2_
       have HO620 := n3_
       have HB := n4_
       clear n0_ n1_ n2_ n3_ n4_
       have hHeld := trivial
       refine norm_ (a' := ?_) ?_ ?_
       rotate_left
       ·simp only [putAll, Act.put, List.setIfInBounds_toArray, List.set_cons_zero, List.set_cons_succ]
        rfl
       refine pure_ (i := 7) (N := some 12) (v := ?_) (a' := ?_) #[true, true, true, true, true, true, true, true] rfl rfl (any_of HT_.out (by kernel_rfl)) (fun _ _ _ h => h) (Or.inl ⟨by rfl, ?_⟩) ?_ ?_
       rotate_left
       ·intro w'
        go_simp
        with_reducible rfl
       rotate_left
       ·simp only [Act.put, List.setIfInBounds_toArray, List.set_cons_zero, List.set_cons_succ, i64_w, i32_w]
        rfl
       refine done_ (done_of HT_.out (by kernel_rfl)) ?_
       try go_wp2
       go_loopg [13] k (fun kq v13 w' => ∃ (x11_1 : List Int) (x12_1 : List Int) (x13_1 : Int), v13 = .int .i64 x13_1 ∧ Aside0 (parallaxlaw15_AlignAll.l0 kq l0 l1 t607 t611 x11_1 x12_1 x13_1 = some r) ∧ Aside0 (kq ≤ k) ∧ Aside0 (Kd.R k41 41 w' w.heap.size (fun _ => True) (.slice Ao16 t607.length co16) t607) ∧ Aside0 (Kd.R k49 49 w' w.heap.size (fun _ => True) v613 t611) ∧ Aside0 (Kd.R (Kd.int .i64) 3 w' w.heap.size (fun k_ => some k_ ≠ (v619 : Value).ownBlock) v616 x11_1) ∧ Aside0 (Kd.R (Kd.int .i64) 3 w' w.heap.size (fun k_ => some k_ ≠ (v616 : Value).ownBlock) v619 x12_1) ∧ Aside0 (Below w.heap.size w w'))
       case atStart => exact ⟨(y615), (y618), (0), (by first | rfl | (simp; done) | (simp [*]; done)), H', ⟨Nat.le_refl _⟩, ⟨by (with_reducible repeat (first | apply Kd.R_alloc | apply Kd.R_drewN | apply Kd.R_drew)); exact HO610.out⟩, ⟨by (with_reducible repeat (first | apply Kd.R_alloc | apply Kd.R_drewN | apply Kd.R_drew)); exact HO614.out⟩, ⟨by (with_reducible repeat (first | apply Kd.R_alloc | apply Kd.R_drewN | apply Kd.R_drew)); exact HO617.out⟩, ⟨by (with_reducible repeat (first | apply Kd.R_alloc | apply Kd.R_drewN | apply Kd.R_drew)); exact HO620.out⟩, ⟨by repeat (first | (with_reducible first | exact HB.out | apply below_alloc | apply pw_below_drewN | apply below_drew1) | exact HB.out)⟩⟩
       case round =>
        clear H'
        try clear c1
        try clear c2
        try clear p2
        try clear c5
        try clear c8
        try clear c10
        try clear c10b0
        try clear c10b1
        try clear c11
        try clear c11b0
        try clear c11b1
        try clear c12
        try clear c12b0
        try clear c12b1
        try clear c13
        try clear c13b0
        try clear c13b1
        try clear c14
        try clear c14b0
        try clear c14b1
        try clear c17
        try clear c18
        obtain ⟨x11_1, x12_1, x13_1, rfl, HA, HK1, HO_7, HO_9, HO_11, HO_12, HB⟩ := hrel
        cases gk with
        | zero => exact absurd HA.out (by simp [parallaxlaw15_AlignAll.l0])
        | succ k1 =>
         have H := HA.out
         clear HA
         simp only [parallaxlaw15_AlignAll.l0] at H
         by_cases c24 : x13_1 < (t607.length : Int)
         ·rw [if_pos c24] at H
          have c24b0 : decide (x13_1 < (t607.length : Int)) = true := decide_eq_true c24
          clear c24
          by_cases c25 : 0 ≤ x13_1
          ·rw [if_pos c25] at H
           have c25b0 : decide (0 ≤ x13_1) = true := decide_eq_true c25
           clear c25
           by_cases c26 : 0 ≤ ((rd_T41 t607 x13_1).f0)
           ·rw [if_pos c26] at H
            have c26b0 : decide (0 ≤ ((rd_T41 t607 x13_1).f0)) = true := decide_eq_true c26
            clear c26
            by_cases c27 : ((rd_T41 t607 x13_1).f0) < (x11_1.length : Int)
            ·rw [if_pos c27] at H
             have c27b0 : decide (((rd_T41 t607 x13_1).f0) < (x11_1.length : Int)) = true := decide_eq_true c27
             clear c27
             obtain ⟨y623, hy623⟩ : ∃ y_ : List Int, y_ = (x11_1.set (((rd_T41 t607 x13_1).f0) : Int).toNat (wrap64 ((rd x11_1 ((rd_T41 t607 x13_1).f0)) + 1))) := ⟨_, rfl⟩
             replace H : (if 0 ≤ ((rd_T41 t607 x13_1).f1) then (if ((rd_T41 t607 x13_1).f1) < (x12_1.length : Int) then (parallaxlaw15_AlignAll.l0 k1 l0 l1 t607 t611 y623 (x12_1.set (((rd_T41 t607 x13_1).f1) : Int).toNat (wrap64 ((rd x12_1 ((rd_T41 t607 x13_1).f1)) + 1))) (wrap64 (x13_1 + 1))) else (none)) else (none)) = some r := by first | (rw [hy623]; with_reducible exact H) | (have H2_ := (Option.bind_some _ _).symm.trans H; rw [hy623]; with_reducible exact H2_) | (have H2_ := (Option.bind_some _ _).symm.trans H; with_reducible exact H2_) | with_reducible exact H | (rw [hy623]; exact H) | exact H
             have Ny623 := Aside0.mk hy623
             clear hy623
             by_cases c29 : 0 ≤ ((rd_T41 t607 x13_1).f1)
             ·rw [if_pos c29] at H
              have c29b0 : decide (0 ≤ ((rd_T41 t607 x13_1).f1)) = true := decide_eq_true c29
              clear c29
              by_cases c30 : ((rd_T41 t607 x13_1).f1) < (x12_1.length : Int)
              ·rw [if_pos c30] at H
               have c30b0 : decide (((rd_T41 t607 x13_1).f1) < (x12_1.length : Int)) = true := decide_eq_true c30
               clear c30
               obtain ⟨y626, hy626⟩ : ∃ y_ : List Int, y_ = (x12_1.set (((rd_T41 t607 x13_1).f1) : Int).toNat (wrap64 ((rd x12_1 ((rd_T41 t607 x13_1).f1)) + 1))) := ⟨_, rfl⟩
               replace H : (parallaxlaw15_AlignAll.l0 k1 l0 l1 t607 t611 y623 y626 (wrap64 (x13_1 + 1))) = some r := by first | (rw [hy626]; with_reducible exact H) | (have H2_ := (Option.bind_some _ _).symm.trans H; rw [hy626]; with_reducible exact H2_) | (have H2_ := (Option.bind_some _ _).symm.trans H; with_reducible exact H2_) | with_reducible exact H | (rw [hy626]; exact H) | exact H
               have Ny626 := Aside0.mk hy626
               clear hy626
               have H' := Aside0.mk H
               clear H
               have p621 : 0 ≤ (x13_1 : Int) := of_decide_eq_true (by first | (with_reducible assumption) | assumption)
               have q621 : x13_1 < (t607.length : Int) := of_decide_eq_true (by first | (with_reducible assumption) | assumption)
               obtain ⟨ad621, e621, hx621_0, hx621_1⟩ := at_T41 (Kd.R_reads' HO_7.out).2.2 x13_1 p621 q621
               cases e621
               replace p621 := eq_true p621
               replace q621 := eq_true q621
               obtain ⟨Ao32, co32, eo32⟩ := Kd.R_slice HO_11.out
               subst eo32
               have p622 : 0 ≤ (((rd_T41 t607 x13_1).f0) : Int) := of_decide_eq_true (by first | (with_reducible assumption) | assumption)
               have q622 : ((rd_T41 t607 x13_1).f0) < (x11_1.length : Int) := of_decide_eq_true (by first | (with_reducible assumption) | assumption)
               obtain ⟨ad622, e622, hx622_0⟩ := Kd.at_int (Kd.R_reads' HO_11.out).2.2 ((rd_T41 t607 x13_1).f0) p622 q622
               cases e622
               replace p622 := eq_true p622
               replace q622 := eq_true q622
               have p28 : 0 ≤ (((rd_T41 t607 x13_1).f0) : Int) := of_decide_eq_true (by first | (with_reducible assumption) | assumption)
               have q28 : (((rd_T41 t607 x13_1).f0) : Int) < ((x11_1.length : Int) : Int) := of_decide_eq_true (by first | (with_reducible assumption) | assumption)
               obtain ⟨go28, co28, eo28, gb28, gl28, cl28, HG28⟩ := Kd.R_form HO_11.out (by omega)
               (first | cases eo28 | (injection eo28 with ea_ en_ ec_; (first | subst ea_ | (injection ea_ with ea_; subst ea_)); subst ec_; clear en_))
               have GB28 := Aside0.mk gb28
               have GG28 := Aside0.mk HG28
               clear gb28 gl28 HG28
               (first | simp only [add_plain] at hx622_0 | skip)
               obtain ⟨hx28_0, hf28_0⟩ := Kd.R_celln 0 HO_11.out (((rd_T41 t607 x13_1).f0) : Int) p28 q28
               replace p28 := eq_true p28
               replace q28 := eq_true q28
               have HP33 := Kd.R_putg HO_11.out (((rd_T41 t607 x13_1).f0) : Int) (wrap64 ((rd x11_1 ((rd_T41 t607 x13_1).f0)) + 1))
               go_wp2_with (first | ((with_reducible refine gate_store (t := 3) (p := 62) rfl ?_); refine store_event (t := 3) (p := 62) (v := ?vo_w34) (w1 := (wr.setCell ⟨go28, (((rd_T41 t607 x13_1).f0) : Int).toNat, none⟩ (.int .i64 (wrap64 ((rd x11_1 ((rd_T41 t607 x13_1).f0)) + 1))))) ?hg ?ho ?hn ?hr ?_; (case ho => rfl); (case hg => rfl); (case hn => rfl); (case hr => first | (go_simp; done) | (go_simp; rfl)); intro w34 hw; have hg : wr.grownBy w34 (some go28) := (by rw [hw]; exact HP33.2); have hp_ : Kd.R (Kd.int .i64) 3 w34 w.heap.size (fun k_ => some k_ ≠ (v619 : Value).ownBlock) (.slice (some ⟨go28, 0, none⟩) x11_1.length co32) y623 := (by rw [hw, Ny623.out]; exact HP33.1); clear HP33; have n0_ := Aside0.mk (Kd.R_over' (v := (.slice (some ⟨go28, 0, none⟩) x11_1.length co32)) (by (with_reducible repeat (first | apply Kd.R_alloc | apply Kd.R_drewN | apply Kd.R_drew)); exact HO_7.out) (Kd.R_typed HO_11.out) (by decide) hg); have n1_ := Aside0.mk (Kd.R_over' (v := (.slice (some ⟨go28, 0, none⟩) x11_1.length co32)) (by (with_reducible repeat (first | apply Kd.R_alloc | apply Kd.R_drewN | apply Kd.R_drew)); exact HO_9.out) (Kd.R_typed HO_11.out) (by decide) hg); have n2_ := Aside0.mk (hp_); have n3_ := Aside0.mk (Kd.R_after (v := (.slice (some ⟨go28, 0, none⟩) x11_1.length co32)) (v1 := (.slice (some ⟨go28, 0, none⟩) x11_1.length co32)) (ok := (fun _ => True)) (by (with_reducible repeat (first | apply Kd.R_alloc | apply Kd.R_drewN | apply Kd.R_drew)); exact Kd.R_mono HO_12.out (fun _ hk => ⟨trivial, hk⟩)) hg (.inl rfl)); have n4_ := Aside0.mk ((by rw [hw]; exact below_set (HB.out) GB28.out : Below w.heap.size w w34)); clear HO_7; clear HO_9; clear HO_11; clear HO_12; clear HB; have HO_7 := n0_; have HO_9 := n1_; have HO_11 := n2_; have HO_12 := n3_; have HB := n4_; clear n0_ n1_ n2_ n3_ n4_; clear hg hw hp_; have p624 : 0 ≤ (x13_1 : Int) := of_decide_eq_true (by first | (with_reducible assumption) | assumption); have q624 : x13_1 < (t607.length : Int) := of_decide_eq_true (by first | (with_reducible assumption) | assumption); obtain ⟨ad624, e624, hx624_0, hx624_1⟩ := at_T41 (Kd.R_reads' HO_7.out).2.2 x13_1 p624 q624; obtain rfl : ad621 = ad624 := (by injection e624); replace p624 := eq_true p624; replace q624 := eq_true q624; obtain ⟨Ao35, co35, eo35⟩ := Kd.R_slice HO_12.out; subst eo35; have p625 : 0 ≤ (((rd_T41 t607 x13_1).f1) : Int) := of_decide_eq_true (by first | (with_reducible assumption) | assumption); have q625 : ((rd_T41 t607 x13_1).f1) < (x12_1.length : Int) := of_decide_eq_true (by first | (with_reducible assumption) | assumption); obtain ⟨ad625, e625, hx625_0⟩ := Kd.at_int (Kd.R_reads' HO_12.out).2.2 ((rd_T41 t607 x13_1).f1) p625 q625; cases e625; replace p625 := eq_true p625; replace q625 := eq_true q625; have p31 : 0 ≤ (((rd_T41 t607 x13_1).f1) : Int) := of_decide_eq_true (by first | (with_reducible assumption) | assumption); have q31 : (((rd_T41 t607 x13_1).f1) : Int) < ((x12_1.length : Int) : Int) := of_decide_eq_true (by first | (with_reducible assumption) | assumption); obtain ⟨go31, co31, eo31, gb31, gl31, cl31, HG31⟩ := Kd.R_form HO_12.out (by omega); (first | cases eo31 | (injection eo31 with ea_ en_ ec_; (first | subst ea_ | (injection ea_ with ea_; subst ea_)); subst ec_; clear en_)); have GB31 := Aside0.mk gb31; have GG31 := Aside0.mk HG31; clear gb31 gl31 HG31; (first | simp only [add_plain] at hx625_0 | skip); obtain ⟨hx31_0, hf31_0⟩ := Kd.R_celln 0 HO_12.out (((rd_T41 t607 x13_1).f1) : Int) p31 q31; replace p31 := eq_true p31; replace q31 := eq_true q31; have n_ := Aside0.mk (Kd.R_mono (ok' := (fun k_ => some k_ ≠ (.slice (some ⟨go28, 0, none⟩) x11_1.length co32 : Value).ownBlock)) HO_12.out (fun k_ hk => hk.2)); clear HO_12; have HO_12 := n_; clear n_; obtain ⟨hy36_, hz36_⟩ := Kd.R_celln 0 HO_12.out (((rd_T41 t607 x13_1).f1) : Int) (of_decide_eq_true (by first | (with_reducible assumption) | assumption)) (of_decide_eq_true (by first | (with_reducible assumption) | assumption)); have HP36 := Kd.R_putg HO_12.out (((rd_T41 t607 x13_1).f1) : Int) (wrap64 ((rd x12_1 ((rd_T41 t607 x13_1).f1)) + 1))) | ((with_reducible refine gate_store (t := 3) (p := 72) rfl ?_); refine store_event (t := 3) (p := 72) (v := ?vo_w37) (w1 := (w34.setCell ⟨go31, (((rd_T41 t607 x13_1).f1) : Int).toNat, none⟩ (.int .i64 (wrap64 ((rd x12_1 ((rd_T41 t607 x13_1).f1)) + 1))))) ?hg ?ho ?hn ?hr ?_; (case ho => rfl); (case hg => rfl); (case hn => rfl); (case hr => first | (go_simp; done) | (go_simp; rfl)); intro w37 hw; have hg : w34.grownBy w37 (some go31) := (by rw [hw]; exact HP36.2); have hp_ : Kd.R (Kd.int .i64) 3 w37 w.heap.size (fun k_ => some k_ ≠ (.slice (some ⟨go28, 0, none⟩) x11_1.length co32 : Value).ownBlock) (.slice (some ⟨go31, 0, none⟩) x12_1.length co35) y626 := (by rw [hw, Ny626.out]; exact HP36.1); clear HP36; have n0_ := Aside0.mk (Kd.R_over' (v := (.slice (some ⟨go31, 0, none⟩) x12_1.length co35)) (by (with_reducible repeat (first | apply Kd.R_alloc | apply Kd.R_drewN | apply Kd.R_drew)); exact HO_7.out) (Kd.R_typed HO_12.out) (by decide) hg); have n1_ := Aside0.mk (Kd.R_over' (v := (.slice (some ⟨go31, 0, none⟩) x12_1.length co35)) (by (with_reducible repeat (first | apply Kd.R_alloc | apply Kd.R_drewN | apply Kd.R_drew)); exact HO_9.out) (Kd.R_typed HO_12.out) (by decide) hg); have n2_ := Aside0.mk (Kd.R_after (v := (.slice (some ⟨go31, 0, none⟩) x12_1.length co35)) (v1 := (.slice (some ⟨go31, 0, none⟩) x12_1.length co35)) (ok := (fun _ => True)) (by (with_reducible repeat (first | apply Kd.R_alloc | apply Kd.R_drewN | apply Kd.R_drew)); exact Kd.R_mono HO_11.out (fun _ hk => ⟨trivial, hk⟩)) hg (.inl rfl)); have n3_ := Aside0.mk (hp_); have n4_ := Aside0.mk ((by rw [hw]; exact below_set (HB.out) GB31.out : Below w.heap.size w w37)); clear HO_7; clear HO_9; clear HO_11; clear HO_12; clear HB; have HO_7 := n0_; have HO_9 := n1_; have HO_11 := n2_; have HO_12 := n3_; have HB := n4_; clear n0_ n1_ n2_ n3_ n4_; clear hg hw hp_))
               go_roundg k1
               case measure => have := HK1.out; omega
               case rel => exact ⟨(y623), (y626), (wrap64 (x13_1 + 1)), (by first | rfl | (simp; done) | (simp [*]; done)), H', ⟨by have := HK1.out; omega⟩, ⟨by (with_reducible repeat (first | apply Kd.R_alloc | apply Kd.R_drewN | apply Kd.R_drew)); exact HO_7.out⟩, ⟨by (with_reducible repeat (first | apply Kd.R_alloc | apply Kd.R_drewN | apply Kd.R_drew)); exact HO_9.out⟩, ⟨by (with_reducible repeat (first | apply Kd.R_alloc | apply Kd.R_drewN | apply Kd.R_drew)); exact Kd.R_mono HO_11.out (fun _ hk => hk.2)⟩, ⟨by (with_reducible repeat (first | apply Kd.R_alloc | apply Kd.R_drewN | apply Kd.R_drew)); exact HO_12.out⟩, ⟨by repeat (first | (with_reducible first | exact HB.out | apply below_alloc | apply pw_below_drewN | apply below_drew1) | exact HB.out)⟩⟩
              ·rw [if_neg c30] at H
               exact absurd H (by simp)
             ·rw [if_neg c29] at H
              exact absurd H (by simp)
            ·rw [if_neg c27] at H
             exact absurd H (by simp)
           ·rw [if_neg c26] at H
            exact absurd H (by simp)
          ·rw [if_neg c25] at H
           exact absurd H (by simp)
         ·rw [if_neg c24] at H
          have c24b0 : decide (x13_1 < (t607.length : Int)) = false := decide_eq_false c24
          clear c24
          have H' := Aside0.mk H
          clear H
          go_wp2
          go_loopg [14] k1 (fun kq v14 w' => ∃ (x11_2 : List Int) (x12_2 : List Int) (x14_2 : Int), v14 = .int .i64 x14_2 ∧ Aside0 (parallaxlaw15_AlignAll.l1 kq l0 l1 t611 x11_2 x12_2 x14_2 = some r) ∧ Aside0 (kq ≤ k1) ∧ Aside0 (Kd.R k49 49 w' w.heap.size (fun _ => True) v613 t611) ∧ Aside0 (Kd.R (Kd.int .i64) 3 w' w.heap.size (fun k_ => some k_ ≠ (v619 : Value).ownBlock) v616 x11_2) ∧ Aside0 (Kd.R (Kd.int .i64) 3 w' w.heap.size (fun k_ => some k_ ≠ (v616 : Value).ownBlock) v619 x12_2) ∧ Aside0 (Below w.heap.size w w'))
          case atStart => exact ⟨(x11_1), (x12_1), (0), (by first | rfl | (simp; done) | (simp [*]; done)), H', ⟨Nat.le_refl _⟩, ⟨by (with_reducible repeat (first | apply Kd.R_alloc | apply Kd.R_drewN | apply Kd.R_drew)); exact HO_9.out⟩, ⟨by (with_reducible repeat (first | apply Kd.R_alloc | apply Kd.R_drewN | apply Kd.R_drew)); exact HO_11.out⟩, ⟨by (with_reducible repeat (first | apply Kd.R_alloc | apply Kd.R_drewN | apply Kd.R_drew)); exact HO_12.out⟩, ⟨by repeat (first | (with_reducible first | exact HB.out | apply below_alloc | apply pw_below_drewN | apply below_drew1) | exact HB.out)⟩⟩
          case round =>
           clear H'
           try clear c1
           try clear c2
           try clear p2
           try clear q2
           try clear hx2
           try clear c3
           try clear p3
           try clear q3
           try clear hx3
           try clear hf3
           try clear c5
           try clear p6
           try clear q6
           try clear hx6
           try clear c8
           try clear c10
           try clear c10b0
           try clear c10b1
           try clear c11
           try clear c11b0
           try clear c11b1
           try clear c12
           try clear c12b0
           try clear c12b1
           try clear c13
           try clear c13b0
           try clear c13b1
           try clear c14
           try clear c14b0
           try clear c14b1
           try clear c17
           try clear c18
           try clear c24
           try clear c24b0
           try clear c25
           try clear c25b0
           try clear c26
           try clear c26b0
           try clear c27
           try clear c27b0
           try clear p28
           try clear q28
           try clear hx28
           try clear hf28
           try clear c29
           try clear c29b0
           try clear c30
           try clear c30b0
           try clear p31
           try clear q31
           try clear hx31
           try clear hf31
           try clear hx28_0
           try clear hx31_0
           try clear hx621_0
           try clear hx621_1
           try clear hx622_0
           try clear hx624_0
           try clear hx624_1
           try clear hx625_0
           try clear p2
           try clear p28
           try clear p31
           try clear p621
           try clear p622
           try clear p624
           try clear p625
           try clear q28
           try clear q31
           try clear q621
           try clear q622
           try clear q624
           try clear q625
           obtain ⟨x11_2, x12_2, x14_2, rfl, HA, HK2, HO_9, HO_11, HO_12, HB⟩ := hrel
           cases gk with
           | zero => exact absurd HA.out (by simp [parallaxlaw15_AlignAll.l1])
           | succ k2 =>
            have H := HA.out
            clear HA
            simp only [parallaxlaw15_AlignAll.l1] at H
            by_cases c38 : x14_2 < (t611.length : Int)
            ·rw [if_pos c38] at H
             have c38b0 : decide (x14_2 < (t611.length : Int)) = true := decide_eq_true c38
             clear c38
             have HC39 := Aside0.mk H
             clear H
             obtain ⟨Ao40, co40, eo40⟩ := Kd.R_slice HO_9.out
             subst eo40
             go_upto_region 16 with (fail)
             go_cut [112] (fun v112 wc => ∃ (kq : Nat) (x112_38 : Bool), v112 = .bool x112_38 ∧ Aside0 (parallaxlaw15_AlignAll.j2 kq l0 l1 t611 x11_2 x12_2 x14_2 x112_38 = some r) ∧ Aside0 (kq ≤ k2) ∧ Aside0 (Kd.R k49 49 wc w.heap.size (fun _ => True) (.slice Ao40 t611.length co40) t611) ∧ Aside0 (Kd.R (Kd.int .i64) 3 wc w.heap.size (fun k_ => some k_ ≠ (v619 : Value).ownBlock) v616 x11_2) ∧ Aside0 (Kd.R (Kd.int .i64) 3 wc w.heap.size (fun k_ => some k_ ≠ (v616 : Value).ownBlock) v619 x12_2) ∧ Aside0 (Below w.heap.size w wc))
             case first =>
              have H := HC39.out
              clear HC39
              by_cases c41 : 0 ≤ x14_2
              ·rw [if_pos c41] at H
               have c41b0 : decide (0 ≤ x14_2) = true := decide_eq_true c41
               clear c41
               (first | rw [c41b0] | (simp only [i64_w, i32_w]; rw [c41b0]) | skip)
               by_cases c42 : ((rd_T49 t611 x14_2).f0) < 0
               ·rw [if_pos c42] at H
                have c42b0 : decide (((rd_T49 t611 x14_2).f0) < 0) = true := decide_eq_true c42
                clear c42
                have H' := Aside0.mk H
                clear H
                have p627 : 0 ≤ (x14_2 : Int) := of_decide_eq_true (by first | (with_reducible assumption) | assumption)
                have q627 : x14_2 < (t611.length : Int) := of_decide_eq_true (by first | (with_reducible assumption) | assumption)
                obtain ⟨ad627, e627, hx627_0, hx627_1, hx627_2, hx627_3⟩ := at_T49 (Kd.R_reads' HO_9.out).2.2 x14_2 p627 q627
                cases e627
                replace p627 := eq_true p627
                replace q627 := eq_true q627
                go_wp2
                go_meet
                case rel => exact ⟨_, (true), (by first | rfl | (simp; done) | (simp [*]; done)), H', ⟨by have := HK1.out; have := HK2.out; first | omega | exact Nat.le_refl _⟩, ⟨by (with_reducible repeat (first | apply Kd.R_alloc | apply Kd.R_drewN | apply Kd.R_drew)); exact HO_9.out⟩, ⟨by (with_reducible repeat (first | apply Kd.R_alloc | apply Kd.R_drewN | apply Kd.R_drew)); exact HO_11.out⟩, ⟨by (with_reducible repeat (first | apply Kd.R_alloc | apply Kd.R_drewN | apply Kd.R_drew)); exact HO_12.out⟩, ⟨by repeat (first | (with_reducible first | exact HB.out | apply below_alloc | apply pw_below_drewN | apply below_drew1) | exact HB.out)⟩⟩
               ·rw [if_neg c42] at H
                have c42b0 : decide (((rd_T49 t611 x14_2).f0) < 0) = false := decide_eq_false c42
                clear c42
                by_cases c43 : ((rd_T49 t611 x14_2).f1) > (l0.length : Int)
                ·rw [if_pos c43] at H
                 have c43b0 : decide ((l0.length : Int) < ((rd_T49 t611 x14_2).f1)) = true := decide_eq_true c43
                 clear c43
                 have H' := Aside0.mk H
                 clear H
                 have p627 : 0 ≤ (x14_2 : Int) := of_decide_eq_true (by first | (with_reducible assumption) | assumption)
                 have q627 : x14_2 < (t611.length : Int) := of_decide_eq_true (by first | (with_reducible assumption) | assumption)
                 obtain ⟨ad627, e627, hx627_0, hx627_1, hx627_2, hx627_3⟩ := at_T49 (Kd.R_reads' HO_9.out).2.2 x14_2 p627 q627
                 cases e627
                 replace p627 := eq_true p627
                 replace q627 := eq_true q627
                 have p628 : 0 ≤ (x14_2 : Int) := of_decide_eq_true (by first | (with_reducible assumption) | assumption)
                 have q628 : x14_2 < (t611.length : Int) := of_decide_eq_true (by first | (with_reducible assumption) | assumption)
                 obtain ⟨ad628, e628, hx628_0, hx628_1, hx628_2, hx628_3⟩ := at_T49 (Kd.R_reads' HO_9.out).2.2 x14_2 p628 q628
                 obtain rfl : ad627 = ad628 := (by injection e628)
                 replace p628 := eq_true p628
                 replace q628 := eq_true q628
                 go_wp2
                 go_meet
                 case rel => exact ⟨_, (true), (by first | rfl | (simp; done) | (simp [*]; done)), H', ⟨by have := HK1.out; have := HK2.out; first | omega | exact Nat.le_refl _⟩, ⟨by (with_reducible repeat (first | apply Kd.R_alloc | apply Kd.R_drewN | apply Kd.R_drew)); exact HO_9.out⟩, ⟨by (with_reducible repeat (first | apply Kd.R_alloc | apply Kd.R_drewN | apply Kd.R_drew)); exact HO_11.out⟩, ⟨by (with_reducible repeat (first | apply Kd.R_alloc | apply Kd.R_drewN | apply Kd.R_drew)); exact HO_12.out⟩, ⟨by repeat (first | (with_reducible first | exact HB.out | apply below_alloc | apply pw_below_drewN | apply below_drew1) | exact HB.out)⟩⟩
                ·rw [if_neg c43] at H
                 have c43b0 : decide ((l0.length : Int) < ((rd_T49 t611 x14_2).f1)) = false := decide_eq_false c43
                 clear c43
                 by_cases c44 : ((rd_T49 t611 x14_2).f2) < 0
                 ·rw [if_pos c44] at H
                  have c44b0 : decide (((rd_T49 t611 x14_2).f2) < 0) = true := decide_eq_true c44
                  clear c44
                  have H' := Aside0.mk H
                  clear H
                  have p627 : 0 ≤ (x14_2 : Int) := of_decide_eq_true (by first | (with_reducible assumption) | assumption)
                  have q627 : x14_2 < (t611.length : Int) := of_decide_eq_true (by first | (with_reducible assumption) | assumption)
                  obtain ⟨ad627, e627, hx627_0, hx627_1, hx627_2, hx627_3⟩ := at_T49 (Kd.R_reads' HO_9.out).2.2 x14_2 p627 q627
                  cases e627
                  replace p627 := eq_true p627
                  replace q627 := eq_true q627
                  have p628 : 0 ≤ (x14_2 : Int) := of_decide_eq_true (by first | (with_reducible assumption) | assumption)
                  have q628 : x14_2 < (t611.length : Int) := of_decide_eq_true (by first | (with_reducible assumption) | assumption)
                  obtain ⟨ad628, e628, hx628_0, hx628_1, hx628_2, hx628_3⟩ := at_T49 (Kd.R_reads' HO_9.out).2.2 x14_2 p628 q628
                  obtain rfl : ad627 = ad628 := (by injection e628)
                  replace p628 := eq_true p628
                  replace q628 := eq_true q628
                  have p629 : 0 ≤ (x14_2 : Int) := of_decide_eq_true (by first | (with_reducible assumption) | assumption)
                  have q629 : x14_2 < (t611.length : Int) := of_decide_eq_true (by first | (with_reducible assumption) | assumption)
                  obtain ⟨ad629, e629, hx629_0, hx629_1, hx629_2, hx629_3⟩ := at_T49 (Kd.R_reads' HO_9.out).2.2 x14_2 p629 q629
                  obtain rfl : ad627 = ad629 := (by injection e629)
                  replace p629 := eq_true p629
                  replace q629 := eq_true q629
                  go_wp2
                  go_meet
                  case rel => exact ⟨_, (true), (by first | rfl | (simp; done) | (simp [*]; done)), H', ⟨by have := HK1.out; have := HK2.out; first | omega | exact Nat.le_refl _⟩, ⟨by (with_reducible repeat (first | apply Kd.R_alloc | apply Kd.R_drewN | apply Kd.R_drew)); exact HO_9.out⟩, ⟨by (with_reducible repeat (first | apply Kd.R_alloc | apply Kd.R_drewN | apply Kd.R_drew)); exact HO_11.out⟩, ⟨by (with_reducible repeat (first | apply Kd.R_alloc | apply Kd.R_drewN | apply Kd.R_drew)); exact HO_12.out⟩, ⟨by repeat (first | (with_reducible first | exact HB.out | apply below_alloc | apply pw_below_drewN | apply below_drew1) | exact HB.out)⟩⟩
                 ·rw [if_neg c44] at H
                  have c44b0 : decide (((rd_T49 t611 x14_2).f2) < 0) = false := decide_eq_false c44
                  clear c44
                  have H' := Aside0.mk H
                  clear H
                  have p627 : 0 ≤ (x14_2 : Int) := of_decide_eq_true (by first | (with_reducible assumption) | assumption)
                  have q627 : x14_2 < (t611.length : Int) := of_decide_eq_true (by first | (with_reducible assumption) | assumption)
                  obtain ⟨ad627, e627, hx627_0, hx627_1, hx627_2, hx627_3⟩ := at_T49 (Kd.R_reads' HO_9.out).2.2 x14_2 p627 q627
                  cases e627
                  replace p627 := eq_true p627
                  replace q627 := eq_true q627
                  have p628 : 0 ≤ (x14_2 : Int) := of_decide_eq_true (by first | (with_reducible assumption) | assumption)
                  have q628 : x14_2 < (t611.length : Int) := of_decide_eq_true (by first | (with_reducible assumption) | assumption)
                  obtain ⟨ad628, e628, hx628_0, hx628_1, hx628_2, hx628_3⟩ := at_T49 (Kd.R_reads' HO_9.out).2.2 x14_2 p628 q628
                  obtain rfl : ad627 = ad628 := (by injection e628)
                  replace p628 := eq_true p628
                  replace q628 := eq_true q628
                  have p629 : 0 ≤ (x14_2 : Int) := of_decide_eq_true (by first | (with_reducible assumption) | assumption)
                  have q629 : x14_2 < (t611.length : Int) := of_decide_eq_true (by first | (with_reducible assumption) | assumption)
                  obtain ⟨ad629, e629, hx629_0, hx629_1, hx629_2, hx629_3⟩ := at_T49 (Kd.R_reads' HO_9.out).2.2 x14_2 p629 q629
                  obtain rfl : ad627 = ad629 := (by injection e629)
                  replace p629 := eq_true p629
                  replace q629 := eq_true q629
                  have p630 : 0 ≤ (x14_2 : Int) := of_decide_eq_true (by first | (with_reducible assumption) | assumption)
                  have q630 : x14_2 < (t611.length : Int) := of_decide_eq_true (by first | (with_reducible assumption) | assumption)
                  obtain ⟨ad630, e630, hx630_0, hx630_1, hx630_2, hx630_3⟩ := at_T49 (Kd.R_reads' HO_9.out).2.2 x14_2 p630 q630
                  obtain rfl : ad627 = ad630 := (by injection e630)
                  replace p630 := eq_true p630
                  replace q630 := eq_true q630
                  go_wp2
                  go_meet
                  case rel => exact ⟨_, (decide (((rd_T49 t611 x14_2).f3) > (l1.length : Int))), (by first | rfl | (simp; done) | (simp [*]; done)), H', ⟨by have := HK1.out; have := HK2.out; first | omega | exact Nat.le_refl _⟩, ⟨by (with_reducible repeat (first | apply Kd.R_alloc | apply Kd.R_drewN | apply Kd.R_drew)); exact HO_9.out⟩, ⟨by (with_reducible repeat (first | apply Kd.R_alloc | apply Kd.R_drewN | apply Kd.R_drew)); exact HO_11.out⟩, ⟨by (with_reducible repeat (first | apply Kd.R_alloc | apply Kd.R_drewN | apply Kd.R_drew)); exact HO_12.out⟩, ⟨by repeat (first | (with_reducible first | exact HB.out | apply below_alloc | apply pw_below_drewN | apply below_drew1) | exact HB.out)⟩⟩
              ·rw [if_neg c41] at H
               exact absurd H (by simp)
             case rest =>
              clear HC39
              try clear c1
              try clear c2
              try clear p2
              try clear q2
              try clear hx2
              try clear c3
              try clear p3
              try clear q3
              try clear hx3
              try clear hf3
              try clear c4
              try clear c5
              try clear p6
              try clear q6
              try clear hx6
              try clear c8
              try clear c10
              try clear c10b0
              try clear c10b1
              try clear c11
              try clear c11b0
              try clear c11b1
              try clear c12
              try clear c12b0
              try clear c12b1
              try clear c13
              try clear c13b0
              try clear c13b1
              try clear c14
              try clear c14b0
              try clear c14b1
              try clear c17
              try clear c18
              try clear c24
              try clear c24b0
              try clear c25
              try clear c25b0
              try clear c26
              try clear c26b0
              try clear c27
              try clear c27b0
              try clear p28
              try clear q28
              try clear hx28
              try clear hf28
              try clear c29
              try clear c29b0
              try clear c30
              try clear c30b0
              try clear p31
              try clear q31
              try clear hx31
              try clear hf31
              try clear c38
              try clear c38b0
              try clear c41
              try clear c41b0
              try clear c42
              try clear c42b0
              try clear c43
              try clear c43b0
              try clear c44
              try clear c44b0
              try clear hx28_0
              try clear hx31_0
              try clear hx621_0
              try clear hx621_1
              try clear hx622_0
              try clear hx624_0
              try clear hx624_1
              try clear hx625_0
              try clear hx627_0
              try clear hx627_1
              try clear hx627_2
              try clear hx627_3
              try clear hx628_0
              try clear hx628_1
              try clear hx628_2
              try clear hx628_3
              try clear hx629_0
              try clear hx629_1
              try clear hx629_2
              try clear hx629_3
              try clear hx630_0
              try clear hx630_1
              try clear hx630_2
              try clear hx630_3
              try clear p2
              try clear p28
              try clear p3
              try clear p31
              try clear p6
              try clear p621
              try clear p622
              try clear p624
              try clear p625
              try clear p627
              try clear p628
              try clear p629
              try clear p630
              try clear q2
              try clear q28
              try clear q3
              try clear q31
              try clear q6
              try clear q621
              try clear q622
              try clear q624
              try clear q625
              try clear q627
              try clear q628
              try clear q629
              try clear q630
              obtain ⟨kq, x112_38, rfl, HA, HJ38, HO_9, HO_11, HO_12, HB⟩ := hcut
              cases kq with
              | zero => exact absurd HA.out (by simp [parallaxlaw15_AlignAll.j2])
              | succ kj38 =>
               have H := HA.out
               clear HA
               simp only [parallaxlaw15_AlignAll.j2] at H
               by_cases c45 : x112_38 = true
               ·subst c45
                have H1 : (some false) = some r := by rw [if_pos rfl] at H; exact H
                clear H
                have H := H1
                clear H1
                obtain rfl := Option.some.inj H
                go_wp2
                go_ret
                exact ⟨by first | rfl | (simp [errW_none, errW_some] <;> rfl) | (simp [*, errW_none, errW_some] <;> rfl), by repeat (first | (with_reducible first | exact HB.out | apply below_alloc | apply pw_below_drewN | apply below_drew1) | exact HB.out)⟩
               ·replace c45 := Bool.eq_false_iff.mpr c45
                subst c45
                have H1 : (if 0 ≤ x14_2 then (if x14_2 < (t611.length : Int) then (parallaxlaw15_AlignAll.l2 kj38 l0 l1 t611 x11_2 x12_2 x14_2 ((rd_T49 t611 x14_2).f0)) else (none)) else (none)) = some r := by rw [if_neg (show ¬ (false = true) by decide)] at H; exact H
                clear H
                have H := H1
                clear H1
                by_cases c46 : 0 ≤ x14_2
                ·rw [if_pos c46] at H
                 have c46b0 : decide (0 ≤ x14_2) = true := decide_eq_true c46
                 clear c46
                 by_cases c47 : x14_2 < (t611.length : Int)
                 ·rw [if_pos c47] at H
                  have c47b0 : decide (x14_2 < (t611.length : Int)) = true := decide_eq_true c47
                  clear c47
                  have H' := Aside0.mk H
                  clear H
                  have p631 : 0 ≤ (x14_2 : Int) := of_decide_eq_true (by first | (with_reducible assumption) | assumption)
                  have q631 : x14_2 < (t611.length : Int) := of_decide_eq_true (by first | (with_reducible assumption) | assumption)
                  obtain ⟨ad631, e631, hx631_0, hx631_1, hx631_2, hx631_3⟩ := at_T49 (Kd.R_reads' HO_9.out).2.2 x14_2 p631 q631
                  cases e631
                  replace p631 := eq_true p631
                  replace q631 := eq_true q631
                  go_wp2
                  go_loopg [15] kj38 (fun kq v15 w' => ∃ (x11_4 : List Int) (x15_4 : Int), v15 = .int .i64 x15_4 ∧ Aside0 (parallaxlaw15_AlignAll.l2 kq l0 l1 t611 x11_4 x12_2 x14_2 x15_4 = some r) ∧ Aside0 (kq ≤ kj38) ∧ Aside0 (Kd.R k49 49 w' w.heap.size (fun _ => True) (.slice (some ad631) t611.length co40) t611) ∧ Aside0 (Kd.R (Kd.int .i64) 3 w' w.heap.size (fun k_ => some k_ ≠ (v619 : Value).ownBlock) v616 x11_4) ∧ Aside0 (Kd.R (Kd.int .i64) 3 w' w.heap.size (fun k_ => some k_ ≠ (v616 : Value).ownBlock) v619 x12_2) ∧ Aside0 (Below w.heap.size w w'))
                  case atStart => exact ⟨(x11_2), ((rd_T49 t611 x14_2).f0), (by first | rfl | (simp; done) | (simp [*]; done)), H', ⟨Nat.le_refl _⟩, ⟨by (with_reducible repeat (first | apply Kd.R_alloc | apply Kd.R_drewN | apply Kd.R_drew)); exact HO_9.out⟩, ⟨by (with_reducible repeat (first | apply Kd.R_alloc | apply Kd.R_drewN | apply Kd.R_drew)); exact HO_11.out⟩, ⟨by (with_reducible repeat (first | apply Kd.R_alloc | apply Kd.R_drewN | apply Kd.R_drew)); exact HO_12.out⟩, ⟨by repeat (first | (with_reducible first | exact HB.out | apply below_alloc | apply pw_below_drewN | apply below_drew1) | exact HB.out)⟩⟩
                  case round =>
                   clear H'
                   try clear c1
                   try clear c2
                   try clear p2
                   try clear q2
                   try clear hx2
                   try clear c3
                   try clear p3
                   try clear q3
                   try clear hx3
                   try clear hf3
                   try clear c4
                   try clear c5
                   try clear p6
                   try clear q6
                   try clear hx6
                   try clear c8
                   try clear c10
                   try clear c10b0
                   try clear c10b1
                   try clear c11
                   try clear c11b0
                   try clear c11b1
                   try clear c12
                   try clear c12b0
                   try clear c12b1
                   try clear c13
                   try clear c13b0
                   try clear c13b1
                   try clear c14
                   try clear c14b0
                   try clear c14b1
                   try clear c17
                   try clear c18
                   try clear c24
                   try clear c24b0
                   try clear c25
                   try clear c25b0
                   try clear c26
                   try clear c26b0
                   try clear c27
                   try clear c27b0
                   try clear p28
                   try clear q28
                   try clear hx28
                   try clear hf28
                   try clear c29
                   try clear c29b0
                   try clear c30
                   try clear c30b0
                   try clear p31
                   try clear q31
                   try clear hx31
                   try clear hf31
                   try clear c38
                   try clear c38b0
                   try clear c41
                   try clear c41b0
                   try clear c42
                   try clear c42b0
                   try clear c43
                   try clear c43b0
                   try clear c44
                   try clear c44b0
                   try clear c45
                   try clear c46
                   try clear c46b0
                   try clear c47
                   try clear c47b0
                   try clear hx28_0
                   try clear hx31_0
                   try clear hx621_0
                   try clear hx621_1
                   try clear hx622_0
                   try clear hx624_0
                   try clear hx624_1
                   try clear hx625_0
                   try clear hx627_0
                   try clear hx627_1
                   try clear hx627_2
                   try clear hx627_3
                   try clear hx628_0
                   try clear hx628_1
                   try clear hx628_2
                   try clear hx628_3
                   try clear hx629_0
                   try clear hx629_1
                   try clear hx629_2
                   try clear hx629_3
                   try clear hx630_0
                   try clear hx630_1
                   try clear hx630_2
                   try clear hx630_3
                   try clear hx631_0
                   try clear hx631_1
                   try clear hx631_2
                   try clear hx631_3
                   try clear p2
                   try clear p28
                   try clear p3
                   try clear p31
                   try clear p6
                   try clear p621
                   try clear p622
                   try clear p624
                   try clear p625
                   try clear p627
                   try clear p628
                   try clear p629
                   try clear p630
                   try clear p631
                   try clear q2
                   try clear q28
                   try clear q3
                   try clear q31
                   try clear q6
                   try clear q621
                   try clear q622
                   try clear q624
                   try clear q625
                   try clear q627
                   try clear q628
                   try clear q629
                   try clear q630
                   try clear q631
                   obtain ⟨x11_4, x15_4, rfl, HA, HK4, HO_9, HO_11, HO_12, HB⟩ := hrel
                   cases gk with
                   | zero => exact absurd HA.out (by simp [parallaxlaw15_AlignAll.l2])
                   | succ k4 =>
                    have H := HA.out
                    clear HA
                    simp only [parallaxlaw15_AlignAll.l2] at H
                    by_cases c48 : 0 ≤ x14_2
                    ·rw [if_pos c48] at H
                     have c48b0 : decide (0 ≤ x14_2) = true := decide_eq_true c48
                     clear c48
                     by_cases c49 : x14_2 < (t611.length : Int)
                     ·rw [if_pos c49] at H
                      have c49b0 : decide (x14_2 < (t611.length : Int)) = true := decide_eq_true c49
                      clear c49
                      by_cases c50 : x15_4 < ((rd_T49 t611 x14_2).f1)
                      ·rw [if_pos c50] at H
                       have c50b0 : decide (x15_4 < ((rd_T49 t611 x14_2).f1)) = true := decide_eq_true c50
                       clear c50
                       by_cases c51 : 0 ≤ x15_4
                       ·rw [if_pos c51] at H
                        have c51b0 : decide (0 ≤ x15_4) = true := decide_eq_true c51
                        clear c51
                        by_cases c52 : x15_4 < (x11_4.length : Int)
                        ·rw [if_pos c52] at H
                         have c52b0 : decide (x15_4 < (x11_4.length : Int)) = true := decide_eq_true c52
                         clear c52
                         obtain ⟨y634, hy634⟩ : ∃ y_ : List Int, y_ = (x11_4.set (x15_4 : Int).toNat (wrap64 ((rd x11_4 x15_4) + 1))) := ⟨_, rfl⟩
                         replace H : (parallaxlaw15_AlignAll.l2 k4 l0 l1 t611 y634 x12_2 x14_2 (wrap64 (x15_4 + 1))) = some r := by first | (rw [hy634]; with_reducible exact H) | (have H2_ := (Option.bind_some _ _).symm.trans H; rw [hy634]; with_reducible exact H2_) | (have H2_ := (Option.bind_some _ _).symm.trans H; with_reducible exact H2_) | with_reducible exact H | (rw [hy634]; exact H) | exact H
                         have Ny634 := Aside0.mk hy634
                         clear hy634
                         have H' := Aside0.mk H
                         clear H
                         have p632 : 0 ≤ (x14_2 : Int) := of_decide_eq_true (by first | (with_reducible assumption) | assumption)
                         have q632 : x14_2 < (t611.length : Int) := of_decide_eq_true (by first | (with_reducible assumption) | assumption)
                         obtain ⟨ad632, e632, hx632_0, hx632_1, hx632_2, hx632_3⟩ := at_T49 (Kd.R_reads' HO_9.out).2.2 x14_2 p632 q632
                         obtain rfl : ad631 = ad632 := (by injection e632)
                         replace p632 := eq_true p632
                         replace q632 := eq_true q632
                         obtain ⟨Ao54, co54, eo54⟩ := Kd.R_slice HO_11.out
                         subst eo54
                         have p633 : 0 ≤ (x15_4 : Int) := of_decide_eq_true (by first | (with_reducible assumption) | assumption)
                         have q633 : x15_4 < (x11_4.length : Int) := of_decide_eq_true (by first | (with_reducible assumption) | assumption)
                         obtain ⟨ad633, e633, hx633_0⟩ := Kd.at_int (Kd.R_reads' HO_11.out).2.2 x15_4 p633 q633
                         cases e633
                         replace p633 := eq_true p633
                         replace q633 := eq_true q633
                         have p53 : 0 ≤ (x15_4 : Int) := of_decide_eq_true (by first | (with_reducible assumption) | assumption)
                         have q53 : (x15_4 : Int) < ((x11_4.length : Int) : Int) := of_decide_eq_true (by first | (with_reducible assumption) | assumption)
                         obtain ⟨go53, co53, eo53, gb53, gl53, cl53, HG53⟩ := Kd.R_form HO_11.out (by omega)
                         (first | cases eo53 | (injection eo53 with ea_ en_ ec_; (first | subst ea_ | (injection ea_ with ea_; subst ea_)); subst ec_; clear en_))
                         have GB53 := Aside0.mk gb53
                         have GG53 := Aside0.mk HG53
                         clear gb53 gl53 HG53
                         (first | simp only [add_plain] at hx633_0 | skip)
                         obtain ⟨hx53_0, hf53_0⟩ := Kd.R_celln 0 HO_11.out (x15_4 : Int) p53 q53
                         replace p53 := eq_true p53
                         replace q53 := eq_true q53
                         have HP55 := Kd.R_putg HO_11.out (x15_4 : Int) (wrap64 ((rd x11_4 x15_4) + 1))
                         go_wp2_with (first | ((with_reducible refine gate_store (t := 3) (p := 132) rfl ?_); refine store_event (t := 3) (p := 132) (v := ?vo_w56) (w1 := (wr.setCell ⟨go53, (x15_4 : Int).toNat, none⟩ (.int .i64 (wrap64 ((rd x11_4 x15_4) + 1))))) ?hg ?ho ?hn ?hr ?_; (case ho => rfl); (case hg => rfl); (case hn => rfl); (case hr => first | (go_simp; done) | (go_simp; rfl)); intro w56 hw; have hg : wr.grownBy w56 (some go53) := (by rw [hw]; exact HP55.2); have hp_ : Kd.R (Kd.int .i64) 3 w56 w.heap.size (fun k_ => some k_ ≠ (v619 : Value).ownBlock) (.slice (some ⟨go53, 0, none⟩) x11_4.length co54) y634 := (by rw [hw, Ny634.out]; exact HP55.1); clear HP55; have n0_ := Aside0.mk (Kd.R_over' (v := (.slice (some ⟨go53, 0, none⟩) x11_4.length co54)) (by (with_reducible repeat (first | apply Kd.R_alloc | apply Kd.R_drewN | apply Kd.R_drew)); exact HO_9.out) (Kd.R_typed HO_11.out) (by decide) hg); have n1_ := Aside0.mk (hp_); have n2_ := Aside0.mk (Kd.R_after (v := (.slice (some ⟨go53, 0, none⟩) x11_4.length co54)) (v1 := (.slice (some ⟨go53, 0, none⟩) x11_4.length co54)) (ok := (fun _ => True)) (by (with_reducible repeat (first | apply Kd.R_alloc | apply Kd.R_drewN | apply Kd.R_drew)); exact Kd.R_mono HO_12.out (fun _ hk => ⟨trivial, hk⟩)) hg (.inl rfl)); have n3_ := Aside0.mk ((by rw [hw]; exact below_set (HB.out) GB53.out : Below w.heap.size w w56)); clear HO_9; clear HO_11; clear HO_12; clear HB; have HO_9 := n0_; have HO_11 := n1_; have HO_12 := n2_; have HB := n3_; clear n0_ n1_ n2_ n3_; clear hg hw hp_))
                         go_roundg k4
                         case measure => have := HK1.out; have := HK2.out; have := HJ38.out; have := HK4.out; omega
                         case rel => exact ⟨(y634), (wrap64 (x15_4 + 1)), (by first | rfl | (simp; done) | (simp [*]; done)), H', ⟨by have := HK1.out; have := HK2.out; have := HJ38.out; have := HK4.out; omega⟩, ⟨by (with_reducible repeat (first | apply Kd.R_alloc | apply Kd.R_drewN | apply Kd.R_drew)); exact HO_9.out⟩, ⟨by (with_reducible repeat (first | apply Kd.R_alloc | apply Kd.R_drewN | apply Kd.R_drew)); exact HO_11.out⟩, ⟨by (with_reducible repeat (first | apply Kd.R_alloc | apply Kd.R_drewN | apply Kd.R_drew)); exact Kd.R_mono HO_12.out (fun _ hk => hk.2)⟩, ⟨by repeat (first | (with_reducible first | exact HB.out | apply below_alloc | apply pw_below_drewN | apply below_drew1) | exact HB.out)⟩⟩
                        ·rw [if_neg c52] at H
                         exact absurd H (by simp)
                       ·rw [if_neg c51] at H
                        exact absurd H (by simp)
                      ·rw [if_neg c50] at H
                       have c50b0 : decide (x15_4 < ((rd_T49 t611 x14_2).f1)) = false := decide_eq_false c50
                       clear c50
                       have H' := Aside0.mk H
                       clear H
                       have p632 : 0 ≤ (x14_2 : Int) := of_decide_eq_true (by first | (with_reducible assumption) | assumption)
                       have q632 : x14_2 < (t611.length : Int) := of_decide_eq_true (by first | (with_reducible assumption) | assumption)
                       obtain ⟨ad632, e632, hx632_0, hx632_1, hx632_2, hx632_3⟩ := at_T49 (Kd.R_reads' HO_9.out).2.2 x14_2 p632 q632
                       obtain rfl : ad631 = ad632 := (by injection e632)
                       replace p632 := eq_true p632
                       replace q632 := eq_true q632
                       have p635 : 0 ≤ (x14_2 : Int) := of_decide_eq_true (by first | (with_reducible assumption) | assumption)
                       have q635 : x14_2 < (t611.length : Int) := of_decide_eq_true (by first | (with_reducible assumption) | assumption)
                       obtain ⟨ad635, e635, hx635_0, hx635_1, hx635_2, hx635_3⟩ := at_T49 (Kd.R_reads' HO_9.out).2.2 x14_2 p635 q635
                       obtain rfl : ad631 = ad635 := (by injection e635)
                       replace p635 := eq_true p635
                       replace q635 := eq_true q635
                       go_wp2
                       go_loopg [16] k4 (fun kq v16 w' => ∃ (x12_5 : List Int) (x16_5 : Int), v16 = .int .i64 x16_5 ∧ Aside0 (parallaxlaw15_AlignAll.l3 kq l0 l1 t611 x11_4 x12_5 x14_2 x16_5 = some r) ∧ Aside0 (kq ≤ k4) ∧ Aside0 (Kd.R k49 49 w' w.heap.size (fun _ => True) (.slice (some ad631) t611.length co40) t611) ∧ Aside0 (Kd.R (Kd.int .i64) 3 w' w.heap.size (fun k_ => some k_ ≠ (v619 : Value).ownBlock) v616 x11_4) ∧ Aside0 (Kd.R (Kd.int .i64) 3 w' w.heap.size (fun k_ => some k_ ≠ (v616 : Value).ownBlock) v619 x12_5) ∧ Aside0 (Below w.heap.size w w'))
                       case atStart => exact ⟨(x12_2), ((rd_T49 t611 x14_2).f2), (by first | rfl | (simp; done) | (simp [*]; done)), H', ⟨Nat.le_refl _⟩, ⟨by (with_reducible repeat (first | apply Kd.R_alloc | apply Kd.R_drewN | apply Kd.R_drew)); exact HO_9.out⟩, ⟨by (with_reducible repeat (first | apply Kd.R_alloc | apply Kd.R_drewN | apply Kd.R_drew)); exact HO_11.out⟩, ⟨by (with_reducible repeat (first | apply Kd.R_alloc | apply Kd.R_drewN | apply Kd.R_drew)); exact HO_12.out⟩, ⟨by repeat (first | (with_reducible first | exact HB.out | apply below_alloc | apply pw_below_drewN | apply below_drew1) | exact HB.out)⟩⟩
                       case round =>
                        clear H'
                        try clear c1
                        try clear c2
                        try clear p2
                        try clear q2
                        try clear hx2
                        try clear c3
                        try clear p3
                        try clear q3
                        try clear hx3
                        try clear hf3
                        try clear c4
                        try clear c5
                        try clear p5
                        try clear q5
                        try clear hx5
                        try clear hf5
                        try clear p6
                        try clear q6
                        try clear hx6
                        try clear c8
                        try clear c10
                        try clear c10b0
                        try clear c10b1
                        try clear c11
                        try clear c11b0
                        try clear c11b1
                        try clear c12
                        try clear c12b0
                        try clear c12b1
                        try clear c13
                        try clear c13b0
                        try clear c13b1
                        try clear c14
                        try clear c14b0
                        try clear c14b1
                        try clear c17
                        try clear c18
                        try clear c24
                        try clear c24b0
                        try clear c25
                        try clear c25b0
                        try clear c26
                        try clear c26b0
                        try clear c27
                        try clear c27b0
                        try clear p28
                        try clear q28
                        try clear hx28
                        try clear hf28
                        try clear c29
                        try clear c29b0
                        try clear c30
                        try clear c30b0
                        try clear p31
                        try clear q31
                        try clear hx31
                        try clear hf31
                        try clear c38
                        try clear c38b0
                        try clear c41
                        try clear c41b0
                        try clear c42
                        try clear c42b0
                        try clear c43
                        try clear c43b0
                        try clear c44
                        try clear c44b0
                        try clear c45
                        try clear c46
                        try clear c46b0
                        try clear c47
                        try clear c47b0
                        try clear c48
                        try clear c48b0
                        try clear c49
                        try clear c49b0
                        try clear c50
                        try clear c50b0
                        try clear c51
                        try clear c51b0
                        try clear c52
                        try clear c52b0
                        try clear p53
                        try clear q53
                        try clear hx53
                        try clear hf53
                        try clear hx28_0
                        try clear hx31_0
                        try clear hx53_0
                        try clear hx621_0
                        try clear hx621_1
                        try clear hx622_0
                        try clear hx624_0
                        try clear hx624_1
                        try clear hx625_0
                        try clear hx627_0
                        try clear hx627_1
                        try clear hx627_2
                        try clear hx627_3
                        try clear hx628_0
                        try clear hx628_1
                        try clear hx628_2
                        try clear hx628_3
                        try clear hx629_0
                        try clear hx629_1
                        try clear hx629_2
                        try clear hx629_3
                        try clear hx630_0
                        try clear hx630_1
                        try clear hx630_2
                        try clear hx630_3
                        try clear hx631_0
                        try clear hx631_1
                        try clear hx631_2
                        try clear hx631_3
                        try clear hx632_0
                        try clear hx632_1
                        try clear hx632_2
                        try clear hx632_3
                        try clear hx633_0
                        try clear hx635_0
                        try clear hx635_1
                        try clear hx635_2
                        try clear hx635_3
                        try clear p2
                        try clear p28
                        try clear p3
                        try clear p31
                        try clear p53
                        try clear p6
                        try clear p621
                        try clear p622
                        try clear p624
                        try clear p625
                        try clear p627
                        try clear p628
                        try clear p629
                        try clear p630
                        try clear p631
                        try clear p632
                        try clear p633
                        try clear p635
                        try clear q2
                        try clear q28
                        try clear q3
                        try clear q31
                        try clear q53
                        try clear q6
                        try clear q621
                        try clear q622
                        try clear q624
                        try clear q625
                        try clear q627
                        try clear q628
                        try clear q629
                        try clear q630
                        try clear q631
                        try clear q632
                        try clear q633
                        try clear q635
                        obtain ⟨x12_5, x16_5, rfl, HA, HK5, HO_9, HO_11, HO_12, HB⟩ := hrel
                        cases gk with
                        | zero => exact absurd HA.out (by simp [parallaxlaw15_AlignAll.l3])
                        | succ k5 =>
                         have H := HA.out
                         clear HA
                         simp only [parallaxlaw15_AlignAll.l3] at H
                         by_cases c57 : 0 ≤ x14_2
                         ·rw [if_pos c57] at H
                          have c57b0 : decide (0 ≤ x14_2) = true := decide_eq_true c57
                          clear c57
                          by_cases c58 : x14_2 < (t611.length : Int)
                          ·rw [if_pos c58] at H
                           have c58b0 : decide (x14_2 < (t611.length : Int)) = true := decide_eq_true c58
                           clear c58
                           by_cases c59 : x16_5 < ((rd_T49 t611 x14_2).f3)
                           ·rw [if_pos c59] at H
                            have c59b0 : decide (x16_5 < ((rd_T49 t611 x14_2).f3)) = true := decide_eq_true c59
                            clear c59
                            by_cases c60 : 0 ≤ x16_5
                            ·rw [if_pos c60] at H
                             have c60b0 : decide (0 ≤ x16_5) = true := decide_eq_true c60
                             clear c60
                             by_cases c61 : x16_5 < (x12_5.length : Int)
                             ·rw [if_pos c61] at H
                              have c61b0 : decide (x16_5 < (x12_5.length : Int)) = true := decide_eq_true c61
                              clear c61
                              obtain ⟨y638, hy638⟩ : ∃ y_ : List Int, y_ = (x12_5.set (x16_5 : Int).toNat (wrap64 ((rd x12_5 x16_5) + 1))) := ⟨_, rfl⟩
                              replace H : (parallaxlaw15_AlignAll.l3 k5 l0 l1 t611 x11_4 y638 x14_2 (wrap64 (x16_5 + 1))) = some r := by first | (rw [hy638]; with_reducible exact H) | (have H2_ := (Option.bind_some _ _).symm.trans H; rw [hy638]; with_reducible exact H2_) | (have H2_ := (Option.bind_some _ _).symm.trans H; with_reducible exact H2_) | with_reducible exact H | (rw [hy638]; exact H) | exact H
                              have Ny638 := Aside0.mk hy638
                              clear hy638
                              have H' := Aside0.mk H
                              clear H
                              have p636 : 0 ≤ (x14_2 : Int) := of_decide_eq_true (by first | (with_reducible assumption) | assumption)
                              have q636 : x14_2 < (t611.length : Int) := of_decide_eq_true (by first | (with_reducible assumption) | assumption)
                              obtain ⟨ad636, e636, hx636_0, hx636_1, hx636_2, hx636_3⟩ := at_T49 (Kd.R_reads' HO_9.out).2.2 x14_2 p636 q636
                              obtain rfl : ad631 = ad636 := (by injection e636)
                              replace p636 := eq_true p636
                              replace q636 := eq_true q636
                              obtain ⟨Ao63, co63, eo63⟩ := Kd.R_slice HO_12.out
                              subst eo63
                              have p637 : 0 ≤ (x16_5 : Int) := of_decide_eq_true (by first | (with_reducible assumption) | assumption)
                              have q637 : x16_5 < (x12_5.length : Int) := of_decide_eq_true (by first | (with_reducible assumption) | assumption)
                              obtain ⟨ad637, e637, hx637_0⟩ := Kd.at_int (Kd.R_reads' HO_12.out).2.2 x16_5 p637 q637
                              cases e637
                              replace p637 := eq_true p637
                              replace q637 := eq_true q637
                              have p62 : 0 ≤ (x16_5 : Int) := of_decide_eq_true (by first | (with_reducible assumption) | assumption)
                              have q62 : (x16_5 : Int) < ((x12_5.length : Int) : Int) := of_decide_eq_true (by first | (with_reducible assumption) | assumption)
                              obtain ⟨go62, co62, eo62, gb62, gl62, cl62, HG62⟩ := Kd.R_form HO_12.out (by omega)
                              (first | cases eo62 | (injection eo62 with ea_ en_ ec_; (first | subst ea_ | (injection ea_ with ea_; subst ea_)); subst ec_; clear en_))
                              have GB62 := Aside0.mk gb62
                              have GG62 := Aside0.mk HG62
                              clear gb62 gl62 HG62
                              (first | simp only [add_plain] at hx637_0 | skip)
                              obtain ⟨hx62_0, hf62_0⟩ := Kd.R_celln 0 HO_12.out (x16_5 : Int) p62 q62
                              replace p62 := eq_true p62
                              replace q62 := eq_true q62
                              have HP64 := Kd.R_putg HO_12.out (x16_5 : Int) (wrap64 ((rd x12_5 x16_5) + 1))
                              go_wp2_with (first | ((with_reducible refine gate_store (t := 3) (p := 152) rfl ?_); refine store_event (t := 3) (p := 152) (v := ?vo_w65) (w1 := (wr.setCell ⟨go62, (x16_5 : Int).toNat, none⟩ (.int .i64 (wrap64 ((rd x12_5 x16_5) + 1))))) ?hg ?ho ?hn ?hr ?_; (case ho => rfl); (case hg => rfl); (case hn => rfl); (case hr => first | (go_simp; done) | (go_simp; rfl)); intro w65 hw; have hg : wr.grownBy w65 (some go62) := (by rw [hw]; exact HP64.2); have hp_ : Kd.R (Kd.int .i64) 3 w65 w.heap.size (fun k_ => some k_ ≠ (v616 : Value).ownBlock) (.slice (some ⟨go62, 0, none⟩) x12_5.length co63) y638 := (by rw [hw, Ny638.out]; exact HP64.1); clear HP64; have n0_ := Aside0.mk (Kd.R_over' (v := (.slice (some ⟨go62, 0, none⟩) x12_5.length co63)) (by (with_reducible repeat (first | apply Kd.R_alloc | apply Kd.R_drewN | apply Kd.R_drew)); exact HO_9.out) (Kd.R_typed HO_12.out) (by decide) hg); have n1_ := Aside0.mk (Kd.R_after (v := (.slice (some ⟨go62, 0, none⟩) x12_5.length co63)) (v1 := (.slice (some ⟨go62, 0, none⟩) x12_5.length co63)) (ok := (fun _ => True)) (by (with_reducible repeat (first | apply Kd.R_alloc | apply Kd.R_drewN | apply Kd.R_drew)); exact Kd.R_mono HO_11.out (fun _ hk => ⟨trivial, hk⟩)) hg (.inl rfl)); have n2_ := Aside0.mk (hp_); have n3_ := Aside0.mk ((by rw [hw]; exact below_set (HB.out) GB62.out : Below w.heap.size w w65)); clear HO_9; clear HO_11; clear HO_12; clear HB; have HO_9 := n0_; have HO_11 := n1_; have HO_12 := n2_; have HB := n3_; clear n0_ n1_ n2_ n3_; clear hg hw hp_))
                              go_roundg k5
                              case measure => have := HK1.out; have := HK2.out; have := HJ38.out; have := HK4.out; have := HK5.out; omega
                              case rel => exact ⟨(y638), (wrap64 (x16_5 + 1)), (by first | rfl | (simp; done) | (simp [*]; done)), H', ⟨by have := HK1.out; have := HK2.out; have := HJ38.out; have := HK4.out; have := HK5.out; omega⟩, ⟨by (with_reducible repeat (first | apply Kd.R_alloc | apply Kd.R_drewN | apply Kd.R_drew)); exact HO_9.out⟩, ⟨by (with_reducible repeat (first | apply Kd.R_alloc | apply Kd.R_drewN | apply Kd.R_drew)); exact Kd.R_mono HO_11.out (fun _ hk => hk.2)⟩, ⟨by (with_reducible repeat (first | apply Kd.R_alloc | apply Kd.R_drewN | apply Kd.R_drew)); exact HO_12.out⟩, ⟨by repeat (first | (with_reducible first | exact HB.out | apply below_alloc | apply pw_below_drewN | apply below_drew1) | exact HB.out)⟩⟩
                             ·rw [if_neg c61] at H
                              exact absurd H (by simp)
                            ·rw [if_neg c60] at H
                             exact absurd H (by simp)
                           ·rw [if_neg c59] at H
                            have c59b0 : decide (x16_5 < ((rd_T49 t611 x14_2).f3)) = false := decide_eq_false c59
                            clear c59
                            have H' := Aside0.mk H
                            clear H
                            have p636 : 0 ≤ (x14_2 : Int) := of_decide_eq_true (by first | (with_reducible assumption) | assumption)
                            have q636 : x14_2 < (t611.length : Int) := of_decide_eq_true (by first | (with_reducible assumption) | assumption)
                            obtain ⟨ad636, e636, hx636_0, hx636_1, hx636_2, hx636_3⟩ := at_T49 (Kd.R_reads' HO_9.out).2.2 x14_2 p636 q636
                            obtain rfl : ad631 = ad636 := (by injection e636)
                            replace p636 := eq_true p636
                            replace q636 := eq_true q636
                            go_wp2
                            go_roundg k5
                            case measure => have := HK1.out; have := HK2.out; have := HJ38.out; have := HK4.out; have := HK5.out; omega
                            case rel => exact ⟨(x11_4), (x12_5), (wrap64 (x14_2 + 1)), (by first | rfl | (simp; done) | (simp [*]; done)), H', ⟨by have := HK1.out; have := HK2.out; have := HJ38.out; have := HK4.out; have := HK5.out; omega⟩, ⟨by (with_reducible repeat (first | apply Kd.R_alloc | apply Kd.R_drewN | apply Kd.R_drew)); exact HO_9.out⟩, ⟨by (with_reducible repeat (first | apply Kd.R_alloc | apply Kd.R_drewN | apply Kd.R_drew)); exact HO_11.out⟩, ⟨by (with_reducible repeat (first | apply Kd.R_alloc | apply Kd.R_drewN | apply Kd.R_drew)); exact HO_12.out⟩, ⟨by repeat (first | (with_reducible first | exact HB.out | apply below_alloc | apply pw_below_drewN | apply below_drew1) | exact HB.out)⟩⟩
                          ·rw [if_neg c58] at H
                           exact absurd H (by simp)
                         ·rw [if_neg c57] at H
                          exact absurd H (by simp)
                     ·rw [if_neg c49] at H
                      exact absurd H (by simp)
                    ·rw [if_neg c48] at H
                     exact absurd H (by simp)
                 ·rw [if_neg c47] at H
                  exact absurd H (by simp)
                ·rw [if_neg c46] at H
                 exact absurd H (by simp)
            ·rw [if_neg c38] at H
             have c38b0 : decide (x14_2 < (t611.length : Int)) = false := decide_eq_false c38
             clear c38
             have H' := Aside0.mk H
             clear H
             obtain ⟨Ao66, co66, eo66⟩ := Kd.R_slice HO_9.out
             subst eo66
             go_wp2
             go_loopg [17] k2 (fun kq v17 w' => ∃ (x17_3 : Int), v17 = .int .i64 x17_3 ∧ Aside0 (parallaxlaw15_AlignAll.l4 kq x11_2 x12_2 x17_3 = some r) ∧ Aside0 (kq ≤ k2) ∧ Aside0 (Kd.R (Kd.int .i64) 3 w' w.heap.size (fun k_ => some k_ ≠ (v619 : Value).ownBlock) v616 x11_2) ∧ Aside0 (Kd.R (Kd.int .i64) 3 w' w.heap.size (fun k_ => some k_ ≠ (v616 : Value).ownBlock) v619 x12_2) ∧ Aside0 (Below w.heap.size w w'))
             case atStart => exact ⟨(0), (by first | rfl | (simp; done) | (simp [*]; done)), H', ⟨Nat.le_refl _⟩, ⟨by (with_reducible repeat (first | apply Kd.R_alloc | apply Kd.R_drewN | apply Kd.R_drew)); exact HO_11.out⟩, ⟨by (with_reducible repeat (first | apply Kd.R_alloc | apply Kd.R_drewN | apply Kd.R_drew)); exact HO_12.out⟩, ⟨by repeat (first | (with_reducible first | exact HB.out | apply below_alloc | apply pw_below_drewN | apply below_drew1) | exact HB.out)⟩⟩
             case round =>
              clear H'
              try clear c1
              try clear c2
              try clear p2
              try clear q2
              try clear hx2
              try clear c3
              try clear p3
              try clear q3
              try clear hx3
              try clear hf3
              try clear c4
              try clear c5
              try clear p5
              try clear q5
              try clear hx5
              try clear hf5
              try clear c6
              try clear p6
              try clear q6
              try clear hx6
              try clear hf6
              try clear c8
              try clear c10
              try clear c10b0
              try clear c10b1
              try clear c11
              try clear c11b0
              try clear c11b1
              try clear c12
              try clear c12b0
              try clear c12b1
              try clear c13
              try clear c13b0
              try clear c13b1
              try clear c14
              try clear c14b0
              try clear c14b1
              try clear c17
              try clear c18
              try clear c24
              try clear c24b0
              try clear c25
              try clear c25b0
              try clear c26
              try clear c26b0
              try clear c27
              try clear c27b0
              try clear p28
              try clear q28
              try clear hx28
              try clear hf28
              try clear c29
              try clear c29b0
              try clear c30
              try clear c30b0
              try clear p31
              try clear q31
              try clear hx31
              try clear hf31
              try clear c38
              try clear c38b0
              try clear c41
              try clear c41b0
              try clear c42
              try clear c42b0
              try clear c43
              try clear c43b0
              try clear c44
              try clear c44b0
              try clear c45
              try clear c46
              try clear c46b0
              try clear c47
              try clear c47b0
              try clear c48
              try clear c48b0
              try clear c49
              try clear c49b0
              try clear c50
              try clear c50b0
              try clear c51
              try clear c51b0
              try clear c52
              try clear c52b0
              try clear p53
              try clear q53
              try clear hx53
              try clear hf53
              try clear c57
              try clear c57b0
              try clear c58
              try clear c58b0
              try clear c59
              try clear c59b0
              try clear c60
              try clear c60b0
              try clear c61
              try clear c61b0
              try clear p62
              try clear q62
              try clear hx62
              try clear hf62
              try clear p63
              try clear q63
              try clear hx63
              try clear p64
              try clear hx28_0
              try clear hx31_0
              try clear hx53_0
              try clear hx621_0
              try clear hx621_1
              try clear hx622_0
              try clear hx624_0
              try clear hx624_1
              try clear hx625_0
              try clear hx627_0
              try clear hx627_1
              try clear hx627_2
              try clear hx627_3
              try clear hx628_0
              try clear hx628_1
              try clear hx628_2
              try clear hx628_3
              try clear hx629_0
              try clear hx629_1
              try clear hx629_2
              try clear hx629_3
              try clear hx62_0
              try clear hx630_0
              try clear hx630_1
              try clear hx630_2
              try clear hx630_3
              try clear hx631_0
              try clear hx631_1
              try clear hx631_2
              try clear hx631_3
              try clear hx632_0
              try clear hx632_1
              try clear hx632_2
              try clear hx632_3
              try clear hx633_0
              try clear hx635_0
              try clear hx635_1
              try clear hx635_2
              try clear hx635_3
              try clear hx636_0
              try clear hx636_1
              try clear hx636_2
              try clear hx636_3
              try clear hx637_0
              try clear p2
              try clear p28
              try clear p3
              try clear p31
              try clear p5
              try clear p53
              try clear p6
              try clear p62
              try clear p621
              try clear p622
              try clear p624
              try clear p625
              try clear p627
              try clear p628
              try clear p629
              try clear p630
              try clear p631
              try clear p632
              try clear p633
              try clear p635
              try clear p636
              try clear p637
              try clear q2
              try clear q28
              try clear q3
              try clear q31
              try clear q5
              try clear q53
              try clear q6
              try clear q62
              try clear q621
              try clear q622
              try clear q624
              try clear q625
              try clear q627
              try clear q628
              try clear q629
              try clear q630
              try clear q631
              try clear q632
              try clear q633
              try clear q635
              try clear q636
              try clear q637
              obtain ⟨x17_3, rfl, HA, HK3, HO_11, HO_12, HB⟩ := hrel
              cases gk with
              | zero => exact absurd HA.out (by simp [parallaxlaw15_AlignAll.l4])
              | succ k3 =>
               have H := HA.out
               clear HA
               simp only [parallaxlaw15_AlignAll.l4] at H
               by_cases c67 : x17_3 < (x11_2.length : Int)
               ·rw [if_pos c67] at H
                have c67b0 : decide (x17_3 < (x11_2.length : Int)) = true := decide_eq_true c67
                clear c67
                by_cases c68 : 0 ≤ x17_3
                ·rw [if_pos c68] at H
                 have c68b0 : decide (0 ≤ x17_3) = true := decide_eq_true c68
                 clear c68
                 by_cases c69 : (rd x11_2 x17_3) = 1
                 ·rw [if_pos c69] at H
                  have c69b0 : ((rd x11_2 x17_3) == 1) = true := beq_iff_eq.mpr c69
                  have c69b1 : ((rd x11_2 x17_3) != 1) = false := bne_eq_false_iff_eq.mpr c69
                  clear c69
                  have H' := Aside0.mk H
                  clear H
                  obtain ⟨Ao70, co70, eo70⟩ := Kd.R_slice HO_11.out
                  subst eo70
                  have p639 : 0 ≤ (x17_3 : Int) := of_decide_eq_true (by first | (with_reducible assumption) | assumption)
                  have q639 : x17_3 < (x11_2.length : Int) := of_decide_eq_true (by first | (with_reducible assumption) | assumption)
                  obtain ⟨ad639, e639, hx639_0⟩ := Kd.at_int (Kd.R_reads' HO_11.out).2.2 x17_3 p639 q639
                  cases e639
                  replace p639 := eq_true p639
                  replace q639 := eq_true q639
                  go_wp2
                  go_roundg k3
                  case measure => have := HK1.out; have := HK2.out; have := HK3.out; omega
                  case rel => exact ⟨(wrap64 (x17_3 + 1)), (by first | rfl | (simp; done) | (simp [*]; done)), H', ⟨by have := HK1.out; have := HK2.out; have := HK3.out; omega⟩, ⟨by (with_reducible repeat (first | apply Kd.R_alloc | apply Kd.R_drewN | apply Kd.R_drew)); exact HO_11.out⟩, ⟨by (with_reducible repeat (first | apply Kd.R_alloc | apply Kd.R_drewN | apply Kd.R_drew)); exact HO_12.out⟩, ⟨by repeat (first | (with_reducible first | exact HB.out | apply below_alloc | apply pw_below_drewN | apply below_drew1) | exact HB.out)⟩⟩
                 ·rw [if_neg c69] at H
                  have c69b0 : ((rd x11_2 x17_3) == 1) = false := beq_eq_false_iff_ne.mpr c69
                  have c69b1 : ((rd x11_2 x17_3) != 1) = true := bne_iff_ne.mpr c69
                  obtain rfl := Option.some.inj H
                  obtain ⟨Ao71, co71, eo71⟩ := Kd.R_slice HO_11.out
                  subst eo71
                  have p639 : 0 ≤ (x17_3 : Int) := of_decide_eq_true (by first | (with_reducible assumption) | assumption)
                  have q639 : x17_3 < (x11_2.length : Int) := of_decide_eq_true (by first | (with_reducible assumption) | assumption)
                  obtain ⟨ad639, e639, hx639_0⟩ := Kd.at_int (Kd.R_reads' HO_11.out).2.2 x17_3 p639 q639
                  cases e639
                  replace p639 := eq_true p639
                  replace q639 := eq_true q639
                  go_wp2
                  go_ret
                  exact ⟨by first | rfl | (simp [errW_none, errW_some] <;> rfl) | (simp [*, errW_none, errW_some] <;> rfl), by repeat (first | (with_reducible first | exact HB.out | apply below_alloc | apply pw_below_drewN | apply below_drew1) | exact HB.out)⟩
                ·rw [if_neg c68] at H
                 exact absurd H (by simp)
               ·rw [if_neg c67] at H
                have c67b0 : decide (x17_3 < (x11_2.length : Int)) = false := decide_eq_false c67
                clear c67
                have H' := Aside0.mk H
                clear H
                obtain ⟨Ao72, co72, eo72⟩ := Kd.R_slice HO_11.out
                subst eo72
                go_wp2
                go_loopg [18] k3 (fun kq v18 w' => ∃ (x18_4 : Int), v18 = .int .i64 x18_4 ∧ Aside0 (parallaxlaw15_AlignAll.l5 kq x12_2 x18_4 = some r) ∧ Aside0 (kq ≤ k3) ∧ Aside0 (Kd.R (Kd.int .i64) 3 w' w.heap.size (fun _ => True) v619 x12_2) ∧ Aside0 (Below w.heap.size w w'))
                case atStart => exact ⟨(0), (by first | rfl | (simp; done) | (simp [*]; done)), H', ⟨Nat.le_refl _⟩, ⟨by (with_reducible repeat (first | apply Kd.R_alloc | apply Kd.R_drewN | apply Kd.R_drew)); exact Kd.R_mono HO_12.out (fun _ hk => trivial)⟩, ⟨by repeat (first | (with_reducible first | exact HB.out | apply below_alloc | apply pw_below_drewN | apply below_drew1) | exact HB.out)⟩⟩
                case round =>
                 clear H'
                 try clear c1
                 try clear c2
                 try clear p2
                 try clear q2
                 try clear hx2
                 try clear c3
                 try clear p3
                 try clear q3
                 try clear hx3
                 try clear hf3
                 try clear c4
                 try clear c5
                 try clear p5
                 try clear q5
                 try clear hx5
                 try clear hf5
                 try clear c6
                 try clear p6
                 try clear q6
                 try clear hx6
                 try clear hf6
                 try clear c8
                 try clear c10
                 try clear c10b0
                 try clear c10b1
                 try clear c11
                 try clear c11b0
                 try clear c11b1
                 try clear c12
                 try clear c12b0
                 try clear c12b1
                 try clear c13
                 try clear c13b0
                 try clear c13b1
                 try clear c14
                 try clear c14b0
                 try clear c14b1
                 try clear c17
                 try clear c18
                 try clear c24
                 try clear c24b0
                 try clear c25
                 try clear c25b0
                 try clear c26
                 try clear c26b0
                 try clear c27
                 try clear c27b0
                 try clear p28
                 try clear q28
                 try clear hx28
                 try clear hf28
                 try clear c29
                 try clear c29b0
                 try clear c30
                 try clear c30b0
                 try clear p31
                 try clear q31
                 try clear hx31
                 try clear hf31
                 try clear c38
                 try clear c38b0
                 try clear c41
                 try clear c41b0
                 try clear c42
                 try clear c42b0
                 try clear c43
                 try clear c43b0
                 try clear c44
                 try clear c44b0
                 try clear c45
                 try clear c46
                 try clear c46b0
                 try clear c47
                 try clear c47b0
                 try clear c48
                 try clear c48b0
                 try clear c49
                 try clear c49b0
                 try clear c50
                 try clear c50b0
                 try clear c51
                 try clear c51b0
                 try clear c52
                 try clear c52b0
                 try clear p53
                 try clear q53
                 try clear hx53
                 try clear hf53
                 try clear c57
                 try clear c57b0
                 try clear c58
                 try clear c58b0
                 try clear c59
                 try clear c59b0
                 try clear c60
                 try clear c60b0
                 try clear c61
                 try clear c61b0
                 try clear p62
                 try clear q62
                 try clear hx62
                 try clear hf62
                 try clear p63
                 try clear q63
                 try clear hx63
                 try clear p64
                 try clear c67
                 try clear c67b0
                 try clear c68
                 try clear c68b0
                 try clear c69
                 try clear c69b0
                 try clear c69b1
                 try clear hx28_0
                 try clear hx31_0
                 try clear hx53_0
                 try clear hx621_0
                 try clear hx621_1
                 try clear hx622_0
                 try clear hx624_0
                 try clear hx624_1
                 try clear hx625_0
                 try clear hx627_0
                 try clear hx627_1
                 try clear hx627_2
                 try clear hx627_3
                 try clear hx628_0
                 try clear hx628_1
                 try clear hx628_2
                 try clear hx628_3
                 try clear hx629_0
                 try clear hx629_1
                 try clear hx629_2
                 try clear hx629_3
                 try clear hx62_0
                 try clear hx630_0
                 try clear hx630_1
                 try clear hx630_2
                 try clear hx630_3
                 try clear hx631_0
                 try clear hx631_1
                 try clear hx631_2
                 try clear hx631_3
                 try clear hx632_0
                 try clear hx632_1
                 try clear hx632_2
                 try clear hx632_3
                 try clear hx633_0
                 try clear hx635_0
                 try clear hx635_1
                 try clear hx635_2
                 try clear hx635_3
                 try clear hx636_0
                 try clear hx636_1
                 try clear hx636_2
                 try clear hx636_3
                 try clear hx637_0
                 try clear hx639_0
                 try clear p2
                 try clear p28
                 try clear p3
                 try clear p31
                 try clear p5
                 try clear p53
                 try clear p6
                 try clear p62
                 try clear p621
                 try clear p622
                 try clear p624
                 try clear p625
                 try clear p627
                 try clear p628
                 try clear p629
                 try clear p63
                 try clear p630
                 try clear p631
                 try clear p632
                 try clear p633
                 try clear p635
                 try clear p636
                 try clear p637
                 try clear p639
                 try clear p64
                 try clear q2
                 try clear q28
                 try clear q3
                 try clear q31
                 try clear q5
                 try clear q53
                 try clear q6
                 try clear q62
                 try clear q621
                 try clear q622
                 try clear q624
                 try clear q625
                 try clear q627
                 try clear q628
                 try clear q629
                 try clear q63
                 try clear q630
                 try clear q631
                 try clear q632
                 try clear q633
                 try clear q635
                 try clear q636
                 try clear q637
                 try clear q639
                 obtain ⟨x18_4, rfl, HA, HK4, HO_12, HB⟩ := hrel
                 cases gk with
                 | zero => exact absurd HA.out (by simp [parallaxlaw15_AlignAll.l5])
                 | succ k4 =>
                  have H := HA.out
                  clear HA
                  simp only [parallaxlaw15_AlignAll.l5] at H
                  by_cases c73 : x18_4 < (x12_2.length : Int)
                  ·rw [if_pos c73] at H
                   have c73b0 : decide (x18_4 < (x12_2.length : Int)) = true := decide_eq_true c73
                   clear c73
                   by_cases c74 : 0 ≤ x18_4
                   ·rw [if_pos c74] at H
                    have c74b0 : decide (0 ≤ x18_4) = true := decide_eq_true c74
                    clear c74
                    by_cases c75 : (rd x12_2 x18_4) = 1
                    ·rw [if_pos c75] at H
                     have c75b0 : ((rd x12_2 x18_4) == 1) = true := beq_iff_eq.mpr c75
                     have c75b1 : ((rd x12_2 x18_4) != 1) = false := bne_eq_false_iff_eq.mpr c75
                     clear c75
                     have H' := Aside0.mk H
                     clear H
                     obtain ⟨Ao76, co76, eo76⟩ := Kd.R_slice HO_12.out
                     subst eo76
                     have p640 : 0 ≤ (x18_4 : Int) := of_decide_eq_true (by first | (with_reducible assumption) | assumption)
                     have q640 : x18_4 < (x12_2.length : Int) := of_decide_eq_true (by first | (with_reducible assumption) | assumption)
                     obtain ⟨ad640, e640, hx640_0⟩ := Kd.at_int (Kd.R_reads' HO_12.out).2.2 x18_4 p640 q640
                     cases e640
                     replace p640 := eq_true p640
                     replace q640 := eq_true q640
                     go_wp2
                     go_roundg k4
                     case measure => have := HK1.out; have := HK2.out; have := HK3.out; have := HK4.out; omega
                     case rel => exact ⟨(wrap64 (x18_4 + 1)), (by first | rfl | (simp; done) | (simp [*]; done)), H', ⟨by have := HK1.out; have := HK2.out; have := HK3.out; have := HK4.out; omega⟩, ⟨by (with_reducible repeat (first | apply Kd.R_alloc | apply Kd.R_drewN | apply Kd.R_drew)); exact HO_12.out⟩, ⟨by repeat (first | (with_reducible first | exact HB.out | apply below_alloc | apply pw_below_drewN | apply below_drew1) | exact HB.out)⟩⟩
                    ·rw [if_neg c75] at H
                     have c75b0 : ((rd x12_2 x18_4) == 1) = false := beq_eq_false_iff_ne.mpr c75
                     have c75b1 : ((rd x12_2 x18_4) != 1) = true := bne_iff_ne.mpr c75
                     obtain rfl := Option.some.inj H
                     obtain ⟨Ao77, co77, eo77⟩ := Kd.R_slice HO_12.out
                     subst eo77
                     have p640 : 0 ≤ (x18_4 : Int) := of_decide_eq_true (by first | (with_reducible assumption) | assumption)
                     have q640 : x18_4 < (x12_2.length : Int) := of_decide_eq_true (by first | (with_reducible assumption) | assumption)
                     obtain ⟨ad640, e640, hx640_0⟩ := Kd.at_int (Kd.R_reads' HO_12.out).2.2 x18_4 p640 q640
                     cases e640
                     replace p640 := eq_true p640
                     replace q640 := eq_true q640
                     go_wp2
                     go_ret
                     exact ⟨by first | rfl | (simp [errW_none, errW_some] <;> rfl) | (simp [*, errW_none, errW_some] <;> rfl), by repeat (first | (with_reducible first | exact HB.out | apply below_alloc | apply pw_below_drewN | apply below_drew1) | exact HB.out)⟩
                   ·rw [if_neg c74] at H
                    exact absurd H (by simp)
                  ·rw [if_neg c73] at H
                   have c73b0 : decide (x18_4 < (x12_2.length : Int)) = false := decide_eq_false c73
                   clear c73
                   replace H := Option.bind_eq_some_iff.mp H
                   obtain ⟨t641, A780, H⟩ := H
                   replace H : (some t641) = some r := H
                   have A78 := Aside0.mk A780
                   clear A780
                   obtain rfl := Option.some.inj H
                   obtain ⟨Ao79, co79, eo79⟩ := Kd.R_slice HO_12.out
                   subst eo79
                   go_wp2_with (first | ((with_reducible refine gate_callee (f := 12) rfl ?_); refine goesL_ (some 175) rfl rfl Try.func12 (by kernel_rfl) rfl #[] rfl (by (try simp only [List.map_toArray, List.map_cons, List.map_nil]); first | done | rfl | (simp only [List.length_drop, List.length_take]; rfl)) ?_; (with_reducible refine (parallaxlaw15_known.calls k4  t641 _ A78.out).mono ?_); rintro e w80 ⟨rfl, hb⟩; refine ⟨_, rfl, ?_⟩; have n0_ := Aside0.mk (Kd.R_below (by (with_reducible repeat (first | apply Kd.R_alloc | apply Kd.R_drewN | apply Kd.R_drew)); exact HO_12.out) hb); have n1_ := Aside0.mk (below_step (by repeat (first | (with_reducible first | exact HB.out | apply below_alloc | apply pw_below_drewN | apply below_drew1) | exact HB.out)) hb); clear HO_12; clear HB; have HO_12 := n0_; have HB := n1_; clear n0_ n1_; (try clear hb); (try clear hb2); (try clear hk); (try clear hi)))
                   go_ret
                   exact ⟨by first | rfl | (simp [errW_none, errW_some] <;> rfl) | (simp [*, errW_none, errW_some] <;> rfl), by repeat (first | (with_reducible first | exact HB.out | apply below_alloc | apply pw_below_drewN | apply below_drew1) | exact HB.out)⟩
      ·rw [if_neg c14] at H
       exact absurd H (by simp)
     ·rw [if_neg c13] at H
      exact absurd H (by simp)
    ·rw [if_neg c12] at H
     exact absurd H (by simp)
   ·rw [if_neg c11] at H
    exact absurd H (by simp)
  ·rw [if_neg c10] at H
   have c10b0 : (t612 == 0) = false := beq_eq_false_iff_ne.mpr c10
   have c10b1 : (t612 != 0) = true := bne_iff_ne.mpr c10
   obtain rfl := Option.some.inj H
   go_enter Try.func8, Try.ntmps8
   go_wp2_with (first | ((with_reducible refine gate_callee (f := 17) rfl ?_); refine goesL_ (some 21) rfl rfl Try.func17 (by kernel_rfl) rfl #[.slice A0 l0.length c0, .slice A1 l1.length c1] rfl (by (try simp only [List.map_toArray, List.map_cons, List.map_nil]); first | done | rfl | (simp only [List.length_drop, List.length_take]; rfl)) ?_; (with_reducible refine (parallaxlaw15_many.calls _ _ l0 _ _ l1 false _ ?side1 ?side2 ?side3 ?side4 A4.out).mono ?_); (case side1 => repeat (first | exact HR0.out | (with_reducible refine Kd.C_alloc ?_ _) | (with_reducible refine Kd.C_drewN ?_ _) | (with_reducible refine Kd.C_drew ?_))); (case side2 => exact HC0.out); (case side3 => repeat (first | exact HR1.out | (with_reducible refine Kd.C_alloc ?_ _) | (with_reducible refine Kd.C_drewN ?_ _) | (with_reducible refine Kd.C_drew ?_))); (case side4 => exact HC1.out); rintro e w' ⟨rfl, ⟨nd, rfl⟩⟩; refine ⟨_, rfl, ?_⟩) | ((with_reducible refine gate_callee (f := 18) rfl ?_); refine goesL_ (some 27) rfl rfl Try.func18 (by kernel_rfl) rfl #[.slice A0 l0.length c0, .slice A1 l1.length c1, .int .i64 a2] rfl (by (try simp only [List.map_toArray, List.map_cons, List.map_nil]); first | done | rfl | (simp only [List.length_drop, List.length_take]; rfl)) ?_; (with_reducible refine (align_Match.calls k _ _ l0 _ _ l1 a2 t607 t608 _ ?side1 ?side2 ?side3 ?side4 A8.out).mono ?_); (case side1 => repeat (first | exact HR0.out | (with_reducible refine Kd.C_alloc ?_ _) | (with_reducible refine Kd.C_drewN ?_ _) | (with_reducible refine Kd.C_drew ?_))); (case side2 => exact HC0.out); (case side3 => repeat (first | exact HR1.out | (with_reducible refine Kd.C_alloc ?_ _) | (with_reducible refine Kd.C_drewN ?_ _) | (with_reducible refine Kd.C_drew ?_))); (case side4 => exact HC1.out); rintro e w81 ⟨v609, rfl, ho0, hb⟩; refine ⟨_, rfl, ?_⟩; have n0_ := Aside0.mk (Kd.R_lower ho0 (below_size (by repeat (first | (with_reducible first | exact HB.out | apply below_alloc | apply pw_below_drewN | apply below_drew1) | exact HB.out)))); have n1_ := Aside0.mk (below_step (by repeat (first | (with_reducible first | exact HB.out | apply below_alloc | apply pw_below_drewN | apply below_drew1) | exact HB.out)) hb); clear HB; have HO610 := n0_; have HB := n1_; clear n0_ n1_; (try clear hb); (try clear hb2); (try clear hk); (try clear hi); (try clear ho0); obtain ⟨Ao82, co82, eo82⟩ := Kd.R_slice HO610.out; subst eo82) | ((with_reducible refine gate_callee (f := 24) rfl ?_); refine goesL_ (some 36) rfl rfl Try.func24 (by kernel_rfl) rfl #[.int .i64 (l0.length : Int), .int .i64 (l1.length : Int), .slice Ao82 t607.length co82] rfl (by (try simp only [List.map_toArray, List.map_cons, List.map_nil]); first | done | rfl | (simp only [List.length_drop, List.length_take]; rfl)) ?_; (with_reducible refine (align_Regions.calls k (l0.length : Int) (l1.length : Int) _ _ t607 t611 t612 _ ?side1 ?side2 A9.out).mono ?_); (case side1 => repeat (first | exact (Kd.R_reads' HO610.out).2.2 | (with_reducible refine Kd.C_alloc ?_ _) | (with_reducible refine Kd.C_drewN ?_ _) | (with_reducible refine Kd.C_drew ?_))); (case side2 => exact (Kd.R_reads' HO610.out).2.1); rintro e w83 ⟨v613, rfl, ho0, hb⟩; refine ⟨_, rfl, ?_⟩; have n0_ := Aside0.mk (Kd.R_below (by (with_reducible repeat (first | apply Kd.R_alloc | apply Kd.R_drewN | apply Kd.R_drew)); exact HO610.out) hb); have n1_ := Aside0.mk (Kd.R_lower ho0 (below_size (by repeat (first | (with_reducible first | exact HB.out | apply below_alloc | apply pw_below_drewN | apply below_drew1) | exact HB.out)))); have n2_ := Aside0.mk (below_step (by repeat (first | (with_reducible first | exact HB.out | apply below_alloc | apply pw_below_drewN | apply below_drew1) | exact HB.out)) hb); clear HO610; clear HB; have HO610 := n0_; have HO614 := n1_; have HB := n2_; clear n0_ n1_ n2_; (try clear hb); (try clear hb2); (try clear hk); (try clear hi); (try clear ho0)))
   go_ret
   exact ⟨by first | rfl | (simp [errW_none, errW_some] <;> rfl) | (simp [*, errW_none, errW_some] <;> rfl), by repeat (first | (with_reducible first | exact HB.out | apply below_alloc | apply pw_below_drewN | apply below_drew1) | exact HB.out)⟩

/-- THE ONE PURE STATEMENT of parallaxlaw15_AlignAll. -/
def parallaxlaw15_AlignAll.Pure : Prop := ∀ (l0 : List (S24)) (l1 : List (S24)) (a2 : Int), (l0.length * 16 ≤ 140737488351232 ∧ ∀ y0 ∈ l0, ((Lit.int .i64 y0.f0).wf = true ∧ (Lit.int .i64 y0.f1).wf = true)) → (l1.length * 16 ≤ 140737488351232 ∧ ∀ y1 ∈ l1, ((Lit.int .i64 y1.f0).wf = true ∧ (Lit.int .i64 y1.f1).wf = true)) → (Lit.int .i64 a2).wf = true → ∃ k, parallaxlaw15_AlignAll.f k l0 l1 a2 = some true

end Go.Proofs.Ythbgbeelcnfofaa.P
