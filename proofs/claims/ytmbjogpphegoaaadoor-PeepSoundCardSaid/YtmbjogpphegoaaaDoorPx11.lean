-- Written by a program of this session (its own turn of the print: wip/patch_print.py), not by hand. Lean checks it.
import Derived.Test.YtmbjogpphegoaaaDoorWZip3
import Derived.Test.YtmbjogpphegoaaaDoorPx0
namespace Go.Proofs.YtmbjogpphegoaaaDoor.P
open Go.RowKit Go.Proofs.YtmbjogpphegoaaaDoorW.PrintWords Go.Proofs.YtmbjogpphegoaaaDoorW.PrintLast Go.Proofs.YtmbjogpphegoaaaDoorW.PrintMore
attribute [local go_sem] max2_int min2_int max_two min_two max_three min_three max_four min_four
set_option linter.unusedVariables false
set_option linter.unusedSimpArgs false

/-! ### peep_sight_part: function 61 -/
def peep_sight_part.l0 : Nat → Int → Int → Int → List (S40) → List (S40) → List Bool → List Bool → Option ((List (S40)))
 | 0, _, _, _, _, _, _, _ => none
 | k + 1, x1, x2, x7, x9600, x241000, x241001, x241002 => if x7 < x2 then (if 0 ≤ (wrap64 (x1 + x7)) then (if (wrap64 (x1 + x7)) < (x241002.length : Int) then (if rdOf false x241002 (wrap64 (x1 + x7)) = true then (some ([] : List (S40))) else (peep_sight_part.l0 k x1 x2 (wrap64 (x7 + 1)) x9600 x241000 x241001 x241002)) else (none)) else (none)) else (if 0 ≤ x1 then (if x1 ≤ (wrap64 (x1 + x2)) then (if (wrap64 (x1 + x2)) ≤ (x9600.length : Int) then (some ((x9600.take ((wrap64 (x1 + x2)) : Int).toNat).drop (x1 : Int).toNat)) else (none)) else (none)) else (none))
def peep_sight_part.f (k : Nat) (l0 : List (S40)) (a1 : Int) (a2 : Int) (l3 : List Bool) (l4 : List Bool) : Option ((List (S40))) := if a2 > (wrap64 ((l0.length : Int) - a1)) then (some ([] : List (S40))) else (peep_sight_part.l0 k a1 a2 1 l0 l0 l3 l4)
theorem peep_sight_part.mono_l : ∀ k, (∀ y0 y1 y2 y3 y4 y5 y6, LeO (peep_sight_part.l0 k y0 y1 y2 y3 y4 y5 y6) (peep_sight_part.l0 (k + 1) y0 y1 y2 y3 y4 y5 y6))
 | 0 => fun _ _ _ _ _ _ _ r h => by simp [peep_sight_part.l0] at h
 | k + 1 => by
  have ih0 := peep_sight_part.mono_l k
  ·intro y0 y1 y2 y3 y4 y5 y6
   unfold peep_sight_part.l0
   repeat' (with_reducible first | apply ih0 | exact LeO.refl _ | exact LeO.none _ | refine LeO.ite ?_ ?_ | refine LeO.bind ?_ (fun _ => ?_))
theorem peep_sight_part.mono : ∀ a0 a1 a2 a3 a4 k, LeO (peep_sight_part.f k a0 a1 a2 a3 a4) (peep_sight_part.f (k + 1) a0 a1 a2 a3 a4) := by
 intro a0 a1 a2 a3 a4 k
 have ih0 := peep_sight_part.mono_l k
 unfold peep_sight_part.f
 repeat' (with_reducible first | apply ih0 | exact LeO.refl _ | exact LeO.none _ | refine LeO.ite ?_ ?_ | refine LeO.bind ?_ (fun _ => ?_))
theorem cut_mid3 {P : Program} (t e : TypeId) (kl kh km : IntKind) {i : TypeInfo} (ht : P.underlying t = some (.slice e)) (hi : P.info? e = some i) (size : Nat) (hsz : i.size = size) (A : Option Addr) (n c : Nat) (lo hi' : Int) (h0 : 0 ≤ lo) (h1 : lo < hi') (h2 : hi' ≤ n) (hc : n ≤ c) :
    ∀ W : World, (Instr.slice t (.slice A n c) (some (.int kl lo)) (some (.int kh hi')) (some (.int km hi'))).run P W = .ok (.slice (if c = lo.toNat then A else A.map (·.add (lo.toNat * size))) (hi'.toNat - lo.toNat) (hi'.toNat - lo.toNat)) W := by
  intro W
  have hel : P.elem t = e := by simp [Program.elem, ht]
  have hu : P.underlying t = some (.slice (P.elem t)) := by rw [hel]; exact ht
  rw [run_slice_lhm W t A n c hu kl kh km lo hi' hi' h0 (by omega) (by omega) (by omega), hel]
  have e1 : ¬ hi'.toNat = lo.toNat := by omega
  have e2 : ¬ c = lo.toNat := by omega
  simp [sizeOf, typeInfo, hi, hsz, sliced, Result.andThen, e1, e2]
theorem wrap_gt {a b : Int} (h0 : 0 ≤ a) (h1 : 1 ≤ b) (h2 : b < 9223372036854775808) (h3 : a ≤ wrap64 (a + b)) (h4 : wrap64 (a + b) ≤ 9223372036854775807) : a < wrap64 (a + b) := by
  unfold wrap64 at *
  omega
set_option maxHeartbeats 8000000 in
set_option maxRecDepth 100000 in
theorem peep_sight_part.calls0 (gb240 : Nat) (k : Nat) (P0_ : Nat → Prop) (A0 : Option Addr) (c0 : Nat) (l0 : List (S40)) (a1 : Int) (a2 : Int) (A3 : Option Addr) (c3 : Nat) (l3 : List Bool) (A4 : Option Addr) (c4 : Nat) (l4 : List Bool) (r : List (S40)) (w w7 : World) (hs0 : Kd.V k40 40 w w.heap.size (fun k_ => P0_ k_) (.slice A0 l0.length c0) l0) (hr3 : Kd.C Kd.bool w A3 l3.length l3) (hc3 : l3.length ≤ c3) (hr4 : Kd.C Kd.bool w A4 l4.length l4) (hc4 : l4.length ≤ c4) (hne : ∀ k_, P0_ k_ → k_ ≠ gb240) (hbox : w7.heap[gb240]? = some (.cells #[.slice A0 l0.length c0, .slice A3 l3.length c3, .slice A4 l4.length c4] 111 (0, 0))) (hw3 : w7 = w) (hn1 : 1 ≤ a2 ∧ a2 < 9223372036854775808) (h : peep_sight_part.f k l0 a1 a2 l3 l4 = some r) :
  Calls Tryd.prog 61 #[.pointer (some ⟨gb240, 0, none⟩), .int .i64 a1, .int .i64 a2] w7 fun e w' => ∃ v0_ : Value, e = .returned (v0_) ∧ Kd.V k40 40 w' w.heap.size (fun k_ => (P0_ k_ ∨ w.heap.size ≤ k_)) v0_ r ∧ (r = [] → v0_ = .slice none 0 0) ∧ Below w.heap.size w w' := by
 have hu111 := Tryd.underlying111; have HO0 := Aside0.mk (show Kd.V k40 40 w w.heap.size (fun k_ => (P0_ k_ ∨ w.heap.size ≤ k_)) (.slice A0 l0.length c0) l0 from Kd.V_mono hs0 (fun k_ hk => .inl hk)); have HR3 := Aside0.mk hr3; have HC3 := Aside0.mk hc3; clear hr3 hc3; have HR4 := Aside0.mk hr4; have HC4 := Aside0.mk hc4; clear hr4 hc4; have HB := Aside0.mk (Below.refl w.heap.size w); have H : (if a2 > (wrap64 ((l0.length : Int) - a1)) then (some ([] : List (S40))) else (peep_sight_part.l0 k a1 a2 1 l0 l0 l3 l4)) = some r := h; clear h; have HH_ := Aside0.mk H; clear H; have BK240 := Aside0.mk hbox; have n0_ := Aside0.mk (show Below w.heap.size w w7 from by subst hw3; exact Below.refl _ _); have n1_ := Aside0.mk (show Kd.V k40 40 w7 w.heap.size (fun k_ => (P0_ k_ ∨ w.heap.size ≤ k_) ∧ k_ ≠ gb240) (.slice A0 l0.length c0) l0 from by subst hw3; exact Kd.V_mono hs0 (fun k_ hk => ⟨.inl hk, hne k_ hk⟩)); clear HO0; have HO0 := n1_; clear n1_ hw3 HB; have HB := n0_; clear n0_ hbox; have hczr_0 : w7.cell? ⟨gb240, 0, none⟩ = some (.slice A0 l0.length c0) := (blk_cell BK240.out 0).trans rfl; have hfzr_0 := blk_frozen BK240.out 0; have hczr_1 : w7.cell? ⟨gb240, 1, none⟩ = some (.slice A3 l3.length c3) := (blk_cell BK240.out 1).trans rfl; have hfzr_1 := blk_frozen BK240.out 1; have hczr_2 : w7.cell? ⟨gb240, 2, none⟩ = some (.slice A4 l4.length c4) := (blk_cell BK240.out 2).trans rfl; have hfzr_2 := blk_frozen BK240.out 2; refine ?roundEnd; go_enter Tryd.func61, Tryd.ntmps61
 go_wp2_with (first | fail)
 case roundEnd =>
  have H := HH_.out; clear HH_
  by_cases c6 : a2 > (wrap64 ((l0.length : Int) - a1))
  ·rw [if_pos c6] at H; have c6b0 : decide ((wrap64 ((l0.length : Int) - a1)) < a2) = true := decide_eq_true c6; clear c6; obtain rfl := Option.some.inj H; go_wp2; go_ret; exact ⟨.slice none 0 0, pe, Kd.V_nil _ _ _ _ _, (by first | rfl | (intro _; rfl)), bl⟩
  ·rw [if_neg c6] at H; have c6b0 : decide ((wrap64 ((l0.length : Int) - a1)) < a2) = false := decide_eq_false c6; clear c6; have H' := Aside0.mk H; clear H; go_wp2
   go_loopg [7] k (fun kq v7 w' => ∃ (x7_1 : Int), v7 = .int .i64 x7_1 ∧ Aside0 (peep_sight_part.l0 kq a1 a2 x7_1 l0 l0 l3 l4 = some r) ∧ Aside0 (kq ≤ k) ∧ Aside0 (Kd.V k40 40 w' w.heap.size (fun k_ => (P0_ k_ ∨ w.heap.size ≤ k_) ∧ k_ ≠ gb240) (.slice A0 l0.length c0) l0) ∧ Aside0 (Kd.V k40 40 w' w.heap.size (fun k_ => (P0_ k_ ∨ w.heap.size ≤ k_) ∧ k_ ≠ gb240) (.slice A0 l0.length c0) l0) ∧ Aside0 (w'.heap[gb240]? = some (.cells #[(.slice A0 l0.length c0), (.slice A3 l3.length c3), (.slice A4 l4.length c4)] 111 (0, 0))) ∧ Aside0 (Below w.heap.size w w'))
   case atStart => exact ⟨(1), pr, H', ⟨Nat.le_refl _⟩, ⟨bV HO0.out⟩, ⟨bV HO0.out⟩, ⟨bk⟩, ⟨bl⟩⟩
   case round =>
    clear H'; (try clear c6b0); obtain ⟨x7_1, rfl, HA, HK1, HO_9600, HO_241000, BK240, HB⟩ := hrel; have hczr_0 : wr.cell? ⟨gb240, 0, none⟩ = some (.slice A0 l0.length c0) := (blk_cell BK240.out 0).trans rfl; have hfzr_0 := blk_frozen BK240.out 0; have hczr_1 : wr.cell? ⟨gb240, 1, none⟩ = some (.slice A3 l3.length c3) := (blk_cell BK240.out 1).trans rfl; have hfzr_1 := blk_frozen BK240.out 1; have hczr_2 : wr.cell? ⟨gb240, 2, none⟩ = some (.slice A4 l4.length c4) := (blk_cell BK240.out 2).trans rfl; have hfzr_2 := blk_frozen BK240.out 2
    cases gk with
    | zero => exact absurd HA.out (by simp [peep_sight_part.l0])
    | succ k1 =>
     have H := HA.out; clear HA; simp only [peep_sight_part.l0] at H
     by_cases c9 : x7_1 < a2
     ·rw [if_pos c9] at H; have c9b0 := decide_eq_true c9; clear c9; obtain ⟨ji10, hji10⟩ : ∃ j_ : Int, (wrap64 (a1 + x7_1)) = j_ := ⟨_, rfl⟩; replace H : (if 0 ≤ (ji10) then (if (ji10) < (l4.length : Int) then (if rdOf false l4 (ji10) = true then (some ([] : List (S40))) else (peep_sight_part.l0 k1 a1 a2 (wrap64 (x7_1 + 1)) l0 l0 l3 l4)) else (none)) else (none)) = some r := by first | (rw [hji10] at H; exact H) | (simp only [hji10] at H ⊢; exact H)
      have hji10w : (IntKind.i64.wrap (a1 + x7_1)) = ji10 := (i64_w _).trans hji10
      replace H := it (c := 0 ≤ (ji10)) H; obtain ⟨c11, H⟩ := H; have c11b0 := decide_eq_true c11; clear c11
      replace H := it (c := (ji10) < (l4.length : Int)) H; obtain ⟨c12, H⟩ := H; have c12b0 := decide_eq_true c12; clear c12; obtain ⟨bq13, hbq13⟩ : ∃ b_ : Bool, b_ = (rdOf false l4 (ji10)) := ⟨_, rfl⟩; replace H : (if bq13 = true then (some ([] : List (S40))) else (peep_sight_part.l0 k1 a1 a2 (wrap64 (x7_1 + 1)) l0 l0 l3 l4)) = some r := by rw [← hbq13] at H; exact H
      have Nbq13 := Aside0.mk hbq13; clear hbq13; have HH_ := Aside0.mk H; clear H; obtain ⟨hcz15_0, hcz15_1, hcz15_2, hfz15_0, hfz15_1, hfz15_2⟩ := bc3 BK240.out
      have p241 : 0 ≤ ((ji10) : Int) := of_decide_eq_true pa
      have q241 : (ji10) < (l4.length : Int) := of_decide_eq_true pa
      obtain ⟨ad241, e241, hx241_0⟩ := Kd.at_bool HR4.out (ji10) p241 q241; (try rw [← Nbq13.out] at hx241_0)
      cases e241
      replace hx241_0 := pc HB.out hx241_0; replace p241 := eq_true p241; replace q241 := eq_true q241; have H := HH_.out; clear HH_
      by_cases c14 : bq13 = true
      ·subst c14; rw [if_pos rfl] at H; obtain rfl := Option.some.inj H; go_wp2; go_ret; exact ⟨.slice none 0 0, by first | rfl | (simp [errW_none, errW_some] <;> rfl) | (simp only [← hji10]; first | rfl | (simp [errW_none, errW_some] <;> rfl)) | (simp [*, errW_none, errW_some] <;> rfl), Kd.V_nil _ _ _ _ _, (by first | rfl | (intro _; rfl)), bl⟩
      ·replace c14 := Bool.eq_false_iff.mpr c14; subst c14; rw [if_neg (show ¬ (false = true) by decide)] at H; have H' := Aside0.mk H; clear H; go_wp2
       go_roundg k1
       case measure => have := HK1.out; omega
       case rel => exact ⟨(wrap64 (x7_1 + 1)), pr, H', ⟨by have := HK1.out; omega⟩, ⟨bV HO_9600.out⟩, ⟨bV HO_241000.out⟩, ⟨bk⟩, ⟨bl⟩⟩
     ·rw [if_neg c9] at H; have c9b0 := decide_eq_false c9; clear c9
      replace H := it (c := 0 ≤ a1) H; obtain ⟨c17, H⟩ := H; have c17b0 := eq_true c17; have c17b1 := decide_eq_true c17; clear c17
      replace H := it (c := a1 ≤ (wrap64 (a1 + a2))) H; obtain ⟨c18, H⟩ := H; have c18b0 := eq_true c18; have c18b1 := decide_eq_true c18
      replace H := it (c := (wrap64 (a1 + a2)) ≤ (l0.length : Int)) H; obtain ⟨c19, H⟩ := H; have c19b0 := eq_true c19; have c19b1 := decide_eq_true c19; obtain ⟨y242, hy242⟩ : ∃ y_ : List (S40), y_ = ((l0.take ((wrap64 (a1 + a2)) : Int).toNat).drop (a1 : Int).toNat) := ⟨_, rfl⟩; (first | replace H := hs hy242 H | rw [← hy242] at H)
      have Ny242 := Aside0.mk hy242; clear hy242; obtain rfl := Option.some.inj H
      have q20 : ((wrap64 (a1 + a2)) : Int) ≤ ((l0.length : Int) : Int) := of_decide_eq_true pa
      obtain ⟨i020, hi020, _, hsz20, _⟩ := info_parts info40; have hroom20 : l0.length ≤ c0 := (Kd.V_reads' HO_9600.out).2.1; have hC20 : Kd.F k40 _ _ A0 l0.length l0 := (Kd.V_at (base := w.heap.size) HO_9600.out).2.2
      have ql20 : (a1 : Int) ≤ ((wrap64 (a1 + a2)) : Int) := of_decide_eq_true pa
      have q020 : (0 : Int) ≤ (a1 : Int) := of_decide_eq_true pa
      have hlt20 : (a1 : Int) < (wrap64 (a1 + a2)) := wrap_gt q020 hn1.1 hn1.2 ql20 (Int.le_trans q20 (by have := Kd.F_max hC20; omega)); have hcut20 := cut_mid3 (P := Tryd.prog) 33 40 .i64 .i64 .i64 Tryd.underlying33 hi020 3 hsz20 A0 l0.length c0 a1 (wrap64 (a1 + a2)) q020 hlt20 q20 hroom20; have hr20 := Kd.F_mid (lo := (a1 : Int).toNat) (hi := ((wrap64 (a1 + a2)) : Int).toNat) (c := c0) hC20 (by omega) (by omega) hroom20; obtain ⟨A20, hA20⟩ : ∃ A1_, A1_ = (if c0 = (a1 : Int).toNat then A0 else (A0 : Option Addr).map (·.add ((a1 : Int).toNat * 3))) := ⟨_, rfl⟩; have hy20 : y242.length = ((wrap64 (a1 + a2)) : Int).toNat - (a1 : Int).toNat := (by rw [Ny242.out, List.length_drop, List.length_take] <;> omega); rw [show ((l0).take ((wrap64 (a1 + a2)) : Int).toNat).drop (a1 : Int).toNat = y242 from Ny242.out.symm] at hr20; replace hr20 : Kd.F k40 _ _ A20 y242.length y242 := (by rw [hA20]; exact hr20); rw [← hy20, ← hA20] at hcut20; have HO246 := Aside0.mk (show Kd.V k40 40 _ w.heap.size _ (.slice A20 y242.length y242.length) y242 from Kd.V_mk (Nat.le_refl _) hr20); clear hr20 hC20 hroom20 hi020 hsz20; have KY20 := Aside0.mk hy20; have KA20 := Aside0.mk hA20; clear hy20 hA20; replace q20 := eq_true q20; go_wp2; go_ret; exact ⟨_, pe, by (with_reducible repeat (first | apply Kd.V_alloc | apply Kd.V_drewN | apply Kd.V_drew)); exact Kd.V_mono HO246.out (fun _ hk => hk.1), (fun h_ => absurd (congrArg List.length h_) (by have := KY20.out; have := hlt20; simp only [List.length_nil]; omega)), bl⟩
theorem peep_sight_part.calls (gb240 : Nat) (k : Nat) (P0_ : Nat → Prop) (A0 : Option Addr) (c0 : Nat) (l0 : List (S40)) (a1 : Int) (a2 : Int) (A3 : Option Addr) (c3 : Nat) (l3 : List Bool) (A4 : Option Addr) (c4 : Nat) (l4 : List Bool) (r : List (S40)) (w : World) (hs0 : Kd.V k40 40 w w.heap.size (fun k_ => P0_ k_) (.slice A0 l0.length c0) l0) (hr3 : Kd.C Kd.bool w A3 l3.length l3) (hc3 : l3.length ≤ c3) (hr4 : Kd.C Kd.bool w A4 l4.length l4) (hc4 : l4.length ≤ c4) (hne : ∀ k_, P0_ k_ → k_ ≠ gb240) (hbox : w.heap[gb240]? = some (.cells #[.slice A0 l0.length c0, .slice A3 l3.length c3, .slice A4 l4.length c4] 111 (0, 0))) (hn1 : 1 ≤ a2 ∧ a2 < 9223372036854775808) (h : peep_sight_part.f k l0 a1 a2 l3 l4 = some r) :
  Calls Tryd.prog 61 #[.pointer (some ⟨gb240, 0, none⟩), .int .i64 a1, .int .i64 a2] w fun e w' => ∃ v0_ : Value, e = .returned (v0_) ∧ Kd.V k40 40 w' w.heap.size (fun k_ => (P0_ k_ ∨ w.heap.size ≤ k_)) v0_ r ∧ (r = [] → v0_ = .slice none 0 0) ∧ Below w.heap.size w w' := peep_sight_part.calls0 gb240 k P0_ A0 c0 l0 a1 a2 A3 c3 l3 A4 c4 l4 r w w hs0 hr3 hc3 hr4 hc4 hne hbox rfl hn1 h

/-! ### num_Neg: function 72 -/
def num_Neg.f (a0 : Int) : Option (Int) := some (wrap64 (-a0))
set_option maxHeartbeats 8000000 in
set_option maxRecDepth 100000 in
theorem num_Neg.calls (a0 : Int) (r : Int) (w : World) (h : num_Neg.f a0 = some r) :
  Calls Tryd.prog 72 #[.int .i64 a0] w fun e w' => e = .returned (.int .i64 r) ∧ Drawn0 w w' := by
 have H : (some (wrap64 (-a0))) = some r := h; clear h; obtain rfl := Option.some.inj H; go_enter Tryd.func72, Tryd.ntmps72; go_wp2; go_ret; exact ⟨by first | rfl | (simp; done) | (simp [*]; done), by repeat (first | exact Drawn0.refl _ | apply Drawn0.step)⟩

/-! ### peep_unary: function 62 -/
def peep_unary.j0 : Nat → Bool → Int → Int → Int → Option (Int × Int × (List (S40)))
 | 0, _, _, _, _ => none
 | k + 1, x19, x249000, x249001, x249002 => if x19 = true then (some (5, 2, (([(⟨1, 1, 0⟩ : S40)] : List (S40))))) else (if x249000 = 15 then (some (5, 2, (([(⟨1, 0, 0⟩ : S40)] : List (S40))))) else (some (0, 0, ([] : List (S40)))))
def peep_unary.f (k : Nat) (a0_0 : Int) (a0_1 : Int) (a0_2 : Int) (a1_0 : Int) (a1_1 : Int) (a1_2 : Int) : Option (Int × Int × (List (S40))) := if a0_0 = 1 then (if a1_0 = 16 then ((num_Neg.f a0_1).bind fun t250 => (some (5, 2, (([(⟨1, t250, 0⟩ : S40)] : List (S40)))))) else (if a1_0 = 15 then (peep_unary.j0 k (a0_1 == 0) a1_0 a1_1 a1_2) else (peep_unary.j0 k false a1_0 a1_1 a1_2))) else (some (0, 0, ([] : List (S40))))
theorem peep_unary.mono_l : ∀ k, (∀ y0 y1 y2 y3, LeO (peep_unary.j0 k y0 y1 y2 y3) (peep_unary.j0 (k + 1) y0 y1 y2 y3))
 | 0 => fun _ _ _ _ r h => by simp [peep_unary.j0] at h
 | k + 1 => by
  have ih0 := peep_unary.mono_l k
  ·intro y0 y1 y2 y3
   unfold peep_unary.j0
   repeat' (with_reducible first | apply ih0 | exact LeO.refl _ | exact LeO.none _ | refine LeO.ite ?_ ?_ | refine LeO.bind ?_ (fun _ => ?_))
theorem peep_unary.mono : ∀ a0 a1 a2 a3 a4 a5 k, LeO (peep_unary.f k a0 a1 a2 a3 a4 a5) (peep_unary.f (k + 1) a0 a1 a2 a3 a4 a5) := by
 intro a0 a1 a2 a3 a4 a5 k
 have ih0 := peep_unary.mono_l k
 unfold peep_unary.f
 repeat' (with_reducible first | apply ih0 | exact LeO.refl _ | exact LeO.none _ | refine LeO.ite ?_ ?_ | refine LeO.bind ?_ (fun _ => ?_))
set_option maxHeartbeats 8000000 in
set_option maxRecDepth 100000 in
theorem peep_unary.calls (k : Nat) (a0_0 : Int) (a0_1 : Int) (a0_2 : Int) (a1_0 : Int) (a1_1 : Int) (a1_2 : Int) (r1 : Int) (r2 : Int) (r3 : List (S40)) (w : World) (h : peep_unary.f k a0_0 a0_1 a0_2 a1_0 a1_1 a1_2 = some (r1, r2, r3)) :
  Calls Tryd.prog 62 #[.agg #[.int .i64 a0_0, .int .i64 a0_1, .int .i64 a0_2], .agg #[.int .i64 a1_0, .int .i64 a1_1, .int .i64 a1_2]] w fun e w' => ∃ v2_ : Value, e = .returned (.agg #[.int .i64 r1, .int .i64 r2, v2_]) ∧ Kd.R k40 40 w' w.heap.size (fun _ => True) v2_ r3 ∧ Below w.heap.size w w' := by
 have hu40 := Tryd.underlying40; have hu64 := Tryd.underlying64; have HB := Aside0.mk (Below.refl w.heap.size w); have H : (if a0_0 = 1 then (if a1_0 = 16 then ((num_Neg.f a0_1).bind fun t250 => (some (5, 2, (([(⟨1, t250, 0⟩ : S40)] : List (S40)))))) else (if a1_0 = 15 then (peep_unary.j0 k (a0_1 == 0) a1_0 a1_1 a1_2) else (peep_unary.j0 k false a1_0 a1_1 a1_2))) else (some (0, 0, ([] : List (S40))))) = some (r1, r2, r3) := h; clear h
 by_cases c3 : a0_0 = 1
 ·rw [if_pos c3] at H; obtain ⟨c3b0, c3b1⟩ := eqs c3; clear c3
  by_cases c4 : a1_0 = 16
  ·rw [if_pos c4] at H; obtain ⟨c4b0, c4b1⟩ := eqs c4; clear c4; replace H := ob H; obtain ⟨t250, A5, H⟩ := H; obtain ⟨y251, hy251⟩ : ∃ y_ : List (S40), y_ = (([(⟨1, t250, 0⟩ : S40)] : List (S40))) := ⟨_, rfl⟩; (first | replace H := hs hy251 H | rw [← hy251] at H)
   have Ny251 := Aside0.mk hy251; clear hy251; simp only [Option.some.injEq, Prod.mk.injEq] at H; obtain ⟨rfl, rfl, rfl⟩ := H; go_enter Tryd.func62, Tryd.ntmps62
   go_wp2_with (first | ((with_reducible refine gate_dst (N := 2) rfl ?_); refine bx 2 #[.int .i64 a0_0, .int .i64 a0_1, .int .i64 a0_2] 40 ?_; intro gb247 hg w6 hbox hb; have n_ := an4 (below_step bl hb) (hbox) (bg hg) (bg hg); clear HB; obtain ⟨HB, BK247, GW247, GE247⟩ := n_; clear hb hbox hg) | ((with_reducible refine gate_dst (N := 3) rfl ?_); refine bx 3 #[.int .i64 a1_0, .int .i64 a1_1, .int .i64 a1_2] 40 ?_; intro gb248 hg w7 hbox hb; have n_ := an7 (bu BK247.out hb) (below_step bl hb) (hbox) (bg hg) (bg hg) ((by rw [hg]; exact Nat.ne_of_lt (blk_lt (g := gb247) (o := .cells #[.int .i64 a0_0, .int .i64 a0_1, .int .i64 a0_2] 40 (0, 0)) bk) : gb247 ≠ gb248)) ((by rw [hg]; exact Nat.ne_of_gt (blk_lt (g := gb247) (o := .cells #[.int .i64 a0_0, .int .i64 a0_1, .int .i64 a0_2] 40 (0, 0)) bk) : gb248 ≠ gb247)); clear BK247 HB; obtain ⟨BK247, HB, BK248, GW248, GE248, NB247_248, NB248_247⟩ := n_; clear hb hbox hg) | ((with_reducible refine gate_dst (N := 4) rfl ?_); refine bx 4 #[.int .i64 0, .int .i64 0, .slice none 0 0] 64 ?_; intro gb249 hg w8 hbox hb; have n_ := an10 (bu BK247.out hb) (bu BK248.out hb) (below_step bl hb) (hbox) (bg hg) (bg hg) ((by rw [hg]; exact Nat.ne_of_lt (blk_lt (g := gb247) (o := .cells #[.int .i64 a0_0, .int .i64 a0_1, .int .i64 a0_2] 40 (0, 0)) bk) : gb247 ≠ gb249)) ((by rw [hg]; exact Nat.ne_of_gt (blk_lt (g := gb247) (o := .cells #[.int .i64 a0_0, .int .i64 a0_1, .int .i64 a0_2] 40 (0, 0)) bk) : gb249 ≠ gb247)) ((by rw [hg]; exact Nat.ne_of_lt (blk_lt (g := gb248) (o := .cells #[.int .i64 a1_0, .int .i64 a1_1, .int .i64 a1_2] 40 (0, 0)) bk) : gb248 ≠ gb249)) ((by rw [hg]; exact Nat.ne_of_gt (blk_lt (g := gb248) (o := .cells #[.int .i64 a1_0, .int .i64 a1_1, .int .i64 a1_2] 40 (0, 0)) bk) : gb249 ≠ gb248)); clear BK247 BK248 HB; obtain ⟨BK247, BK248, HB, BK249, GW249, GE249, NB247_249, NB249_247, NB248_249, NB249_248⟩ := n_; clear hb hbox hg; have hnb9 := NB247_248.out; have hnc9 := NB248_247.out; have hnb10 := NB247_249.out; have hnc10 := NB249_247.out; obtain ⟨hcz11_0, hcz11_1, hcz11_2, hfz11_0, hfz11_1, hfz11_2⟩ := bc3 BK247.out; have hnb12 := NB248_249.out; have hnc12 := NB249_248.out; obtain ⟨hcz13_0, hcz13_1, hcz13_2⟩ := bd3 BK248.out; have hfz13_0 := blk_frozen BK248.out 0; have hfz13_1 := blk_frozen BK248.out 1; have hfz13_2 := blk_frozen BK248.out 2) | ((with_reducible refine gate_callee (f := 72) rfl ?_); refine goesL_ (some 15) rfl rfl Tryd.func72 (by kernel_rfl) rfl #[.int .i64 a0_1] rfl (by (try simp only [List.map_toArray, List.map_cons, List.map_nil]); first | done | rfl | (simp only [List.length_drop, List.length_take]; rfl)) ?_; (with_reducible refine (num_Neg.calls a0_1 t250 _ A5.out).mono ?_); rintro e w' ⟨rfl, ⟨nd, rfl⟩⟩; refine ⟨_, rfl, ?_⟩; (try (rw [drewN_self w8]; generalize hq_ : World.drewN w8 _ = w8; have n0_ : Aside0 (w8.heap[gb247]? = some (.cells #[.int .i64 a0_0, .int .i64 a0_1, .int .i64 a0_2] 40 (0, 0))) := ⟨by rw [← hq_]; exact bk⟩; have n1_ : Aside0 (w8.heap[gb248]? = some (.cells #[.int .i64 a1_0, .int .i64 a1_1, .int .i64 a1_2] 40 (0, 0))) := ⟨by rw [← hq_]; exact bk⟩; have n2_ : Aside0 (w8.heap[gb249]? = some (.cells #[.int .i64 0, .int .i64 0, .slice none 0 0] 64 (0, 0))) := ⟨by rw [← hq_]; exact bk⟩; have n3_ : Aside0 (Below w.heap.size w w8) := ⟨by rw [← hq_]; exact bl⟩; clear BK247 BK248 BK249 HB hq_; have BK247 := n0_; have BK248 := n1_; have BK249 := n2_; have HB := n3_; clear n0_ n1_ n2_ n3_))) | ((with_reducible refine gate_dst (N := 17) rfl ?_); refine Kd.R_lit k40 _ 40 ?hg (N := 17) ?hd (xs := ([(⟨1, t250, 0⟩ : S40)] : List (S40))) (inner := [.int .i64 1, .int .i64 t250, .int .i64 0]) (ok := fun _ => True) (okp := fun _ => True) ?hr ?hp (fun _ hk => hk) trivial (Below.refl _ _) (Nat.le_refl _) (by simp) ?_; (case hd => rfl); (case hg => rfl); (case hr => first | (go_simp; done) | (go_simp; rfl)); (case hp => exact (Reps.c3 (show Kd.M k40 _ _ _ (⟨1, t250, 0⟩ : S40) [.int .i64 1, .int .i64 t250, .int .i64 0] from (k40_mkM _ _ _ (⟨1, t250, 0⟩ : S40) )) (Reps.none _ _))); intro v252 w14 ho15 hb hg_ hnew_; clear hg_ hnew_; (first | rw [← Ny251.out] at ho15 | (simp only [Int.reduceToNat] at ho15; rw [← Ny251.out] at ho15)); have n_ := an5 (Kd.R_lower (Kd.R_newB (Kd.R_newB ho15 (g := gb247) (o := .cells #[.int .i64 a0_0, .int .i64 a0_1, .int .i64 a0_2] 40 (0, 0)) bk) (g := gb248) (o := .cells #[.int .i64 a1_0, .int .i64 a1_1, .int .i64 a1_2] 40 (0, 0)) bk) (below_size bl)) (bu BK247.out hb) (bu BK248.out hb) (bu BK249.out hb) (below_step bl hb); clear BK247 BK248 BK249 HB; obtain ⟨HO253, BK247, BK248, BK249, HB⟩ := n_; clear hb ho15; obtain ⟨Ao16, co16, eo16⟩ := Kd.R_slice HO253.out; subst eo16; obtain ⟨hcz17_0, hcz17_1, hcz17_2⟩ := bd3 BK249.out; have hfz17_0 := blk_frozen BK249.out 0; have hfz17_1 := blk_frozen BK249.out 1; have hfz17_2 := blk_frozen BK249.out 2))
   refine bodyPost_ret (results_cell_row rfl _ _ gb249 64 #[.int .i64 5, .int .i64 2, .slice Ao16 y251.length co16] (0, 0) _ rfl (by exact bp3 (bq BK249.out)) Tryd.underlying64 rfl (by kernel_rfl)) rfl ?_
   exact ⟨_, pe, by (with_reducible repeat (first | apply Kd.R_alloc | apply Kd.R_drewN | apply Kd.R_drew)); exact Kd.R_mono (rf3 (g := gb249) (Kd.R_types HO253.out BK249.out (by decide)) (fun _ hk => hk.2)) (fun _ hk => trivial), bl⟩
  ·rw [if_neg c4] at H; obtain ⟨c4b0, c4b1⟩ := eqf c4; have HC18 := Aside0.mk H; clear H; go_enter Tryd.func62, Tryd.ntmps62
   go_upto_region 4 with (first | ((with_reducible refine gate_dst (N := 2) rfl ?_); refine bx 2 #[.int .i64 a0_0, .int .i64 a0_1, .int .i64 a0_2] 40 ?_; intro gb247 hg w19 hbox hb; have n_ := an4 (below_step bl hb) (hbox) (bg hg) (bg hg); clear HB; obtain ⟨HB, BK247, GW247, GE247⟩ := n_; clear hb hbox hg) | ((with_reducible refine gate_dst (N := 3) rfl ?_); refine bx 3 #[.int .i64 a1_0, .int .i64 a1_1, .int .i64 a1_2] 40 ?_; intro gb248 hg w20 hbox hb; have n_ := an7 (bu BK247.out hb) (below_step bl hb) (hbox) (bg hg) (bg hg) ((by rw [hg]; exact Nat.ne_of_lt (blk_lt (g := gb247) (o := .cells #[.int .i64 a0_0, .int .i64 a0_1, .int .i64 a0_2] 40 (0, 0)) bk) : gb247 ≠ gb248)) ((by rw [hg]; exact Nat.ne_of_gt (blk_lt (g := gb247) (o := .cells #[.int .i64 a0_0, .int .i64 a0_1, .int .i64 a0_2] 40 (0, 0)) bk) : gb248 ≠ gb247)); clear BK247 HB; obtain ⟨BK247, HB, BK248, GW248, GE248, NB247_248, NB248_247⟩ := n_; clear hb hbox hg) | ((with_reducible refine gate_dst (N := 4) rfl ?_); refine bx 4 #[.int .i64 0, .int .i64 0, .slice none 0 0] 64 ?_; intro gb249 hg w21 hbox hb; have n_ := an10 (bu BK247.out hb) (bu BK248.out hb) (below_step bl hb) (hbox) (bg hg) (bg hg) ((by rw [hg]; exact Nat.ne_of_lt (blk_lt (g := gb247) (o := .cells #[.int .i64 a0_0, .int .i64 a0_1, .int .i64 a0_2] 40 (0, 0)) bk) : gb247 ≠ gb249)) ((by rw [hg]; exact Nat.ne_of_gt (blk_lt (g := gb247) (o := .cells #[.int .i64 a0_0, .int .i64 a0_1, .int .i64 a0_2] 40 (0, 0)) bk) : gb249 ≠ gb247)) ((by rw [hg]; exact Nat.ne_of_lt (blk_lt (g := gb248) (o := .cells #[.int .i64 a1_0, .int .i64 a1_1, .int .i64 a1_2] 40 (0, 0)) bk) : gb248 ≠ gb249)) ((by rw [hg]; exact Nat.ne_of_gt (blk_lt (g := gb248) (o := .cells #[.int .i64 a1_0, .int .i64 a1_1, .int .i64 a1_2] 40 (0, 0)) bk) : gb249 ≠ gb248)); clear BK247 BK248 HB; obtain ⟨BK247, BK248, HB, BK249, GW249, GE249, NB247_249, NB249_247, NB248_249, NB249_248⟩ := n_; clear hb hbox hg; have hnb22 := NB247_248.out; have hnc22 := NB248_247.out; have hnb23 := NB247_249.out; have hnc23 := NB249_247.out; obtain ⟨hcz24_0, hcz24_1, hcz24_2, hfz24_0, hfz24_1, hfz24_2⟩ := bc3 BK247.out; have hnb25 := NB248_249.out; have hnc25 := NB249_248.out; obtain ⟨hcz26_0, hcz26_1, hcz26_2⟩ := bd3 BK248.out; have hfz26_0 := blk_frozen BK248.out 0; have hfz26_1 := blk_frozen BK248.out 1; have hfz26_2 := blk_frozen BK248.out 2))
   (try simp only [Act.put, List.setIfInBounds_toArray, List.set_cons_zero, List.set_cons_succ])
   go_cut [19] (fun v19 wc => ∃ (kq : Nat) (x19_17 : Bool), v19 = .bool x19_17 ∧ Aside0 (peep_unary.j0 kq x19_17 a1_0 a1_1 a1_2 = some (r1, r2, r3)) ∧ Aside0 (kq ≤ k) ∧ Aside0 (wc.heap[gb247]? = some (.cells #[.int .i64 a0_0, .int .i64 a0_1, .int .i64 a0_2] 40 (0, 0))) ∧ Aside0 (wc.heap[gb248]? = some (.cells #[.int .i64 a1_0, .int .i64 a1_1, .int .i64 a1_2] 40 (0, 0))) ∧ Aside0 (wc.heap[gb249]? = some (.cells #[.int .i64 0, .int .i64 0, (.slice none 0 0)] 64 (0, 0))) ∧ Aside0 (Below w.heap.size w wc))
   case first =>
    have H := HC18.out; clear HC18
    by_cases c27 : a1_0 = 15
    ·rw [if_pos c27] at H; obtain ⟨c27b0, c27b1⟩ := eqs c27; clear c27; (first | rw [c27b0] | (simp only [i64_w, i32_w]; rw [c27b0]) | skip); have H' := Aside0.mk H; clear H; have hnb28 := NB248_247.out; have hnc28 := NB247_248.out; have hnb29 := NB248_249.out; have hnc29 := NB249_248.out; obtain ⟨hcz30_0, hcz30_1, hcz30_2, hfz30_0, hfz30_1, hfz30_2⟩ := bc3 BK248.out; have hnb31 := NB247_249.out; have hnc31 := NB249_247.out; obtain ⟨hcz32_0, hcz32_1, hcz32_2, hfz32_0, hfz32_1, hfz32_2⟩ := bc3 BK247.out; go_wp2; go_meet
     case rel => exact ⟨_, ((a0_1 == 0)), pr, H', ⟨by first | omega | exact Nat.le_refl _⟩, ⟨bk⟩, ⟨bk⟩, ⟨bk⟩, ⟨bl⟩⟩
    ·rw [if_neg c27] at H; obtain ⟨c27b0, c27b1⟩ := eqf c27; (first | rw [c27b0] | (simp only [i64_w, i32_w]; rw [c27b0]) | skip); have H' := Aside0.mk H; clear H; have hnb33 := NB248_247.out; have hnc33 := NB247_248.out; have hnb34 := NB248_249.out; have hnc34 := NB249_248.out; obtain ⟨hcz35_0, hcz35_1, hcz35_2, hfz35_0, hfz35_1, hfz35_2⟩ := bc3 BK248.out; go_wp2; go_meet
     case rel => exact ⟨_, (false), pr, H', ⟨by first | omega | exact Nat.le_refl _⟩, ⟨bk⟩, ⟨bk⟩, ⟨bk⟩, ⟨bl⟩⟩
   case rest =>
    clear HC18; (try clear c3b0); (try clear c3b1); (try clear c4); (try clear c4b0); (try clear c4b1); (try clear hcz24_0); (try clear hcz24_1); (try clear hcz24_2); (try clear hcz26_0); (try clear hcz26_1); (try clear hcz26_2); (try clear hfz24_0); (try clear hfz24_1); (try clear hfz24_2); (try clear hfz26_0); (try clear hfz26_1); (try clear hfz26_2); obtain ⟨kq, x19_17, rfl, HA, HJ17, BK247, BK248, BK249, HB⟩ := hcut
    cases kq with
    | zero => exact absurd HA.out (by simp [peep_unary.j0])
    | succ kj17 =>
     have H := HA.out; clear HA; simp only [peep_unary.j0] at H
     by_cases c36 : x19_17 = true
     ·subst c36; rw [if_pos rfl] at H; obtain ⟨y254, hy254⟩ : ∃ y_ : List (S40), y_ = (([(⟨1, 1, 0⟩ : S40)] : List (S40))) := ⟨_, rfl⟩; (first | replace H := hs hy254 H | rw [← hy254] at H)
      have Ny254 := Aside0.mk hy254; clear hy254; simp only [Option.some.injEq, Prod.mk.injEq] at H; obtain ⟨rfl, rfl, rfl⟩ := H
      go_wp2_with (first | ((with_reducible refine gate_dst (N := 29) rfl ?_); refine Kd.R_lit k40 _ 40 ?hg (N := 29) ?hd (xs := ([(⟨1, 1, 0⟩ : S40)] : List (S40))) (inner := [.int .i64 1, .int .i64 1, .int .i64 0]) (ok := fun _ => True) (okp := fun _ => True) ?hr ?hp (fun _ hk => hk) trivial (Below.refl _ _) (Nat.le_refl _) (by simp) ?_; (case hd => rfl); (case hg => rfl); (case hr => first | (go_simp; done) | (go_simp; rfl)); (case hp => exact (Reps.c3 (show Kd.M k40 _ _ _ (⟨1, 1, 0⟩ : S40) [.int .i64 1, .int .i64 1, .int .i64 0] from (k40_mkM _ _ _ (⟨1, 1, 0⟩ : S40) )) (Reps.none _ _))); intro v255 w37 ho38 hb hg_ hnew_; clear hg_ hnew_; (first | rw [← Ny254.out] at ho38 | (simp only [Int.reduceToNat] at ho38; rw [← Ny254.out] at ho38)); have n_ := an5 (Kd.R_lower (Kd.R_newB (Kd.R_newB ho38 (g := gb247) (o := .cells #[.int .i64 a0_0, .int .i64 a0_1, .int .i64 a0_2] 40 (0, 0)) bk) (g := gb248) (o := .cells #[.int .i64 a1_0, .int .i64 a1_1, .int .i64 a1_2] 40 (0, 0)) bk) (below_size bl)) (bu BK247.out hb) (bu BK248.out hb) (bu BK249.out hb) (below_step bl hb); clear BK247 BK248 BK249 HB; obtain ⟨HO256, BK247, BK248, BK249, HB⟩ := n_; clear hb ho38; obtain ⟨Ao39, co39, eo39⟩ := Kd.R_slice HO256.out; subst eo39; have hnb40 := NB249_247.out; have hnc40 := NB247_249.out; have hnb41 := NB249_248.out; have hnc41 := NB248_249.out; obtain ⟨hcz42_0, hcz42_1, hcz42_2⟩ := bd3 BK249.out; have hfz42_0 := blk_frozen BK249.out 0; have hfz42_1 := blk_frozen BK249.out 1; have hfz42_2 := blk_frozen BK249.out 2))
      refine bodyPost_ret (results_cell_row rfl _ _ gb249 64 #[.int .i64 5, .int .i64 2, .slice Ao39 y254.length co39] (0, 0) _ rfl (by exact bp3 (bq BK249.out)) Tryd.underlying64 rfl (by kernel_rfl)) rfl ?_
      exact ⟨_, pe, by (with_reducible repeat (first | apply Kd.R_alloc | apply Kd.R_drewN | apply Kd.R_drew)); exact Kd.R_mono (rf3 (g := gb249) (Kd.R_types HO256.out BK249.out (by decide)) (fun _ hk => hk.2)) (fun _ hk => trivial), bl⟩
     ·replace c36 := Bool.eq_false_iff.mpr c36; subst c36; rw [if_neg (show ¬ (false = true) by decide)] at H; have HH_ := Aside0.mk H; clear H; have hnb44 := NB248_247.out; have hnc44 := NB247_248.out; have hnb45 := NB248_249.out; have hnc45 := NB249_248.out; obtain ⟨hcz46_0, hcz46_1, hcz46_2, hfz46_0, hfz46_1, hfz46_2⟩ := bc3 BK248.out; have H := HH_.out; clear HH_
      by_cases c43 : a1_0 = 15
      ·rw [if_pos c43] at H; obtain ⟨c43b0, c43b1⟩ := eqs c43; clear c43; obtain ⟨y257, hy257⟩ : ∃ y_ : List (S40), y_ = (([(⟨1, 0, 0⟩ : S40)] : List (S40))) := ⟨_, rfl⟩; (first | replace H := hs hy257 H | rw [← hy257] at H)
       have Ny257 := Aside0.mk hy257; clear hy257; simp only [Option.some.injEq, Prod.mk.injEq] at H; obtain ⟨rfl, rfl, rfl⟩ := H
       go_wp2_with (first | ((with_reducible refine gate_dst (N := 36) rfl ?_); refine Kd.R_lit k40 _ 40 ?hg (N := 36) ?hd (xs := ([(⟨1, 0, 0⟩ : S40)] : List (S40))) (inner := [.int .i64 1, .int .i64 0, .int .i64 0]) (ok := fun _ => True) (okp := fun _ => True) ?hr ?hp (fun _ hk => hk) trivial (Below.refl _ _) (Nat.le_refl _) (by simp) ?_; (case hd => rfl); (case hg => rfl); (case hr => first | (go_simp; done) | (go_simp; rfl)); (case hp => exact (Reps.c3 (show Kd.M k40 _ _ _ (⟨1, 0, 0⟩ : S40) [.int .i64 1, .int .i64 0, .int .i64 0] from (k40_mkM _ _ _ (⟨1, 0, 0⟩ : S40) )) (Reps.none _ _))); intro v258 w47 ho48 hb hg_ hnew_; clear hg_ hnew_; (first | rw [← Ny257.out] at ho48 | (simp only [Int.reduceToNat] at ho48; rw [← Ny257.out] at ho48)); have n_ := an5 (Kd.R_lower (Kd.R_newB (Kd.R_newB ho48 (g := gb247) (o := .cells #[.int .i64 a0_0, .int .i64 a0_1, .int .i64 a0_2] 40 (0, 0)) bk) (g := gb248) (o := .cells #[.int .i64 a1_0, .int .i64 a1_1, .int .i64 a1_2] 40 (0, 0)) bk) (below_size bl)) (bu BK247.out hb) (bu BK248.out hb) (bu BK249.out hb) (below_step bl hb); clear BK247 BK248 BK249 HB; obtain ⟨HO259, BK247, BK248, BK249, HB⟩ := n_; clear hb ho48; obtain ⟨Ao49, co49, eo49⟩ := Kd.R_slice HO259.out; subst eo49; have hnb50 := NB249_247.out; have hnc50 := NB247_249.out; obtain ⟨hcz51_0, hcz51_1, hcz51_2⟩ := bd3 BK249.out; have hfz51_0 := blk_frozen BK249.out 0; have hfz51_1 := blk_frozen BK249.out 1; have hfz51_2 := blk_frozen BK249.out 2))
       refine bodyPost_ret (results_cell_row rfl _ _ gb249 64 #[.int .i64 5, .int .i64 2, .slice Ao49 y257.length co49] (0, 0) _ rfl (by exact bp3 (bq BK249.out)) Tryd.underlying64 rfl (by kernel_rfl)) rfl ?_
       exact ⟨_, pe, by (with_reducible repeat (first | apply Kd.R_alloc | apply Kd.R_drewN | apply Kd.R_drew)); exact Kd.R_mono (rf3 (g := gb249) (Kd.R_types HO259.out BK249.out (by decide)) (fun _ hk => hk.2)) (fun _ hk => trivial), bl⟩
      ·rw [if_neg c43] at H; obtain ⟨c43b0, c43b1⟩ := eqf c43; simp only [Option.some.injEq, Prod.mk.injEq] at H; obtain ⟨rfl, rfl, rfl⟩ := H; have hnb55 := NB249_247.out; have hnc55 := NB247_249.out; obtain ⟨hcz56_0, hcz56_1, hcz56_2, hfz56_0, hfz56_1, hfz56_2⟩ := bc3 BK249.out; go_wp2
       refine bodyPost_ret (results_cell_row rfl _ _ gb249 64 #[.int .i64 0, .int .i64 0, .slice none 0 0] (0, 0) _ rfl (by exact bp3 (bq BK249.out)) Tryd.underlying64 rfl (by kernel_rfl)) rfl ?_
       exact ⟨_, pe, pn, bl⟩
 ·rw [if_neg c3] at H; obtain ⟨c3b0, c3b1⟩ := eqf c3; simp only [Option.some.injEq, Prod.mk.injEq] at H; obtain ⟨rfl, rfl, rfl⟩ := H; go_enter Tryd.func62, Tryd.ntmps62
  go_wp2_with (first | ((with_reducible refine gate_dst (N := 2) rfl ?_); refine bx 2 #[.int .i64 a0_0, .int .i64 a0_1, .int .i64 a0_2] 40 ?_; intro gb247 hg w57 hbox hb; have n_ := an4 (below_step bl hb) (hbox) (bg hg) (bg hg); clear HB; obtain ⟨HB, BK247, GW247, GE247⟩ := n_; clear hb hbox hg) | ((with_reducible refine gate_dst (N := 3) rfl ?_); refine bx 3 #[.int .i64 a1_0, .int .i64 a1_1, .int .i64 a1_2] 40 ?_; intro gb248 hg w58 hbox hb; have n_ := an7 (bu BK247.out hb) (below_step bl hb) (hbox) (bg hg) (bg hg) ((by rw [hg]; exact Nat.ne_of_lt (blk_lt (g := gb247) (o := .cells #[.int .i64 a0_0, .int .i64 a0_1, .int .i64 a0_2] 40 (0, 0)) bk) : gb247 ≠ gb248)) ((by rw [hg]; exact Nat.ne_of_gt (blk_lt (g := gb247) (o := .cells #[.int .i64 a0_0, .int .i64 a0_1, .int .i64 a0_2] 40 (0, 0)) bk) : gb248 ≠ gb247)); clear BK247 HB; obtain ⟨BK247, HB, BK248, GW248, GE248, NB247_248, NB248_247⟩ := n_; clear hb hbox hg) | ((with_reducible refine gate_dst (N := 4) rfl ?_); refine bx 4 #[.int .i64 0, .int .i64 0, .slice none 0 0] 64 ?_; intro gb249 hg w59 hbox hb; have n_ := an10 (bu BK247.out hb) (bu BK248.out hb) (below_step bl hb) (hbox) (bg hg) (bg hg) ((by rw [hg]; exact Nat.ne_of_lt (blk_lt (g := gb247) (o := .cells #[.int .i64 a0_0, .int .i64 a0_1, .int .i64 a0_2] 40 (0, 0)) bk) : gb247 ≠ gb249)) ((by rw [hg]; exact Nat.ne_of_gt (blk_lt (g := gb247) (o := .cells #[.int .i64 a0_0, .int .i64 a0_1, .int .i64 a0_2] 40 (0, 0)) bk) : gb249 ≠ gb247)) ((by rw [hg]; exact Nat.ne_of_lt (blk_lt (g := gb248) (o := .cells #[.int .i64 a1_0, .int .i64 a1_1, .int .i64 a1_2] 40 (0, 0)) bk) : gb248 ≠ gb249)) ((by rw [hg]; exact Nat.ne_of_gt (blk_lt (g := gb248) (o := .cells #[.int .i64 a1_0, .int .i64 a1_1, .int .i64 a1_2] 40 (0, 0)) bk) : gb249 ≠ gb248)); clear BK247 BK248 HB; obtain ⟨BK247, BK248, HB, BK249, GW249, GE249, NB247_249, NB249_247, NB248_249, NB249_248⟩ := n_; clear hb hbox hg; have hnb60 := NB247_248.out; have hnc60 := NB248_247.out; have hnb61 := NB247_249.out; have hnc61 := NB249_247.out; obtain ⟨hcz62_0, hcz62_1, hcz62_2, hfz62_0, hfz62_1, hfz62_2⟩ := bc3 BK247.out; have hnb63 := NB249_248.out; have hnc63 := NB248_249.out; obtain ⟨hcz64_0, hcz64_1, hcz64_2⟩ := bd3 BK249.out; have hfz64_0 := blk_frozen BK249.out 0; have hfz64_1 := blk_frozen BK249.out 1; have hfz64_2 := blk_frozen BK249.out 2))
  refine bodyPost_ret (results_cell_row rfl _ _ gb249 64 #[.int .i64 0, .int .i64 0, .slice none 0 0] (0, 0) _ rfl (by exact bp3 (bq BK249.out)) Tryd.underlying64 rfl (by kernel_rfl)) rfl ?_
  exact ⟨_, pe, pn, bl⟩

/-! ### num_Add: function 86 -/
def num_Add.f (a0 : Int) (a1 : Int) : Option (Int) := some (wrap64 (a0 + a1))
set_option maxHeartbeats 8000000 in
set_option maxRecDepth 100000 in
theorem num_Add.calls (a0 : Int) (a1 : Int) (r : Int) (w : World) (h : num_Add.f a0 a1 = some r) :
  Calls Tryd.prog 86 #[.int .i64 a0, .int .i64 a1] w fun e w' => e = .returned (.int .i64 r) ∧ Drawn0 w w' := by
 have H : (some (wrap64 (a0 + a1))) = some r := h; clear h; obtain rfl := Option.some.inj H; go_enter Tryd.func86, Tryd.ntmps86; go_wp2; go_ret; exact ⟨by first | rfl | (simp; done) | (simp [*]; done), by repeat (first | exact Drawn0.refl _ | apply Drawn0.step)⟩

/-! ### num_Sub: function 87 -/
def num_Sub.f (a0 : Int) (a1 : Int) : Option (Int) := some (wrap64 (a0 - a1))
set_option maxHeartbeats 8000000 in
set_option maxRecDepth 100000 in
theorem num_Sub.calls (a0 : Int) (a1 : Int) (r : Int) (w : World) (h : num_Sub.f a0 a1 = some r) :
  Calls Tryd.prog 87 #[.int .i64 a0, .int .i64 a1] w fun e w' => e = .returned (.int .i64 r) ∧ Drawn0 w w' := by
 have H : (some (wrap64 (a0 - a1))) = some r := h; clear h; obtain rfl := Option.some.inj H; go_enter Tryd.func87, Tryd.ntmps87; go_wp2; go_ret; exact ⟨by first | rfl | (simp; done) | (simp [*]; done), by repeat (first | exact Drawn0.refl _ | apply Drawn0.step)⟩

/-! ### num_Mul: function 88 -/
def num_Mul.f (a0 : Int) (a1 : Int) : Option (Int) := some (wrap64 (a0 * a1))
set_option maxHeartbeats 8000000 in
set_option maxRecDepth 100000 in
theorem num_Mul.calls (a0 : Int) (a1 : Int) (r : Int) (w : World) (h : num_Mul.f a0 a1 = some r) :
  Calls Tryd.prog 88 #[.int .i64 a0, .int .i64 a1] w fun e w' => e = .returned (.int .i64 r) ∧ Drawn0 w w' := by
 have H : (some (wrap64 (a0 * a1))) = some r := h; clear h; obtain rfl := Option.some.inj H; go_enter Tryd.func88, Tryd.ntmps88; go_wp2; go_ret; exact ⟨by first | rfl | (simp; done) | (simp [*]; done), by repeat (first | exact Drawn0.refl _ | apply Drawn0.step)⟩

/-! ### num_Div: function 89 -/
def num_Div.f (a0 : Int) (a1 : Int) : Option (Int × Int) := if a1 = 0 then (some (0, 11)) else (some (wrap64 (Int.tdiv a0 a1), 0))
set_option maxHeartbeats 8000000 in
set_option maxRecDepth 100000 in
theorem num_Div.calls (a0 : Int) (a1 : Int) (r1 : Int) (r2 : Int) (w : World) (h : num_Div.f a0 a1 = some (r1, r2)) :
  Calls Tryd.prog 89 #[.int .i64 a0, .int .i64 a1] w fun e w' => e = .returned (.tuple #[.int .i64 r1, .int .i64 r2]) ∧ Drawn0 w w' := by
 have H : (if a1 = 0 then (some (0, 11)) else (some (wrap64 (Int.tdiv a0 a1), 0))) = some (r1, r2) := h; clear h
 by_cases c3 : a1 = 0
 ·rw [if_pos c3] at H; obtain ⟨c3b0, c3b1⟩ := eqs c3; clear c3; simp only [Option.some.injEq, Prod.mk.injEq] at H; obtain ⟨rfl, rfl⟩ := H; go_enter Tryd.func89, Tryd.ntmps89; go_wp2; go_ret2; exact ⟨by first | rfl | (simp; done) | (simp [*]; done), by repeat (first | exact Drawn0.refl _ | apply Drawn0.step)⟩
 ·rw [if_neg c3] at H; obtain ⟨c3b0, c3b1⟩ := eqf c3; simp only [Option.some.injEq, Prod.mk.injEq] at H; obtain ⟨rfl, rfl⟩ := H; go_enter Tryd.func89, Tryd.ntmps89; go_wp2; go_ret2; exact ⟨by first | rfl | (simp; done) | (simp [*]; done), by repeat (first | exact Drawn0.refl _ | apply Drawn0.step)⟩

/-! ### num_Mod: function 90 -/
def num_Mod.f (a0 : Int) (a1 : Int) : Option (Int × Int) := if a1 = 0 then (some (0, 11)) else (some (Int.tmod a0 a1, 0))
set_option maxHeartbeats 8000000 in
set_option maxRecDepth 100000 in
theorem num_Mod.calls (a0 : Int) (a1 : Int) (r1 : Int) (r2 : Int) (w : World) (h : num_Mod.f a0 a1 = some (r1, r2)) :
  Calls Tryd.prog 90 #[.int .i64 a0, .int .i64 a1] w fun e w' => e = .returned (.tuple #[.int .i64 r1, .int .i64 r2]) ∧ Drawn0 w w' := by
 have H : (if a1 = 0 then (some (0, 11)) else (some (Int.tmod a0 a1, 0))) = some (r1, r2) := h; clear h
 by_cases c3 : a1 = 0
 ·rw [if_pos c3] at H; obtain ⟨c3b0, c3b1⟩ := eqs c3; clear c3; simp only [Option.some.injEq, Prod.mk.injEq] at H; obtain ⟨rfl, rfl⟩ := H; go_enter Tryd.func90, Tryd.ntmps90; go_wp2; go_ret2; exact ⟨by first | rfl | (simp; done) | (simp [*]; done), by repeat (first | exact Drawn0.refl _ | apply Drawn0.step)⟩
 ·rw [if_neg c3] at H; obtain ⟨c3b0, c3b1⟩ := eqf c3; simp only [Option.some.injEq, Prod.mk.injEq] at H; obtain ⟨rfl, rfl⟩ := H; go_enter Tryd.func90, Tryd.ntmps90; go_wp2; go_ret2; exact ⟨by first | rfl | (simp; done) | (simp [*]; done), by repeat (first | exact Drawn0.refl _ | apply Drawn0.step)⟩

/-! ### peep_two_1: function 101 -/
def peep_two_1.f (a0 : Bool) : Option (Int × Bool) := if a0 = true then (some (1, true)) else (some (0, true))
set_option maxHeartbeats 8000000 in
set_option maxRecDepth 100000 in
theorem peep_two_1.calls (a0 : Bool) (r1 : Int) (r2 : Bool) (w : World) (h : peep_two_1.f a0 = some (r1, r2)) :
  Calls Tryd.prog 101 #[.bool a0] w fun e w' => e = .returned (.tuple #[.int .i64 r1, .bool r2]) ∧ Drawn0 w w' := by
 have H : (if a0 = true then (some (1, true)) else (some (0, true))) = some (r1, r2) := h; clear h
 by_cases c2 : a0 = true
 ·subst c2; rw [if_pos rfl] at H; simp only [Option.some.injEq, Prod.mk.injEq] at H; obtain ⟨rfl, rfl⟩ := H; go_enter Tryd.func101, Tryd.ntmps101; go_wp2; go_ret2; exact ⟨by first | rfl | (simp; done) | (simp [*]; done), by repeat (first | exact Drawn0.refl _ | apply Drawn0.step)⟩
 ·replace c2 := Bool.eq_false_iff.mpr c2; subst c2; rw [if_neg (show ¬ (false = true) by decide)] at H; simp only [Option.some.injEq, Prod.mk.injEq] at H; obtain ⟨rfl, rfl⟩ := H; go_enter Tryd.func101, Tryd.ntmps101; go_wp2; go_ret2; exact ⟨by first | rfl | (simp; done) | (simp [*]; done), by repeat (first | exact Drawn0.refl _ | apply Drawn0.step)⟩

/-! ### peep_two: function 83 -/
def peep_two.f (a0 : Int) (a1 : Int) (a2 : Int) : Option (Int × Bool) := if a0 = 7 then ((num_Add.f a1 a2).bind fun t260 => (some (t260, true))) else (if a0 = 8 then ((num_Sub.f a1 a2).bind fun t261 => (some (t261, true))) else (if a0 = 9 then ((num_Mul.f a1 a2).bind fun t262 => (some (t262, true))) else (if a0 = 10 then ((num_Div.f a1 a2).bind fun bt263 => (some (bt263.1, (bt263.2 == 0)))) else (if a0 = 11 then ((num_Mod.f a1 a2).bind fun bt265 => (some (bt265.1, (bt265.2 == 0)))) else (if a0 = 12 then ((peep_two_1.f (decide (a1 < a2))).bind fun bt267 => (some (bt267.1, bt267.2))) else (if a0 = 13 then ((peep_two_1.f (decide (a1 ≤ a2))).bind fun bt269 => (some (bt269.1, bt269.2))) else (if a0 = 14 then ((peep_two_1.f (a1 == a2)).bind fun bt271 => (some (bt271.1, bt271.2))) else (some (0, false)))))))))
set_option maxHeartbeats 8000000 in
set_option maxRecDepth 100000 in
theorem peep_two.calls (a0 : Int) (a1 : Int) (a2 : Int) (r1 : Int) (r2 : Bool) (w : World) (h : peep_two.f a0 a1 a2 = some (r1, r2)) :
  Calls Tryd.prog 83 #[.int .i64 a0, .int .i64 a1, .int .i64 a2] w fun e w' => e = .returned (.tuple #[.int .i64 r1, .bool r2]) ∧ Drawn0 w w' := by
 have H : (if a0 = 7 then ((num_Add.f a1 a2).bind fun t260 => (some (t260, true))) else (if a0 = 8 then ((num_Sub.f a1 a2).bind fun t261 => (some (t261, true))) else (if a0 = 9 then ((num_Mul.f a1 a2).bind fun t262 => (some (t262, true))) else (if a0 = 10 then ((num_Div.f a1 a2).bind fun bt263 => (some (bt263.1, (bt263.2 == 0)))) else (if a0 = 11 then ((num_Mod.f a1 a2).bind fun bt265 => (some (bt265.1, (bt265.2 == 0)))) else (if a0 = 12 then ((peep_two_1.f (decide (a1 < a2))).bind fun bt267 => (some (bt267.1, bt267.2))) else (if a0 = 13 then ((peep_two_1.f (decide (a1 ≤ a2))).bind fun bt269 => (some (bt269.1, bt269.2))) else (if a0 = 14 then ((peep_two_1.f (a1 == a2)).bind fun bt271 => (some (bt271.1, bt271.2))) else (some (0, false)))))))))) = some (r1, r2) := h; clear h
 by_cases c4 : a0 = 7
 ·rw [if_pos c4] at H; obtain ⟨c4b0, c4b1⟩ := eqs c4; clear c4; replace H := ob H; obtain ⟨t260, A5, H⟩ := H; simp only [Option.some.injEq, Prod.mk.injEq] at H; obtain ⟨rfl, rfl⟩ := H; go_enter Tryd.func83, Tryd.ntmps83
  go_wp2_with (first | ((with_reducible refine gate_callee (f := 86) rfl ?_); refine goesL_ (some 18) rfl rfl Tryd.func86 (by kernel_rfl) rfl #[.int .i64 a1, .int .i64 a2] rfl (by (try simp only [List.map_toArray, List.map_cons, List.map_nil]); first | done | rfl | (simp only [List.length_drop, List.length_take]; rfl)) ?_; (with_reducible refine (num_Add.calls a1 a2 t260 _ A5.out).mono ?_); rintro e w' ⟨rfl, ⟨nd, rfl⟩⟩; refine ⟨_, rfl, ?_⟩))
  go_ret2; exact ⟨by first | rfl | (simp; done) | (simp [*]; done), by repeat (first | exact Drawn0.refl _ | apply Drawn0.step)⟩
 ·rw [if_neg c4] at H; obtain ⟨c4b0, c4b1⟩ := eqf c4
  by_cases c6 : a0 = 8
  ·rw [if_pos c6] at H; obtain ⟨c6b0, c6b1⟩ := eqs c6; clear c6; replace H := ob H; obtain ⟨t261, A7, H⟩ := H; simp only [Option.some.injEq, Prod.mk.injEq] at H; obtain ⟨rfl, rfl⟩ := H; go_enter Tryd.func83, Tryd.ntmps83
   go_wp2_with (first | ((with_reducible refine gate_callee (f := 87) rfl ?_); refine goesL_ (some 23) rfl rfl Tryd.func87 (by kernel_rfl) rfl #[.int .i64 a1, .int .i64 a2] rfl (by (try simp only [List.map_toArray, List.map_cons, List.map_nil]); first | done | rfl | (simp only [List.length_drop, List.length_take]; rfl)) ?_; (with_reducible refine (num_Sub.calls a1 a2 t261 _ A7.out).mono ?_); rintro e w' ⟨rfl, ⟨nd, rfl⟩⟩; refine ⟨_, rfl, ?_⟩))
   go_ret2; exact ⟨by first | rfl | (simp; done) | (simp [*]; done), by repeat (first | exact Drawn0.refl _ | apply Drawn0.step)⟩
  ·rw [if_neg c6] at H; obtain ⟨c6b0, c6b1⟩ := eqf c6
   by_cases c8 : a0 = 9
   ·rw [if_pos c8] at H; obtain ⟨c8b0, c8b1⟩ := eqs c8; clear c8; replace H := ob H; obtain ⟨t262, A9, H⟩ := H; simp only [Option.some.injEq, Prod.mk.injEq] at H; obtain ⟨rfl, rfl⟩ := H; go_enter Tryd.func83, Tryd.ntmps83
    go_wp2_with (first | ((with_reducible refine gate_callee (f := 88) rfl ?_); refine goesL_ (some 28) rfl rfl Tryd.func88 (by kernel_rfl) rfl #[.int .i64 a1, .int .i64 a2] rfl (by (try simp only [List.map_toArray, List.map_cons, List.map_nil]); first | done | rfl | (simp only [List.length_drop, List.length_take]; rfl)) ?_; (with_reducible refine (num_Mul.calls a1 a2 t262 _ A9.out).mono ?_); rintro e w' ⟨rfl, ⟨nd, rfl⟩⟩; refine ⟨_, rfl, ?_⟩))
    go_ret2; exact ⟨by first | rfl | (simp; done) | (simp [*]; done), by repeat (first | exact Drawn0.refl _ | apply Drawn0.step)⟩
   ·rw [if_neg c8] at H; obtain ⟨c8b0, c8b1⟩ := eqf c8
    by_cases c10 : a0 = 10
    ·rw [if_pos c10] at H; obtain ⟨c10b0, c10b1⟩ := eqs c10; clear c10; replace H := ob H; obtain ⟨⟨t263, t264⟩, A11, H⟩ := H; simp only [Option.some.injEq, Prod.mk.injEq] at H; obtain ⟨rfl, rfl⟩ := H; go_enter Tryd.func83, Tryd.ntmps83
     go_wp2_with (first | ((with_reducible refine gate_callee (f := 89) rfl ?_); refine goesL_ (some 34) rfl rfl Tryd.func89 (by kernel_rfl) rfl #[.int .i64 a1, .int .i64 a2] rfl (by (try simp only [List.map_toArray, List.map_cons, List.map_nil]); first | done | rfl | (simp only [List.length_drop, List.length_take]; rfl)) ?_; (with_reducible refine (num_Div.calls a1 a2 t263 t264 _ A11.out).mono ?_); rintro e w' ⟨rfl, ⟨nd, rfl⟩⟩; refine ⟨_, rfl, ?_⟩))
     go_ret2; exact ⟨by first | rfl | (simp; done) | (simp [*]; done), by repeat (first | exact Drawn0.refl _ | apply Drawn0.step)⟩
    ·rw [if_neg c10] at H; obtain ⟨c10b0, c10b1⟩ := eqf c10
     by_cases c12 : a0 = 11
     ·rw [if_pos c12] at H; obtain ⟨c12b0, c12b1⟩ := eqs c12; clear c12; replace H := ob H; obtain ⟨⟨t265, t266⟩, A13, H⟩ := H; simp only [Option.some.injEq, Prod.mk.injEq] at H; obtain ⟨rfl, rfl⟩ := H; go_enter Tryd.func83, Tryd.ntmps83
      go_wp2_with (first | ((with_reducible refine gate_callee (f := 90) rfl ?_); refine goesL_ (some 45) rfl rfl Tryd.func90 (by kernel_rfl) rfl #[.int .i64 a1, .int .i64 a2] rfl (by (try simp only [List.map_toArray, List.map_cons, List.map_nil]); first | done | rfl | (simp only [List.length_drop, List.length_take]; rfl)) ?_; (with_reducible refine (num_Mod.calls a1 a2 t265 t266 _ A13.out).mono ?_); rintro e w' ⟨rfl, ⟨nd, rfl⟩⟩; refine ⟨_, rfl, ?_⟩))
      go_ret2; exact ⟨by first | rfl | (simp; done) | (simp [*]; done), by repeat (first | exact Drawn0.refl _ | apply Drawn0.step)⟩
     ·rw [if_neg c12] at H; obtain ⟨c12b0, c12b1⟩ := eqf c12
      by_cases c14 : a0 = 12
      ·rw [if_pos c14] at H; obtain ⟨c14b0, c14b1⟩ := eqs c14; clear c14; replace H := ob H; obtain ⟨⟨t267, t268⟩, A15, H⟩ := H; simp only [Option.some.injEq, Prod.mk.injEq] at H; obtain ⟨rfl, rfl⟩ := H; go_enter Tryd.func83, Tryd.ntmps83
       go_wp2_with (first | (go_at_call 101; (with_reducible refine (peep_two_1.calls (decide (a1 < a2)) t267 t268 _ A15.out).mono ?_); rintro e w' ⟨rfl, ⟨nd, rfl⟩⟩; (try first | exact ⟨rfl, _, World.drewN_drewN _ _ _⟩ | exact ⟨rfl, _, Eq.trans (World.drewN_drewN _ _ _) (congrArg (World.drewN _) (Nat.add_assoc _ _ _))⟩)))
       go_ret2; exact ⟨by first | rfl | (simp; done) | (simp [*]; done), by repeat (first | exact Drawn0.refl _ | apply Drawn0.step)⟩
      ·rw [if_neg c14] at H; obtain ⟨c14b0, c14b1⟩ := eqf c14
       by_cases c16 : a0 = 13
       ·rw [if_pos c16] at H; obtain ⟨c16b0, c16b1⟩ := eqs c16; clear c16; replace H := ob H; obtain ⟨⟨t269, t270⟩, A17, H⟩ := H; simp only [Option.some.injEq, Prod.mk.injEq] at H; obtain ⟨rfl, rfl⟩ := H; go_enter Tryd.func83, Tryd.ntmps83
        go_wp2_with (first | (go_at_call 101; (with_reducible refine (peep_two_1.calls (decide (a1 ≤ a2)) t269 t270 _ A17.out).mono ?_); rintro e w' ⟨rfl, ⟨nd, rfl⟩⟩; (try first | exact ⟨rfl, _, World.drewN_drewN _ _ _⟩ | exact ⟨rfl, _, Eq.trans (World.drewN_drewN _ _ _) (congrArg (World.drewN _) (Nat.add_assoc _ _ _))⟩)))
        go_ret2; exact ⟨by first | rfl | (simp; done) | (simp [*]; done), by repeat (first | exact Drawn0.refl _ | apply Drawn0.step)⟩
       ·rw [if_neg c16] at H; obtain ⟨c16b0, c16b1⟩ := eqf c16
        by_cases c18 : a0 = 14
        ·rw [if_pos c18] at H; obtain ⟨c18b0, c18b1⟩ := eqs c18; clear c18; replace H := ob H; obtain ⟨⟨t271, t272⟩, A19, H⟩ := H; simp only [Option.some.injEq, Prod.mk.injEq] at H; obtain ⟨rfl, rfl⟩ := H; go_enter Tryd.func83, Tryd.ntmps83
         go_wp2_with (first | (go_at_call 101; (with_reducible refine (peep_two_1.calls (a1 == a2) t271 t272 _ A19.out).mono ?_); rintro e w' ⟨rfl, ⟨nd, rfl⟩⟩; (try first | exact ⟨rfl, _, World.drewN_drewN _ _ _⟩ | exact ⟨rfl, _, Eq.trans (World.drewN_drewN _ _ _) (congrArg (World.drewN _) (Nat.add_assoc _ _ _))⟩)))
         go_ret2; exact ⟨by first | rfl | (simp; done) | (simp [*]; done), by repeat (first | exact Drawn0.refl _ | apply Drawn0.step)⟩
        ·rw [if_neg c18] at H; obtain ⟨c18b0, c18b1⟩ := eqf c18; simp only [Option.some.injEq, Prod.mk.injEq] at H; obtain ⟨rfl, rfl⟩ := H; go_enter Tryd.func83, Tryd.ntmps83; go_wp2; go_ret2; exact ⟨by first | rfl | (simp; done) | (simp [*]; done), by repeat (first | exact Drawn0.refl _ | apply Drawn0.step)⟩

end Go.Proofs.YtmbjogpphegoaaaDoor.P
