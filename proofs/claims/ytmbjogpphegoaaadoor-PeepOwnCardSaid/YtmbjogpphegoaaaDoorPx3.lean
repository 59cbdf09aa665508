-- Written by a program of this session (its own turn of the print: wip/patch_print.py), not by hand. Lean checks it.
import Derived.Test.YtmbjogpphegoaaaDoorWZip3
import Derived.Test.YtmbjogpphegoaaaDoorPx0
import Derived.Test.YtmbjogpphegoaaaDoorPx2
namespace Go.Proofs.YtmbjogpphegoaaaDoor.P
open Go.RowKit Go.Proofs.YtmbjogpphegoaaaDoorW.PrintWords Go.Proofs.YtmbjogpphegoaaaDoorW.PrintLast Go.Proofs.YtmbjogpphegoaaaDoorW.PrintMore
attribute [local go_sem] max2_int min2_int max_two min_two max_three min_three max_four min_four
set_option linter.unusedVariables false
set_option linter.unusedSimpArgs false

/-! ### num_Join: function 111 -/
def num_Join.l0 : Nat → List Int → List ByteArray → Int → Int → Option (ByteArray)
 | 0, _, _, _, _ => none
 | k + 1, x3, x6, x7, x8 => if x8 < x7 then (if 0 ≤ x8 then (if x8 < (x6.length : Int) then (if x8 > 0 then (if x3.length < 140737488355328 then ((some (x3 ++ [32] : List Int)).bind fun y106 => (if y106.length + (rdOf ByteArray.empty x6 x8).size < 140737488355328 then (num_Join.l0 k (y106 ++ bytesOf (rdOf ByteArray.empty x6 x8)) x6 x7 (wrap64 (x8 + 1))) else (none))) else (none)) else (if x3.length + (rdOf ByteArray.empty x6 x8).size < 140737488355328 then (num_Join.l0 k (x3 ++ bytesOf (rdOf ByteArray.empty x6 x8)) x6 x7 (wrap64 (x8 + 1))) else (none))) else (none)) else (none)) else (some (strOfNums x3))
def num_Join.f (k : Nat) (l0 : List ByteArray) : Option (ByteArray) := num_Join.l0 k ([] : List Int) l0 (l0.length : Int) 0
theorem num_Join.mono_l : ∀ k, (∀ y0 y1 y2 y3, LeO (num_Join.l0 k y0 y1 y2 y3) (num_Join.l0 (k + 1) y0 y1 y2 y3))
 | 0 => fun _ _ _ _ r h => by simp [num_Join.l0] at h
 | k + 1 => by
  have ih0 := num_Join.mono_l k
  ·intro y0 y1 y2 y3
   unfold num_Join.l0
   repeat' (with_reducible first | apply ih0 | exact LeO.refl _ | exact LeO.none _ | refine LeO.ite ?_ ?_ | refine LeO.bind ?_ (fun _ => ?_))
theorem num_Join.mono : ∀ a0 k, LeO (num_Join.f k a0) (num_Join.f (k + 1) a0) := by
 intro a0 k
 have ih0 := num_Join.mono_l k
 unfold num_Join.f
 repeat' (with_reducible first | apply ih0 | exact LeO.refl _ | exact LeO.none _ | refine LeO.ite ?_ ?_ | refine LeO.bind ?_ (fun _ => ?_))
set_option maxHeartbeats 8000000 in
set_option maxRecDepth 100000 in
theorem num_Join.calls (k : Nat) (A0 : Option Addr) (c0 : Nat) (l0 : List ByteArray) (r : ByteArray) (w : World) (hr0 : Kd.C Kd.string w A0 l0.length l0) (hc0 : l0.length ≤ c0) (h : num_Join.f k l0 = some r) :
  Calls Tryd.prog 111 #[.slice A0 l0.length c0] w fun e w' => e = .returned (.string r) ∧ Below w.heap.size w w' := by
 have HR0 := Aside0.mk hr0; have HC0 := Aside0.mk hc0; clear hr0 hc0; have HB := Aside0.mk (Below.refl w.heap.size w); have H : (num_Join.l0 k ([] : List Int) l0 (l0.length : Int) 0) = some r := h; clear h; have H' := Aside0.mk H; clear H; go_enter Tryd.func111, Tryd.ntmps111; go_wp2
 go_loopg [3, 8] k (fun kq v3 v8 w' => ∃ (x3_1 : List Int) (x8_1 : Int), v8 = .int .i64 x8_1 ∧ Aside0 (num_Join.l0 kq x3_1 l0 (l0.length : Int) x8_1 = some r) ∧ Aside0 (kq ≤ k) ∧ Aside0 (Kd.R (Kd.int .u8) 5 w' w.heap.size (fun _ => True) v3 x3_1) ∧ Aside0 (Below w.heap.size w w'))
 case atStart => exact ⟨(([] : List Int)), (0), pr, H', ⟨Nat.le_refl _⟩, ⟨pn⟩, ⟨bl⟩⟩
 case round =>
  clear H'; (try clear c1); obtain ⟨x3_1, x8_1, rfl, HA, HK1, HO_3, HB⟩ := hrel
  cases gk with
  | zero => exact absurd HA.out (by simp [num_Join.l0])
  | succ k1 =>
   have H := HA.out; clear HA; simp only [num_Join.l0] at H
   by_cases c2 : x8_1 < (l0.length : Int)
   ·rw [if_pos c2] at H; have c2b0 := decide_eq_true c2; clear c2
    replace H := it (c := 0 ≤ x8_1) H; obtain ⟨c3, H⟩ := H; have c3b0 := decide_eq_true c3; clear c3
    replace H := it (c := x8_1 < (l0.length : Int)) H; obtain ⟨c4, H⟩ := H; have c4b0 := decide_eq_true c4; clear c4; have HH_ := Aside0.mk H; clear H
    have p105 : 0 ≤ (x8_1 : Int) := of_decide_eq_true pa
    have q105 : x8_1 < (l0.length : Int) := of_decide_eq_true pa
    obtain ⟨ad105, e105, hx105_0⟩ := Kd.at_string HR0.out x8_1 p105 q105
    cases e105
    replace hx105_0 := pc HB.out hx105_0; replace p105 := eq_true p105; replace q105 := eq_true q105; have H := HH_.out; clear HH_
    by_cases c5 : x8_1 > 0
    ·rw [if_pos c5] at H; have c5b0 : decide (0 < x8_1) = true := decide_eq_true c5; clear c5
     replace H := it (c := x3_1.length < 140737488355328) H; obtain ⟨c6, H⟩ := H; have LMc6 := Aside0.mk c6; clear c6; obtain ⟨y106, hy106⟩ : ∃ y_ : List Int, y_ = (x3_1 ++ [32]) := ⟨_, rfl⟩; (first | replace H := hs hy106 H | rw [← hy106] at H)
     have Ny106 := Aside0.mk hy106; clear hy106
     replace H := it (c := y106.length + (rdOf ByteArray.empty l0 x8_1).size < 140737488355328) H; obtain ⟨c7, H⟩ := H; have LMc7 := Aside0.mk c7; clear c7; obtain ⟨y109, hy109⟩ : ∃ y_ : List Int, y_ = (y106 ++ bytesOf (rdOf ByteArray.empty l0 x8_1)) := ⟨_, rfl⟩; (first | replace H := hs hy109 H | rw [← hy109] at H)
     have Ny109 := Aside0.mk hy109; clear hy109; have H' := Aside0.mk H; clear H
     go_wp2_with (first | ((with_reducible refine gate_builtin (b := .append) (xs := #[.tmp 15, .tmp 16]) rfl ?_); at_builtin; refine Kd.R_append (Kd.int .u8) (w0 := w) w.heap.size rfl (.tmp 15) (.tmp 16) 159 5 (.int .u8 0) 1 rfl Tryd.underlying159 info5 rfl (by decide) (by omega) u3 x3_1 32 [.int .u8 32] (fun _ => True) (fun _ => False) rfl rfl ?aP (fun _ hk => hk.elim) ?aF ?aO ?aB ?aS ?aL ?_; (case aP => exact rfl); (case aB => exact bl); (case aF => exact (fun _ _ => trivial)); (case aO => exact (bR HO_3.out)); (case aS => exact (below_size bl)); (case aL => have := LMc6.out; omega); intro v107 w8 ho hb hg hat; rw [← Ny106.out] at ho; have n_ := an2 (hb) (ho); clear HB HO_3; obtain ⟨HB, HO108⟩ := n_; clear ho hb hg hat) | (at_builtin; refine print_append_str (w0 := w) w.heap.size rfl (.tmp 18) _ 159 9 5 rfl Tryd.underlying159 Tryd.underlying9 info5 v107 y106 (rdOf ByteArray.empty l0 x8_1) rfl rfl ?aO ?aB ?aS ?aL ?_; (case aB => exact bl); (case aO => exact (Kd.own_of_R (bR HO108.out))); (case aS => exact (below_size bl)); (case aL => have := LMc7.out; omega); intro v110 w9 ho0 hb hg; have ho := Kd.R_of_own (h1 := fun _ => rfl) (ok := fun _ => True) ho0 (fun _ _ => trivial); clear ho0; have hat := True.intro; rw [← Ny109.out] at ho; change Kd.R (Kd.int .u8) 5 w9 w.heap.size (fun _ => True) v110 y109 at ho; have n_ := an2 (hb) (ho); clear HB HO108; obtain ⟨HB, HO111⟩ := n_; clear ho hb hg hat))
     go_roundg k1
     case measure => have := HK1.out; omega
     case rel => exact ⟨(y109), (wrap64 (x8_1 + 1)), pr, H', ⟨by have := HK1.out; omega⟩, ⟨by (with_reducible repeat (first | apply Kd.R_alloc | apply Kd.R_drewN | apply Kd.R_drew)); exact HO111.out⟩, ⟨bl⟩⟩
    ·rw [if_neg c5] at H; have c5b0 : decide (0 < x8_1) = false := decide_eq_false c5; clear c5
     replace H := it (c := x3_1.length + (rdOf ByteArray.empty l0 x8_1).size < 140737488355328) H; obtain ⟨c10, H⟩ := H; have LMc10 := Aside0.mk c10; clear c10; obtain ⟨y112, hy112⟩ : ∃ y_ : List Int, y_ = (x3_1 ++ bytesOf (rdOf ByteArray.empty l0 x8_1)) := ⟨_, rfl⟩; (first | replace H := hs hy112 H | rw [← hy112] at H)
     have Ny112 := Aside0.mk hy112; clear hy112; have H' := Aside0.mk H; clear H
     go_wp2_with (first | (at_builtin; refine print_append_str (w0 := w) w.heap.size rfl (.tmp 18) _ 159 9 5 rfl Tryd.underlying159 Tryd.underlying9 info5 u3 x3_1 (rdOf ByteArray.empty l0 x8_1) rfl rfl ?aO ?aB ?aS ?aL ?_; (case aB => exact bl); (case aO => exact (Kd.own_of_R (bR HO_3.out))); (case aS => exact (below_size bl)); (case aL => have := LMc10.out; omega); intro v113 w11 ho0 hb hg; have ho := Kd.R_of_own (h1 := fun _ => rfl) (ok := fun _ => True) ho0 (fun _ _ => trivial); clear ho0; have hat := True.intro; rw [← Ny112.out] at ho; change Kd.R (Kd.int .u8) 5 w11 w.heap.size (fun _ => True) v113 y112 at ho; have n_ := an2 (hb) (ho); clear HB HO_3; obtain ⟨HB, HO114⟩ := n_; clear ho hb hg hat))
     go_roundg k1
     case measure => have := HK1.out; omega
     case rel => exact ⟨(y112), (wrap64 (x8_1 + 1)), pr, H', ⟨by have := HK1.out; omega⟩, ⟨by (with_reducible repeat (first | apply Kd.R_alloc | apply Kd.R_drewN | apply Kd.R_drew)); exact HO114.out⟩, ⟨bl⟩⟩
   ·rw [if_neg c2] at H; have c2b0 := decide_eq_false c2; clear c2; obtain rfl := Option.some.inj H; have hcv12 := own_string (P := Tryd.prog) Tryd.underlying159 Tryd.underlying5 Tryd.underlying9 (Kd.own_of_R HO_3.out); go_wp2; go_ret; exact ⟨pe, bl⟩

/-! ### code_Text: function 96 -/
/-- What the package's two tables hold. -/
def code_WORDS : List ByteArray := [⟨#[]⟩, ⟨#[112, 117, 115, 104]⟩, ⟨#[108, 111, 97, 100]⟩, ⟨#[115, 116, 111, 114, 101]⟩, ⟨#[105, 110, 100, 101, 120]⟩, ⟨#[112, 117, 116]⟩, ⟨#[99, 108, 101, 97, 114]⟩, ⟨#[97, 100, 100]⟩, ⟨#[115, 117, 98]⟩, ⟨#[109, 117, 108]⟩, ⟨#[100, 105, 118]⟩, ⟨#[109, 111, 100]⟩, ⟨#[108, 101, 115, 115]⟩, ⟨#[109, 111, 115, 116]⟩, ⟨#[115, 97, 109, 101]⟩, ⟨#[110, 111, 116]⟩, ⟨#[110, 101, 103]⟩, ⟨#[106, 117, 109, 112]⟩, ⟨#[122, 101, 114, 111]⟩, ⟨#[99, 97, 108, 108]⟩, ⟨#[108, 101, 97, 118, 101]⟩, ⟨#[112, 114, 105, 110, 116]⟩, ⟨#[114, 101, 97, 100]⟩, ⟨#[116, 101, 115, 116]⟩, ⟨#[109, 97, 114, 107]⟩, ⟨#[100, 114, 111, 112]⟩]
def code_STACK : List Int := [0, 0, 0, 1, 0, 1, 1, 0, 1, 1, 2, 0, 0, 0, 2, 1, 2, 1, 2, 1, 2, 1, 2, 1, 2, 1, 2, 1, 2, 1, 1, 1, 1, 1, 0, 0, 1, 0, 0, 0, 0, 0, 1, 0, 0, 1, 1, 0, 0, 0, 1, 0]
/-- The tables lie as the program's text lays them. -/
structure Laid (w : World) : Prop where
  words : ∀ i : Nat, i < 26 → w.cell? ⟨0, i, none⟩ = some (.string (rdOf ByteArray.empty code_WORDS (i : Int)))
  stack : ∀ i : Nat, i < 52 → w.cell? ⟨1, i, none⟩ = some (.int .i64 (rd code_STACK (i : Int)))
theorem Laid.below {w w1 : World} (h : Laid w) (hb : Below w.heap.size w w1) : Laid w1 := ⟨fun i hi => (hb.cell (World.block_lt_of_cell? w _ (h.words i hi))).trans (h.words i hi), fun i hi => (hb.cell (World.block_lt_of_cell? w _ (h.stack i hi))).trans (h.stack i hi)⟩
theorem Laid.bound {w : World} (h : Laid w) {b : Nat} {w1 : World} (hs : b = w.heap.size) (hb : Below b w w1) : Laid w1 := by
  subst hs
  exact h.below hb
def code_Text.f (k : Nat) (a0_0 : Int) (a0_1 : Int) (a0_2 : Int) : Option (ByteArray × Int) := if a0_0 < 1 then some ((⟨#[]⟩ : ByteArray), 61) else (if a0_0 > 25 then some ((⟨#[]⟩ : ByteArray), 61) else ((code_numbers.f k a0_0).bind fun n => (if n < 1 then (if a0_1 = 0 then (if a0_2 = 0 then ((num_Join.f k [rdOf ByteArray.empty code_WORDS a0_0]).bind fun s => some (s, 0)) else some ((⟨#[]⟩ : ByteArray), 61)) else some ((⟨#[]⟩ : ByteArray), 61)) else (if n < 2 then (if a0_2 = 0 then ((num_Text.f a0_1).bind fun t => ((num_Join.f k [rdOf ByteArray.empty code_WORDS a0_0, t]).bind fun s => some (s, 0))) else some ((⟨#[]⟩ : ByteArray), 61)) else ((num_Text.f a0_1).bind fun t => ((num_Text.f a0_2).bind fun u => ((num_Join.f k [rdOf ByteArray.empty code_WORDS a0_0, t, u]).bind fun s => some (s, 0))))))))
theorem code_Text.mono : ∀ (a0_0 a0_1 a0_2 : Int) (k : Nat), LeO (code_Text.f k a0_0 a0_1 a0_2) (code_Text.f (k + 1) a0_0 a0_1 a0_2) := by
 intro a0_0 a0_1 a0_2 k
 unfold code_Text.f
 repeat' (with_reducible first | apply code_numbers.mono | apply num_Join.mono | exact LeO.refl _ | exact LeO.none _ | refine LeO.ite ?_ ?_ | refine LeO.bind ?_ (fun _ => ?_))
theorem WORDAT {w : World} (h : Laid w) (i : Int) (h0 : 0 ≤ i) (h1 : i < 26) : w.cell? ⟨0, i.toNat, none⟩ = some (.string (rdOf ByteArray.empty code_WORDS i)) := by
  have := h.words i.toNat (by omega)
  rwa [show ((i.toNat : Nat) : Int) = i by omega] at this
set_option maxHeartbeats 8000000 in
set_option maxRecDepth 100000 in
theorem code_Text.calls (k : Nat) (a0_0 : Int) (a0_1 : Int) (a0_2 : Int) (r1 : ByteArray) (r2 : Int) (w : World) (hLd : Laid w) (h : code_Text.f k a0_0 a0_1 a0_2 = some (r1, r2)) :
  Calls Tryd.prog 96 #[.agg #[.int .i64 a0_0, .int .i64 a0_1, .int .i64 a0_2]] w fun e w' => e = .returned (.tuple #[.string r1, .int .i64 r2]) ∧ Below w.heap.size w w' := by
 have hu23 := Tryd.underlying40; have hix0 : ∀ (a b : Int) (W : World), (Instr.index 155 (.agg #[.int .i64 a, .int .i64 b]) (.int .i64 0)).run Tryd.prog W = .ok (.int .i64 a) W := fun _ _ _ => rfl
 have hix1 : ∀ (a b : Int) (W : World), (Instr.index 155 (.agg #[.int .i64 a, .int .i64 b]) (.int .i64 1)).run Tryd.prog W = .ok (.int .i64 b) W := fun _ _ _ => rfl
 have HLd := Aside0.mk hLd; clear hLd; have H := h; clear h
 unfold code_Text.f at H
 by_cases c1 : a0_0 < 1
 ·rw [if_pos c1] at H; have c1b : decide (a0_0 < 1) = true := decide_eq_true c1; obtain ⟨rfl, rfl⟩ : (⟨#[]⟩ : ByteArray) = r1 ∧ (61 : Int) = r2 := by injection H with H; injection H with h1_ h2_; exact ⟨h1_, h2_⟩
  clear H; go_enter Tryd.func96, Tryd.ntmps96
  go_wp2_with (first | ((with_reducible refine gate_dst (N := 1) rfl ?_); (try (refine gate_guard (by rfl) ?_; dsimp only)); refine bx 1 #[.int .i64 a0_0, .int .i64 a0_1, .int .i64 a0_2] 40 ?_; intro gi hg w1 hbx hbb; clear hg; have HX := Aside0.mk hbx; have HB := Aside0.mk hbb; clear hbx hbb; have hx0 : w1.cell? ⟨gi, 0, none⟩ = some (.int .i64 a0_0) := (blk_cell HX.out 0).trans rfl; have hx1 : w1.cell? ⟨gi, 1, none⟩ = some (.int .i64 a0_1) := (blk_cell HX.out 1).trans rfl; have hx2 : w1.cell? ⟨gi, 2, none⟩ = some (.int .i64 a0_2) := (blk_cell HX.out 2).trans rfl))
  go_ret2; exact ⟨by first | rfl | (simp; done), HB.out⟩
 rw [if_neg c1] at H; have c1b : decide (a0_0 < 1) = false := decide_eq_false c1
 by_cases c2 : a0_0 > 25
 ·rw [if_pos c2] at H; have c2b : decide (25 < a0_0) = true := decide_eq_true c2; obtain ⟨rfl, rfl⟩ : (⟨#[]⟩ : ByteArray) = r1 ∧ (61 : Int) = r2 := by injection H with H; injection H with h1_ h2_; exact ⟨h1_, h2_⟩
  clear H; go_enter Tryd.func96, Tryd.ntmps96
  go_wp2_with (first | ((with_reducible refine gate_dst (N := 1) rfl ?_); (try (refine gate_guard (by rfl) ?_; dsimp only)); refine bx 1 #[.int .i64 a0_0, .int .i64 a0_1, .int .i64 a0_2] 40 ?_; intro gi hg w1 hbx hbb; clear hg; have HX := Aside0.mk hbx; have HB := Aside0.mk hbb; clear hbx hbb; have hx0 : w1.cell? ⟨gi, 0, none⟩ = some (.int .i64 a0_0) := (blk_cell HX.out 0).trans rfl; have hx1 : w1.cell? ⟨gi, 1, none⟩ = some (.int .i64 a0_1) := (blk_cell HX.out 1).trans rfl; have hx2 : w1.cell? ⟨gi, 2, none⟩ = some (.int .i64 a0_2) := (blk_cell HX.out 2).trans rfl))
  go_ret2; exact ⟨by first | rfl | (simp; done), HB.out⟩
 rw [if_neg c2] at H; have c2b : decide (25 < a0_0) = false := decide_eq_false c2; replace H := ob H; obtain ⟨n, A1, H⟩ := H; have hp0 : decide (0 ≤ a0_0) = true := decide_eq_true (by omega); have hq0 : decide (a0_0 < 26) = true := decide_eq_true (by omega); have hp1 : (0 ≤ a0_0) = True := eq_true (by omega); have hq1 : (a0_0 < 26) = True := eq_true (by omega); have z1 : (a0_1 = 0 ∧ (a0_1 != 0) = false) ∨ (a0_1 ≠ 0 ∧ (a0_1 != 0) = true) := by by_cases h : a0_1 = 0; exact .inl ⟨h, bne_eq_false_iff_eq.mpr h⟩; exact .inr ⟨h, bne_iff_ne.mpr h⟩
 have z2 : (a0_2 = 0 ∧ (a0_2 != 0) = false) ∨ (a0_2 ≠ 0 ∧ (a0_2 != 0) = true) := by by_cases h : a0_2 = 0; exact .inl ⟨h, bne_eq_false_iff_eq.mpr h⟩; exact .inr ⟨h, bne_iff_ne.mpr h⟩
 by_cases c3 : n < 1
 ·rw [if_pos c3] at H; have c3b : decide (n < 1) = true := decide_eq_true c3; have c4b : decide (n < 2) = true := decide_eq_true (by omega)
  rcases z1 with ⟨z1, z1b⟩ | ⟨z1, z1b⟩
  rotate_left
  ·rw [if_neg z1] at H; obtain ⟨rfl, rfl⟩ : (⟨#[]⟩ : ByteArray) = r1 ∧ (61 : Int) = r2 := by injection H with H; injection H with h1_ h2_; exact ⟨h1_, h2_⟩
   clear H; go_enter Tryd.func96, Tryd.ntmps96
   go_wp2_with (first | ((with_reducible refine gate_dst (N := 1) rfl ?_); (try (refine gate_guard (by rfl) ?_; dsimp only)); refine bx 1 #[.int .i64 a0_0, .int .i64 a0_1, .int .i64 a0_2] 40 ?_; intro gi hg w1 hbx hbb; clear hg; have HX := Aside0.mk hbx; have HB := Aside0.mk hbb; clear hbx hbb; have hx0 : w1.cell? ⟨gi, 0, none⟩ = some (.int .i64 a0_0) := (blk_cell HX.out 0).trans rfl; have hx1 : w1.cell? ⟨gi, 1, none⟩ = some (.int .i64 a0_1) := (blk_cell HX.out 1).trans rfl; have hx2 : w1.cell? ⟨gi, 2, none⟩ = some (.int .i64 a0_2) := (blk_cell HX.out 2).trans rfl; have hlw : w1.cell? ⟨0, a0_0.toNat, none⟩ = some (.string (rdOf ByteArray.empty code_WORDS a0_0)) := WORDAT (Laid.below HLd.out HB.out) a0_0 (by omega) (by omega)) | ((with_reducible refine gate_dst (N := 20) rfl ?_); (try (refine gate_guard (by rfl) ?_; dsimp only)); refine Kd.R_lit Kd.string _ 9 ?hg (N := 20) ?hd (xs := ([rdOf ByteArray.empty code_WORDS a0_0] : List ByteArray)) (inner := [.string (rdOf ByteArray.empty code_WORDS a0_0)]) (ok := fun _ => True) (okp := fun _ => True) ?hr ?hp (fun _ hk => hk) trivial (Below.refl _ _) (Nat.le_refl _) (by simp) ?_; (case hd => rfl); (case hg => rfl); (case hr => first | (go_simp; done) | (go_simp; rfl)); (case hp => exact (Reps.one (show Kd.M Kd.string _ _ _ (rdOf ByteArray.empty code_WORDS a0_0) [.string (rdOf ByteArray.empty code_WORDS a0_0)] from rfl) (Reps.none _ _))); intro v2 w2 ho hb hg_ hnew_; clear hg_ hnew_; have HO := Aside0.mk (Kd.R_lower ho (below_size HB.out)); have HX := Aside0.mk (blk_below HX.out hb); have HB := Aside0.mk (below_step HB.out hb); clear ho hb hx0 hx1 hx2 hlw; have hx0 : w2.cell? ⟨gi, 0, none⟩ = some (.int .i64 a0_0) := (blk_cell HX.out 0).trans rfl) | (go_at_call 109; (with_reducible refine (code_numbers.calls k a0_0 n _ A1.out).mono ?_); rintro e w3 ⟨rfl, hd⟩; have hb3 : Below w2.heap.size w2 w3 := (by obtain ⟨nd, rfl⟩ := hd; exact pw_below_drewN (Below.refl _ _) nd); have HX := Aside0.mk (blk_below HX.out hb3); have HO := Aside0.mk (Kd.R_below HO.out hb3); have HB := Aside0.mk (below_step HB.out hb3); clear hb3 hd hx0; have hx1 : w3.cell? ⟨gi, 1, none⟩ = some (.int .i64 a0_1) := (blk_cell HX.out 1).trans rfl; have hx2 : w3.cell? ⟨gi, 2, none⟩ = some (.int .i64 a0_2) := (blk_cell HX.out 2).trans rfl))
   go_ret2; exact ⟨by first | rfl | (simp; done), HB.out⟩
  rw [if_pos z1] at H
  rcases z2 with ⟨z2, z2b⟩ | ⟨z2, z2b⟩
  rotate_left
  ·rw [if_neg z2] at H; obtain ⟨rfl, rfl⟩ : (⟨#[]⟩ : ByteArray) = r1 ∧ (61 : Int) = r2 := by injection H with H; injection H with h1_ h2_; exact ⟨h1_, h2_⟩
   clear H; go_enter Tryd.func96, Tryd.ntmps96
   go_wp2_with (first | ((with_reducible refine gate_dst (N := 1) rfl ?_); (try (refine gate_guard (by rfl) ?_; dsimp only)); refine bx 1 #[.int .i64 a0_0, .int .i64 a0_1, .int .i64 a0_2] 40 ?_; intro gi hg w1 hbx hbb; clear hg; have HX := Aside0.mk hbx; have HB := Aside0.mk hbb; clear hbx hbb; have hx0 : w1.cell? ⟨gi, 0, none⟩ = some (.int .i64 a0_0) := (blk_cell HX.out 0).trans rfl; have hx1 : w1.cell? ⟨gi, 1, none⟩ = some (.int .i64 a0_1) := (blk_cell HX.out 1).trans rfl; have hx2 : w1.cell? ⟨gi, 2, none⟩ = some (.int .i64 a0_2) := (blk_cell HX.out 2).trans rfl; have hlw : w1.cell? ⟨0, a0_0.toNat, none⟩ = some (.string (rdOf ByteArray.empty code_WORDS a0_0)) := WORDAT (Laid.below HLd.out HB.out) a0_0 (by omega) (by omega)) | ((with_reducible refine gate_dst (N := 20) rfl ?_); (try (refine gate_guard (by rfl) ?_; dsimp only)); refine Kd.R_lit Kd.string _ 9 ?hg (N := 20) ?hd (xs := ([rdOf ByteArray.empty code_WORDS a0_0] : List ByteArray)) (inner := [.string (rdOf ByteArray.empty code_WORDS a0_0)]) (ok := fun _ => True) (okp := fun _ => True) ?hr ?hp (fun _ hk => hk) trivial (Below.refl _ _) (Nat.le_refl _) (by simp) ?_; (case hd => rfl); (case hg => rfl); (case hr => first | (go_simp; done) | (go_simp; rfl)); (case hp => exact (Reps.one (show Kd.M Kd.string _ _ _ (rdOf ByteArray.empty code_WORDS a0_0) [.string (rdOf ByteArray.empty code_WORDS a0_0)] from rfl) (Reps.none _ _))); intro v2 w2 ho hb hg_ hnew_; clear hg_ hnew_; have HO := Aside0.mk (Kd.R_lower ho (below_size HB.out)); have HX := Aside0.mk (blk_below HX.out hb); have HB := Aside0.mk (below_step HB.out hb); clear ho hb hx0 hx1 hx2 hlw; have hx0 : w2.cell? ⟨gi, 0, none⟩ = some (.int .i64 a0_0) := (blk_cell HX.out 0).trans rfl) | (go_at_call 109; (with_reducible refine (code_numbers.calls k a0_0 n _ A1.out).mono ?_); rintro e w3 ⟨rfl, hd⟩; have hb3 : Below w2.heap.size w2 w3 := (by obtain ⟨nd, rfl⟩ := hd; exact pw_below_drewN (Below.refl _ _) nd); have HX := Aside0.mk (blk_below HX.out hb3); have HO := Aside0.mk (Kd.R_below HO.out hb3); have HB := Aside0.mk (below_step HB.out hb3); clear hb3 hd hx0; have hx1 : w3.cell? ⟨gi, 1, none⟩ = some (.int .i64 a0_1) := (blk_cell HX.out 1).trans rfl; have hx2 : w3.cell? ⟨gi, 2, none⟩ = some (.int .i64 a0_2) := (blk_cell HX.out 2).trans rfl))
   go_ret2; exact ⟨by first | rfl | (simp; done), HB.out⟩
  rw [if_pos z2] at H; replace H := Option.bind_eq_some_iff.mp H; obtain ⟨s, A20, H⟩ := H; have AJ := Aside0.mk A20; clear A20; obtain ⟨e1_, e2_⟩ : s = r1 ∧ (0 : Int) = r2 := by injection H with H; injection H with h1_ h2_; exact ⟨h1_, h2_⟩
  subst e2_; replace AJ := Aside0.mk (e1_ ▸ AJ.out); clear H e1_ s; have hn0 : decide (0 < n) = false := decide_eq_false (by omega); have hn1 : decide (1 < n) = false := decide_eq_false (by omega); go_enter Tryd.func96, Tryd.ntmps96
  go_wp2_with (first | ((with_reducible refine gate_dst (N := 1) rfl ?_); (try (refine gate_guard (by rfl) ?_; dsimp only)); refine bx 1 #[.int .i64 a0_0, .int .i64 a0_1, .int .i64 a0_2] 40 ?_; intro gi hg w1 hbx hbb; clear hg; have HX := Aside0.mk hbx; have HB := Aside0.mk hbb; clear hbx hbb; have hx0 : w1.cell? ⟨gi, 0, none⟩ = some (.int .i64 a0_0) := (blk_cell HX.out 0).trans rfl; have hx1 : w1.cell? ⟨gi, 1, none⟩ = some (.int .i64 a0_1) := (blk_cell HX.out 1).trans rfl; have hx2 : w1.cell? ⟨gi, 2, none⟩ = some (.int .i64 a0_2) := (blk_cell HX.out 2).trans rfl; have hlw : w1.cell? ⟨0, a0_0.toNat, none⟩ = some (.string (rdOf ByteArray.empty code_WORDS a0_0)) := WORDAT (Laid.below HLd.out HB.out) a0_0 (by omega) (by omega)) | ((with_reducible refine gate_dst (N := 20) rfl ?_); (try (refine gate_guard (by rfl) ?_; dsimp only)); refine Kd.R_lit Kd.string _ 9 ?hg (N := 20) ?hd (xs := ([rdOf ByteArray.empty code_WORDS a0_0] : List ByteArray)) (inner := [.string (rdOf ByteArray.empty code_WORDS a0_0)]) (ok := fun _ => True) (okp := fun _ => True) ?hr ?hp (fun _ hk => hk) trivial (Below.refl _ _) (Nat.le_refl _) (by simp) ?_; (case hd => rfl); (case hg => rfl); (case hr => first | (go_simp; done) | (go_simp; rfl)); (case hp => exact (Reps.one (show Kd.M Kd.string _ _ _ (rdOf ByteArray.empty code_WORDS a0_0) [.string (rdOf ByteArray.empty code_WORDS a0_0)] from rfl) (Reps.none _ _))); intro v2 w2 ho hb hg_ hnew_; clear hg_ hnew_; have HO := Aside0.mk (Kd.R_lower ho (below_size HB.out)); have HX := Aside0.mk (blk_below HX.out hb); have HB := Aside0.mk (below_step HB.out hb); clear ho hb hx0 hx1 hx2 hlw; have hx0 : w2.cell? ⟨gi, 0, none⟩ = some (.int .i64 a0_0) := (blk_cell HX.out 0).trans rfl) | (go_at_call 109; (with_reducible refine (code_numbers.calls k a0_0 n _ A1.out).mono ?_); rintro e w3 ⟨rfl, hd⟩; have hb3 : Below w2.heap.size w2 w3 := (by obtain ⟨nd, rfl⟩ := hd; exact pw_below_drewN (Below.refl _ _) nd); have HX := Aside0.mk (blk_below HX.out hb3); have HO := Aside0.mk (Kd.R_below HO.out hb3); have HB := Aside0.mk (below_step HB.out hb3); clear hb3 hd hx0; have hx1 : w3.cell? ⟨gi, 1, none⟩ = some (.int .i64 a0_1) := (blk_cell HX.out 1).trans rfl; have hx2 : w3.cell? ⟨gi, 2, none⟩ = some (.int .i64 a0_2) := (blk_cell HX.out 2).trans rfl))
  clear hx1 hx2
  go_loopg [4, 45] 2 (fun kq v4 v45 w' => ∃ (x : Nat) (l : List ByteArray), v45 = .int .i64 (x : Int) ∧ Aside0 (kq + x = 2) ∧ Aside0 (l = match x with | 0 => [rdOf ByteArray.empty code_WORDS a0_0] | 1 => [rdOf ByteArray.empty code_WORDS a0_0] | _ => [rdOf ByteArray.empty code_WORDS a0_0]) ∧ Aside0 (w'.heap[gi]? = some (.cells #[.int .i64 a0_0, .int .i64 a0_1, .int .i64 a0_2] 40 (0, 0))) ∧ Aside0 (Kd.R Kd.string 9 w' w.heap.size (fun _ => True) v4 l) ∧ Aside0 (Below w.heap.size w w'))
  case atStart => exact ⟨0, _, rfl, ⟨rfl⟩, ⟨rfl⟩, HX, HO, HB⟩
  case round =>
   clear HX HO HB; obtain ⟨x, l, rfl, HK, HE, HX, HO, HB⟩ := hrel; have hx : x = 0 ∨ x = 1 ∨ x = 2 := by have := HK.out; omega
   rcases hx with rfl | rfl | rfl
   ·skip
    have hE := HE.out; simp only at hE; subst hE
    cases gk with
    | zero => exact absurd HK.out (by omega)
    | succ k1 =>
     have hk1 : k1 + 1 = 2 := by have := HK.out; omega
     clear HE HK; go_wp2
     go_roundg k1
     case measure => omega
     case rel => exact ⟨1, _, by simp, ⟨hk1⟩, ⟨rfl⟩, HX, HO, HB⟩
   ·skip
    have hE := HE.out; simp only at hE; subst hE
    cases gk with
    | zero => exact absurd HK.out (by omega)
    | succ k1 =>
     have hk1 : k1 + 2 = 2 := by have := HK.out; omega
     clear HE HK; go_wp2
     go_roundg k1
     case measure => omega
     case rel => exact ⟨2, _, by simp, ⟨hk1⟩, ⟨rfl⟩, HX, HO, HB⟩
   ·skip
    have hE := HE.out; simp only at hE; have AJ2 : Aside0 (num_Join.f k l = some r1) := ⟨by rw [show l = ([rdOf ByteArray.empty code_WORDS a0_0] : List ByteArray) from hE]; exact AJ.out⟩; clear HE HK hE; obtain ⟨Aq, cq, eq_⟩ := Kd.R_slice HO.out; subst eq_
    go_wp2_with (first | (go_at_call 111; (with_reducible refine (num_Join.calls k Aq cq l _ _ (Kd.R_reads' HO.out).2.2 (Kd.R_reads' HO.out).2.1 AJ2.out).mono ?_); rintro e w9 ⟨rfl, hb⟩; have HB := Aside0.mk (below_step HB.out hb); clear hb))
    go_ret2; exact ⟨by first | rfl | (simp; done), HB.out⟩
 rw [if_neg c3] at H; have c3b : decide (n < 1) = false := decide_eq_false c3
 by_cases c4 : n < 2
 ·rw [if_pos c4] at H; have c4b : decide (n < 2) = true := decide_eq_true c4
  rcases z2 with ⟨z2, z2b⟩ | ⟨z2, z2b⟩
  rotate_left
  ·rw [if_neg z2] at H; obtain ⟨rfl, rfl⟩ : (⟨#[]⟩ : ByteArray) = r1 ∧ (61 : Int) = r2 := by injection H with H; injection H with h1_ h2_; exact ⟨h1_, h2_⟩
   clear H; go_enter Tryd.func96, Tryd.ntmps96
   go_wp2_with (first | ((with_reducible refine gate_dst (N := 1) rfl ?_); (try (refine gate_guard (by rfl) ?_; dsimp only)); refine bx 1 #[.int .i64 a0_0, .int .i64 a0_1, .int .i64 a0_2] 40 ?_; intro gi hg w1 hbx hbb; clear hg; have HX := Aside0.mk hbx; have HB := Aside0.mk hbb; clear hbx hbb; have hx0 : w1.cell? ⟨gi, 0, none⟩ = some (.int .i64 a0_0) := (blk_cell HX.out 0).trans rfl; have hx1 : w1.cell? ⟨gi, 1, none⟩ = some (.int .i64 a0_1) := (blk_cell HX.out 1).trans rfl; have hx2 : w1.cell? ⟨gi, 2, none⟩ = some (.int .i64 a0_2) := (blk_cell HX.out 2).trans rfl; have hlw : w1.cell? ⟨0, a0_0.toNat, none⟩ = some (.string (rdOf ByteArray.empty code_WORDS a0_0)) := WORDAT (Laid.below HLd.out HB.out) a0_0 (by omega) (by omega)) | ((with_reducible refine gate_dst (N := 20) rfl ?_); (try (refine gate_guard (by rfl) ?_; dsimp only)); refine Kd.R_lit Kd.string _ 9 ?hg (N := 20) ?hd (xs := ([rdOf ByteArray.empty code_WORDS a0_0] : List ByteArray)) (inner := [.string (rdOf ByteArray.empty code_WORDS a0_0)]) (ok := fun _ => True) (okp := fun _ => True) ?hr ?hp (fun _ hk => hk) trivial (Below.refl _ _) (Nat.le_refl _) (by simp) ?_; (case hd => rfl); (case hg => rfl); (case hr => first | (go_simp; done) | (go_simp; rfl)); (case hp => exact (Reps.one (show Kd.M Kd.string _ _ _ (rdOf ByteArray.empty code_WORDS a0_0) [.string (rdOf ByteArray.empty code_WORDS a0_0)] from rfl) (Reps.none _ _))); intro v2 w2 ho hb hg_ hnew_; clear hg_ hnew_; have HO := Aside0.mk (Kd.R_lower ho (below_size HB.out)); have HX := Aside0.mk (blk_below HX.out hb); have HB := Aside0.mk (below_step HB.out hb); clear ho hb hx0 hx1 hx2 hlw; have hx0 : w2.cell? ⟨gi, 0, none⟩ = some (.int .i64 a0_0) := (blk_cell HX.out 0).trans rfl) | (go_at_call 109; (with_reducible refine (code_numbers.calls k a0_0 n _ A1.out).mono ?_); rintro e w3 ⟨rfl, hd⟩; have hb3 : Below w2.heap.size w2 w3 := (by obtain ⟨nd, rfl⟩ := hd; exact pw_below_drewN (Below.refl _ _) nd); have HX := Aside0.mk (blk_below HX.out hb3); have HO := Aside0.mk (Kd.R_below HO.out hb3); have HB := Aside0.mk (below_step HB.out hb3); clear hb3 hd hx0; have hx1 : w3.cell? ⟨gi, 1, none⟩ = some (.int .i64 a0_1) := (blk_cell HX.out 1).trans rfl; have hx2 : w3.cell? ⟨gi, 2, none⟩ = some (.int .i64 a0_2) := (blk_cell HX.out 2).trans rfl))
   go_ret2; exact ⟨by first | rfl | (simp; done), HB.out⟩
  rw [if_pos z2] at H; replace H := Option.bind_eq_some_iff.mp H; obtain ⟨t, A30, H⟩ := H; have AT := Aside0.mk A30; clear A30; replace H := Option.bind_eq_some_iff.mp H; obtain ⟨s, A20, H⟩ := H; have AJ := Aside0.mk A20; clear A20; obtain ⟨e1_, e2_⟩ : s = r1 ∧ (0 : Int) = r2 := by injection H with H; injection H with h1_ h2_; exact ⟨h1_, h2_⟩
  subst e2_; replace AJ := Aside0.mk (e1_ ▸ AJ.out); clear H e1_ s; have hn0 : decide (0 < n) = true := decide_eq_true (by omega); have hn1 : decide (1 < n) = false := decide_eq_false (by omega); go_enter Tryd.func96, Tryd.ntmps96
  go_wp2_with (first | ((with_reducible refine gate_dst (N := 1) rfl ?_); (try (refine gate_guard (by rfl) ?_; dsimp only)); refine bx 1 #[.int .i64 a0_0, .int .i64 a0_1, .int .i64 a0_2] 40 ?_; intro gi hg w1 hbx hbb; clear hg; have HX := Aside0.mk hbx; have HB := Aside0.mk hbb; clear hbx hbb; have hx0 : w1.cell? ⟨gi, 0, none⟩ = some (.int .i64 a0_0) := (blk_cell HX.out 0).trans rfl; have hx1 : w1.cell? ⟨gi, 1, none⟩ = some (.int .i64 a0_1) := (blk_cell HX.out 1).trans rfl; have hx2 : w1.cell? ⟨gi, 2, none⟩ = some (.int .i64 a0_2) := (blk_cell HX.out 2).trans rfl; have hlw : w1.cell? ⟨0, a0_0.toNat, none⟩ = some (.string (rdOf ByteArray.empty code_WORDS a0_0)) := WORDAT (Laid.below HLd.out HB.out) a0_0 (by omega) (by omega)) | ((with_reducible refine gate_dst (N := 20) rfl ?_); (try (refine gate_guard (by rfl) ?_; dsimp only)); refine Kd.R_lit Kd.string _ 9 ?hg (N := 20) ?hd (xs := ([rdOf ByteArray.empty code_WORDS a0_0] : List ByteArray)) (inner := [.string (rdOf ByteArray.empty code_WORDS a0_0)]) (ok := fun _ => True) (okp := fun _ => True) ?hr ?hp (fun _ hk => hk) trivial (Below.refl _ _) (Nat.le_refl _) (by simp) ?_; (case hd => rfl); (case hg => rfl); (case hr => first | (go_simp; done) | (go_simp; rfl)); (case hp => exact (Reps.one (show Kd.M Kd.string _ _ _ (rdOf ByteArray.empty code_WORDS a0_0) [.string (rdOf ByteArray.empty code_WORDS a0_0)] from rfl) (Reps.none _ _))); intro v2 w2 ho hb hg_ hnew_; clear hg_ hnew_; have HO := Aside0.mk (Kd.R_lower ho (below_size HB.out)); have HX := Aside0.mk (blk_below HX.out hb); have HB := Aside0.mk (below_step HB.out hb); clear ho hb hx0 hx1 hx2 hlw; have hx0 : w2.cell? ⟨gi, 0, none⟩ = some (.int .i64 a0_0) := (blk_cell HX.out 0).trans rfl) | (go_at_call 109; (with_reducible refine (code_numbers.calls k a0_0 n _ A1.out).mono ?_); rintro e w3 ⟨rfl, hd⟩; have hb3 : Below w2.heap.size w2 w3 := (by obtain ⟨nd, rfl⟩ := hd; exact pw_below_drewN (Below.refl _ _) nd); have HX := Aside0.mk (blk_below HX.out hb3); have HO := Aside0.mk (Kd.R_below HO.out hb3); have HB := Aside0.mk (below_step HB.out hb3); clear hb3 hd hx0; have hx1 : w3.cell? ⟨gi, 1, none⟩ = some (.int .i64 a0_1) := (blk_cell HX.out 1).trans rfl; have hx2 : w3.cell? ⟨gi, 2, none⟩ = some (.int .i64 a0_2) := (blk_cell HX.out 2).trans rfl))
  clear hx1 hx2
  go_loopg [4, 45] 2 (fun kq v4 v45 w' => ∃ (x : Nat) (l : List ByteArray), v45 = .int .i64 (x : Int) ∧ Aside0 (kq + x = 2) ∧ Aside0 (l = match x with | 0 => [rdOf ByteArray.empty code_WORDS a0_0] | 1 => [rdOf ByteArray.empty code_WORDS a0_0] ++ [t] | _ => [rdOf ByteArray.empty code_WORDS a0_0] ++ [t]) ∧ Aside0 (w'.heap[gi]? = some (.cells #[.int .i64 a0_0, .int .i64 a0_1, .int .i64 a0_2] 40 (0, 0))) ∧ Aside0 (Kd.R Kd.string 9 w' w.heap.size (fun _ => True) v4 l) ∧ Aside0 (Below w.heap.size w w'))
  case atStart => exact ⟨0, _, rfl, ⟨rfl⟩, ⟨rfl⟩, HX, HO, HB⟩
  case round =>
   clear HX HO HB; obtain ⟨x, l, rfl, HK, HE, HX, HO, HB⟩ := hrel; have hx : x = 0 ∨ x = 1 ∨ x = 2 := by have := HK.out; omega
   rcases hx with rfl | rfl | rfl
   ·skip
    have hE := HE.out; simp only at hE; subst hE
    cases gk with
    | zero => exact absurd HK.out (by omega)
    | succ k1 =>
     have hk1 : k1 + 1 = 2 := by have := HK.out; omega
     clear HE HK
     go_wp2_with (first | (go_at_call 110; (with_reducible refine (num_Text.calls a0_1 t _ AT.out).mono ?_); rintro e w6 ⟨rfl, hb⟩; have HX := Aside0.mk (blk_below HX.out hb); have HO := Aside0.mk (Kd.R_below HO.out hb); have HB := Aside0.mk (below_step HB.out hb); clear hb) | ((with_reducible refine gate_builtin (b := .append) (xs := #[.tmp 52, .tmp 55]) rfl ?_); at_builtin; refine Kd.R_append Kd.string (w0 := w) w.heap.size rfl (.tmp 52) (.tmp 55) 153 9 (.string ⟨#[]⟩) 16 rfl Tryd.underlying153 info9 rfl (by decide) (by omega) _ _ t [.string t] (fun _ => True) (fun _ => False) rfl rfl rfl (fun _ hk => hk.elim) (fun _ _ => trivial) HO.out HB.out (below_size HB.out) (by simp) ?_; intro v7 w7 ho hb hg hat; have HX := Aside0.mk (blk_grown HX.out hg (Kd.R_ne HO.out HX.out (by decide))); have HO := Aside0.mk ho; have HB := Aside0.mk hb; clear ho hb hg hat))
     go_roundg k1
     case measure => omega
     case rel => exact ⟨1, _, by simp, ⟨hk1⟩, ⟨rfl⟩, HX, HO, HB⟩
   ·skip
    have hE := HE.out; simp only at hE; subst hE
    cases gk with
    | zero => exact absurd HK.out (by omega)
    | succ k1 =>
     have hk1 : k1 + 2 = 2 := by have := HK.out; omega
     clear HE HK; go_wp2
     go_roundg k1
     case measure => omega
     case rel => exact ⟨2, _, by simp, ⟨hk1⟩, ⟨rfl⟩, HX, HO, HB⟩
   ·skip
    have hE := HE.out; simp only at hE; have AJ2 : Aside0 (num_Join.f k l = some r1) := ⟨by rw [show l = ([rdOf ByteArray.empty code_WORDS a0_0, t] : List ByteArray) from hE]; exact AJ.out⟩; clear HE HK hE; obtain ⟨Aq, cq, eq_⟩ := Kd.R_slice HO.out; subst eq_
    go_wp2_with (first | (go_at_call 111; (with_reducible refine (num_Join.calls k Aq cq l _ _ (Kd.R_reads' HO.out).2.2 (Kd.R_reads' HO.out).2.1 AJ2.out).mono ?_); rintro e w9 ⟨rfl, hb⟩; have HB := Aside0.mk (below_step HB.out hb); clear hb))
    go_ret2; exact ⟨by first | rfl | (simp; done), HB.out⟩
 rw [if_neg c4] at H; have c4b : decide (n < 2) = false := decide_eq_false c4; replace H := Option.bind_eq_some_iff.mp H; obtain ⟨t, A30, H⟩ := H; have AT := Aside0.mk A30; clear A30; replace H := Option.bind_eq_some_iff.mp H; obtain ⟨u, A40, H⟩ := H; have AU := Aside0.mk A40; clear A40; replace H := Option.bind_eq_some_iff.mp H; obtain ⟨s, A20, H⟩ := H; have AJ := Aside0.mk A20; clear A20; obtain ⟨e1_, e2_⟩ : s = r1 ∧ (0 : Int) = r2 := by injection H with H; injection H with h1_ h2_; exact ⟨h1_, h2_⟩
 subst e2_; replace AJ := Aside0.mk (e1_ ▸ AJ.out); clear H e1_ s; have hn0 : decide (0 < n) = true := decide_eq_true (by omega); have hn1 : decide (1 < n) = true := decide_eq_true (by omega); go_enter Tryd.func96, Tryd.ntmps96
 go_wp2_with (first | ((with_reducible refine gate_dst (N := 1) rfl ?_); (try (refine gate_guard (by rfl) ?_; dsimp only)); refine bx 1 #[.int .i64 a0_0, .int .i64 a0_1, .int .i64 a0_2] 40 ?_; intro gi hg w1 hbx hbb; clear hg; have HX := Aside0.mk hbx; have HB := Aside0.mk hbb; clear hbx hbb; have hx0 : w1.cell? ⟨gi, 0, none⟩ = some (.int .i64 a0_0) := (blk_cell HX.out 0).trans rfl; have hx1 : w1.cell? ⟨gi, 1, none⟩ = some (.int .i64 a0_1) := (blk_cell HX.out 1).trans rfl; have hx2 : w1.cell? ⟨gi, 2, none⟩ = some (.int .i64 a0_2) := (blk_cell HX.out 2).trans rfl; have hlw : w1.cell? ⟨0, a0_0.toNat, none⟩ = some (.string (rdOf ByteArray.empty code_WORDS a0_0)) := WORDAT (Laid.below HLd.out HB.out) a0_0 (by omega) (by omega)) | ((with_reducible refine gate_dst (N := 20) rfl ?_); (try (refine gate_guard (by rfl) ?_; dsimp only)); refine Kd.R_lit Kd.string _ 9 ?hg (N := 20) ?hd (xs := ([rdOf ByteArray.empty code_WORDS a0_0] : List ByteArray)) (inner := [.string (rdOf ByteArray.empty code_WORDS a0_0)]) (ok := fun _ => True) (okp := fun _ => True) ?hr ?hp (fun _ hk => hk) trivial (Below.refl _ _) (Nat.le_refl _) (by simp) ?_; (case hd => rfl); (case hg => rfl); (case hr => first | (go_simp; done) | (go_simp; rfl)); (case hp => exact (Reps.one (show Kd.M Kd.string _ _ _ (rdOf ByteArray.empty code_WORDS a0_0) [.string (rdOf ByteArray.empty code_WORDS a0_0)] from rfl) (Reps.none _ _))); intro v2 w2 ho hb hg_ hnew_; clear hg_ hnew_; have HO := Aside0.mk (Kd.R_lower ho (below_size HB.out)); have HX := Aside0.mk (blk_below HX.out hb); have HB := Aside0.mk (below_step HB.out hb); clear ho hb hx0 hx1 hx2 hlw; have hx0 : w2.cell? ⟨gi, 0, none⟩ = some (.int .i64 a0_0) := (blk_cell HX.out 0).trans rfl) | (go_at_call 109; (with_reducible refine (code_numbers.calls k a0_0 n _ A1.out).mono ?_); rintro e w3 ⟨rfl, hd⟩; have hb3 : Below w2.heap.size w2 w3 := (by obtain ⟨nd, rfl⟩ := hd; exact pw_below_drewN (Below.refl _ _) nd); have HX := Aside0.mk (blk_below HX.out hb3); have HO := Aside0.mk (Kd.R_below HO.out hb3); have HB := Aside0.mk (below_step HB.out hb3); clear hb3 hd hx0; have hx1 : w3.cell? ⟨gi, 1, none⟩ = some (.int .i64 a0_1) := (blk_cell HX.out 1).trans rfl; have hx2 : w3.cell? ⟨gi, 2, none⟩ = some (.int .i64 a0_2) := (blk_cell HX.out 2).trans rfl))
 clear hx1 hx2
 go_loopg [4, 45] 2 (fun kq v4 v45 w' => ∃ (x : Nat) (l : List ByteArray), v45 = .int .i64 (x : Int) ∧ Aside0 (kq + x = 2) ∧ Aside0 (l = match x with | 0 => [rdOf ByteArray.empty code_WORDS a0_0] | 1 => [rdOf ByteArray.empty code_WORDS a0_0] ++ [t] | _ => [rdOf ByteArray.empty code_WORDS a0_0] ++ [t] ++ [u]) ∧ Aside0 (w'.heap[gi]? = some (.cells #[.int .i64 a0_0, .int .i64 a0_1, .int .i64 a0_2] 40 (0, 0))) ∧ Aside0 (Kd.R Kd.string 9 w' w.heap.size (fun _ => True) v4 l) ∧ Aside0 (Below w.heap.size w w'))
 case atStart => exact ⟨0, _, rfl, ⟨rfl⟩, ⟨rfl⟩, HX, HO, HB⟩
 case round =>
  clear HX HO HB; obtain ⟨x, l, rfl, HK, HE, HX, HO, HB⟩ := hrel; have hx : x = 0 ∨ x = 1 ∨ x = 2 := by have := HK.out; omega
  rcases hx with rfl | rfl | rfl
  ·skip
   have hE := HE.out; simp only at hE; subst hE
   cases gk with
   | zero => exact absurd HK.out (by omega)
   | succ k1 =>
    have hk1 : k1 + 1 = 2 := by have := HK.out; omega
    clear HE HK
    go_wp2_with (first | (go_at_call 110; (with_reducible refine (num_Text.calls a0_1 t _ AT.out).mono ?_); rintro e w6 ⟨rfl, hb⟩; have HX := Aside0.mk (blk_below HX.out hb); have HO := Aside0.mk (Kd.R_below HO.out hb); have HB := Aside0.mk (below_step HB.out hb); clear hb) | ((with_reducible refine gate_builtin (b := .append) (xs := #[.tmp 52, .tmp 55]) rfl ?_); at_builtin; refine Kd.R_append Kd.string (w0 := w) w.heap.size rfl (.tmp 52) (.tmp 55) 153 9 (.string ⟨#[]⟩) 16 rfl Tryd.underlying153 info9 rfl (by decide) (by omega) _ _ t [.string t] (fun _ => True) (fun _ => False) rfl rfl rfl (fun _ hk => hk.elim) (fun _ _ => trivial) HO.out HB.out (below_size HB.out) (by simp) ?_; intro v7 w7 ho hb hg hat; have HX := Aside0.mk (blk_grown HX.out hg (Kd.R_ne HO.out HX.out (by decide))); have HO := Aside0.mk ho; have HB := Aside0.mk hb; clear ho hb hg hat))
    go_roundg k1
    case measure => omega
    case rel => exact ⟨1, _, by simp, ⟨hk1⟩, ⟨rfl⟩, HX, HO, HB⟩
  ·skip
   have hE := HE.out; simp only at hE; subst hE
   cases gk with
   | zero => exact absurd HK.out (by omega)
   | succ k1 =>
    have hk1 : k1 + 2 = 2 := by have := HK.out; omega
    clear HE HK
    go_wp2_with (first | (go_at_call 110; (with_reducible refine (num_Text.calls a0_2 u _ AU.out).mono ?_); rintro e w6 ⟨rfl, hb⟩; have HX := Aside0.mk (blk_below HX.out hb); have HO := Aside0.mk (Kd.R_below HO.out hb); have HB := Aside0.mk (below_step HB.out hb); clear hb) | ((with_reducible refine gate_builtin (b := .append) (xs := #[.tmp 52, .tmp 55]) rfl ?_); at_builtin; refine Kd.R_append Kd.string (w0 := w) w.heap.size rfl (.tmp 52) (.tmp 55) 153 9 (.string ⟨#[]⟩) 16 rfl Tryd.underlying153 info9 rfl (by decide) (by omega) _ _ u [.string u] (fun _ => True) (fun _ => False) rfl rfl rfl (fun _ hk => hk.elim) (fun _ _ => trivial) HO.out HB.out (below_size HB.out) (by simp) ?_; intro v7 w7 ho hb hg hat; have HX := Aside0.mk (blk_grown HX.out hg (Kd.R_ne HO.out HX.out (by decide))); have HO := Aside0.mk ho; have HB := Aside0.mk hb; clear ho hb hg hat))
    go_roundg k1
    case measure => omega
    case rel => exact ⟨2, _, by simp, ⟨hk1⟩, ⟨rfl⟩, HX, HO, HB⟩
  ·skip
   have hE := HE.out; simp only at hE; have AJ2 : Aside0 (num_Join.f k l = some r1) := ⟨by rw [show l = ([rdOf ByteArray.empty code_WORDS a0_0, t, u] : List ByteArray) from hE]; exact AJ.out⟩; clear HE HK hE; obtain ⟨Aq, cq, eq_⟩ := Kd.R_slice HO.out; subst eq_
   go_wp2_with (first | (go_at_call 111; (with_reducible refine (num_Join.calls k Aq cq l _ _ (Kd.R_reads' HO.out).2.2 (Kd.R_reads' HO.out).2.1 AJ2.out).mono ?_); rintro e w9 ⟨rfl, hb⟩; have HB := Aside0.mk (below_step HB.out hb); clear hb))
   go_ret2; exact ⟨by first | rfl | (simp; done), HB.out⟩

/-! ### code_checker_within: function 97 -/
def code_checker_within.f (l0 : List (S35)) (a1 : Int) (a2 : Int) (l3_0 : List (S40)) (a3_1 : Int) (a3_2 : Int) (a3_3 : Bool) : Option (Bool) := if a1 ≥ 0 then (if a2 ≥ 1 then (if a1 ≤ a3_1 then (some (decide (a2 ≤ (wrap64 (a3_1 - a1))))) else (some false)) else (some false)) else (some false)
set_option maxHeartbeats 8000000 in
set_option maxRecDepth 100000 in
theorem code_checker_within.calls0 (gb115 : Nat) (A0 : Option Addr) (c0 : Nat) (l0 : List (S35)) (a1 : Int) (a2 : Int) (A3_0 : Option Addr) (c3_0 : Nat) (l3_0 : List (S40)) (a3_1 : Int) (a3_2 : Int) (a3_3 : Bool) (r : Bool) (w w8 : World) (hr0 : Kd.C k35 w A0 l0.length l0) (hc0 : l0.length ≤ c0) (hr3_0 : Kd.C k40 w A3_0 l3_0.length l3_0) (hc3_0 : l3_0.length ≤ c3_0) (hbox : w8.heap[gb115]? = some (.cells #[.slice A0 l0.length c0, .slice A3_0 l3_0.length c3_0, .int .i64 a3_1, .int .i64 a3_2, .bool a3_3, .slice none 0 0] 105 (0, 0))) (hw3 : w8 = w) (h : code_checker_within.f l0 a1 a2 l3_0 a3_1 a3_2 a3_3 = some r) :
  Calls Tryd.prog 97 #[.pointer (some ⟨gb115, 0, none⟩), .int .i64 a1, .int .i64 a2] w8 fun e w' => e = .returned (.bool r) ∧ Below w.heap.size w w' := by
 have hu105 := Tryd.underlying105; have HR0 := Aside0.mk hr0; have HC0 := Aside0.mk hc0; clear hr0 hc0; have HR3_0 := Aside0.mk hr3_0; have HC3_0 := Aside0.mk hc3_0; clear hr3_0 hc3_0; have HB := Aside0.mk (Below.refl w.heap.size w); have H : (if a1 ≥ 0 then (if a2 ≥ 1 then (if a1 ≤ a3_1 then (some (decide (a2 ≤ (wrap64 (a3_1 - a1))))) else (some false)) else (some false)) else (some false)) = some r := h; clear h; have HH_ := Aside0.mk H; clear H; have BK115 := Aside0.mk hbox; have n0_ := Aside0.mk (show Below w.heap.size w w8 from by subst hw3; exact Below.refl _ _); clear hw3 HB; have HB := n0_; clear n0_ hbox; refine ?roundEnd; go_enter Tryd.func97, Tryd.ntmps97
 go_wp2_with (first | fail)
 case roundEnd =>
  have H := HH_.out; clear HH_
  by_cases c5 : a1 ≥ 0
  ·rw [if_pos c5] at H; have c5b0 : decide (0 ≤ a1) = true := decide_eq_true c5; clear c5; have HH_ := Aside0.mk H; clear H; refine ?roundEnd; go_wp2
   case roundEnd =>
    have H := HH_.out; clear HH_
    by_cases c6 : a2 ≥ 1
    ·rw [if_pos c6] at H; have c6b0 : decide (1 ≤ a2) = true := decide_eq_true c6; clear c6; have HH_ := Aside0.mk H; clear H; obtain ⟨hcz9_0, hcz9_1, hcz9_2, hcz9_3, hcz9_4, hcz9_5, hfz9_0, hfz9_1, hfz9_2, hfz9_3, hfz9_4, hfz9_5⟩ := bc6 BK115.out; refine ?roundEnd; go_wp2
     case roundEnd =>
      have H := HH_.out; clear HH_
      by_cases c7 : a1 ≤ a3_1
      ·rw [if_pos c7] at H; have c7b0 := decide_eq_true c7; clear c7; obtain rfl := Option.some.inj H; go_wp2; go_ret; exact ⟨pe, bl⟩
      ·rw [if_neg c7] at H; have c7b0 := decide_eq_false c7; clear c7; obtain rfl := Option.some.inj H; go_wp2; go_ret; exact ⟨pe, bl⟩
    ·rw [if_neg c6] at H; have c6b0 : decide (1 ≤ a2) = false := decide_eq_false c6; clear c6; obtain rfl := Option.some.inj H; go_wp2; go_ret; exact ⟨pe, bl⟩
  ·rw [if_neg c5] at H; have c5b0 : decide (0 ≤ a1) = false := decide_eq_false c5; clear c5; obtain rfl := Option.some.inj H; go_wp2; go_ret; exact ⟨pe, bl⟩

theorem code_checker_within.calls (gb115 : Nat) (A0 : Option Addr) (c0 : Nat) (l0 : List (S35)) (a1 : Int) (a2 : Int) (A3_0 : Option Addr) (c3_0 : Nat) (l3_0 : List (S40)) (a3_1 : Int) (a3_2 : Int) (a3_3 : Bool) (r : Bool) (w : World) (hr0 : Kd.C k35 w A0 l0.length l0) (hc0 : l0.length ≤ c0) (hr3_0 : Kd.C k40 w A3_0 l3_0.length l3_0) (hc3_0 : l3_0.length ≤ c3_0) (hbox : w.heap[gb115]? = some (.cells #[.slice A0 l0.length c0, .slice A3_0 l3_0.length c3_0, .int .i64 a3_1, .int .i64 a3_2, .bool a3_3, .slice none 0 0] 105 (0, 0))) (h : code_checker_within.f l0 a1 a2 l3_0 a3_1 a3_2 a3_3 = some r) :
  Calls Tryd.prog 97 #[.pointer (some ⟨gb115, 0, none⟩), .int .i64 a1, .int .i64 a2] w fun e w' => e = .returned (.bool r) ∧ Below w.heap.size w w' := code_checker_within.calls0 gb115 A0 c0 l0 a1 a2 A3_0 c3_0 l3_0 a3_1 a3_2 a3_3 r w w hr0 hc0 hr3_0 hc3_0 hbox rfl h

end Go.Proofs.YtmbjogpphegoaaaDoor.P
