-- Written by a program of this session (its own turn of the print: wip/patch_print.py), not by hand. Lean checks it.
import Derived.Test.YthbgbeelcnfofaaPx0
import Derived.Test.YthbgbeelcnfofaaPx3
import Derived.Test.YthbgbeelcnfofaaPx9
namespace Go.Proofs.Ythbgbeelcnfofaa.P
open Go.RowKit Go.Proofs.YthbgbeelcnfofaaW.PrintWords Go.Proofs.YthbgbeelcnfofaaW.PrintLast Go.Proofs.YthbgbeelcnfofaaW.PrintMore
attribute [local go_sem] max2_int min2_int max_two min_two max_three min_three max_four min_four   -- for this text's walks alone
set_option linter.unusedVariables false
set_option linter.unusedSimpArgs false

/-! ### align_Lines: function 32 -/
def align_Lines.la : Nat → List S24 → Int → List ByteArray → Int → Option (List ByteArray × Int)
 | 0, _, _, _, _ => none
 | k + 1, l, tw, q, x => if x < tw then (if 0 ≤ x then (if x < (l.length : Int) then ((align_Text.f k (rd_T24 l x).f0 (rd_T24 l x).f1).bind fun t => (if 2 + t.size ≤ 9223372036854775807 then (if q.length < 8796093022208 then align_Lines.la k l tw (q ++ [(⟨#[45, 32]⟩ : ByteArray) ++ t]) (wrap64 (x + 1)) else none) else none)) else none) else none) else some (q, x)
theorem align_Lines.la_mono : ∀ (k : Nat) (l : List S24) (tw : Int) (q : List ByteArray) (x : Int), LeO (align_Lines.la k l tw q x) (align_Lines.la (k + 1) l tw q x) := by
 intro k
 induction k with
 | zero => intro l tw q x; exact LeO.none _
 | succ k ih =>
  intro l tw q x
  unfold align_Lines.la
  repeat' first
   | (with_reducible exact ih _ _ _ _)
   | (with_reducible exact align_Text.mono _ _ _)
   | (with_reducible exact LeO.refl _)
   | (with_reducible exact LeO.none _)
   | (with_reducible refine LeO.ite ?_ ?_)
   | (with_reducible refine LeO.bind ?_ (fun _ => ?_))
def align_Lines.lb : Nat → List S24 → Int → List ByteArray → Int → Option (List ByteArray × Int)
 | 0, _, _, _, _ => none
 | k + 1, l, tw, q, x => if x < tw then (if 0 ≤ x then (if x < (l.length : Int) then ((align_Text.f k (rd_T24 l x).f0 (rd_T24 l x).f1).bind fun t => (if 2 + t.size ≤ 9223372036854775807 then (if q.length < 8796093022208 then align_Lines.lb k l tw (q ++ [(⟨#[43, 32]⟩ : ByteArray) ++ t]) (wrap64 (x + 1)) else none) else none)) else none) else none) else some (q, x)
theorem align_Lines.lb_mono : ∀ (k : Nat) (l : List S24) (tw : Int) (q : List ByteArray) (x : Int), LeO (align_Lines.lb k l tw q x) (align_Lines.lb (k + 1) l tw q x) := by
 intro k
 induction k with
 | zero => intro l tw q x; exact LeO.none _
 | succ k ih =>
  intro l tw q x
  unfold align_Lines.lb
  repeat' first
   | (with_reducible exact ih _ _ _ _)
   | (with_reducible exact align_Text.mono _ _ _)
   | (with_reducible exact LeO.refl _)
   | (with_reducible exact LeO.none _)
   | (with_reducible refine LeO.ite ?_ ?_)
   | (with_reducible refine LeO.bind ?_ (fun _ => ?_))
/-- The closure's five variables, where they lie, and one block more. -/
def LB (gx : Nat) (cx : Array Value) (tx : TypeId) (W : World) (gi gq ga gj gb : Nat) (i j : Int) (v a b : Value) : Prop :=
  W.heap[gi]? = some (.cells #[.int .i64 i] 3 (0, 0)) ∧ W.heap[gq]? = some (.cells #[v] 61 (0, 0)) ∧ W.heap[ga]? = some (.cells #[a] 22 (0, 0)) ∧ W.heap[gj]? = some (.cells #[.int .i64 j] 3 (0, 0)) ∧ W.heap[gb]? = some (.cells #[b] 22 (0, 0)) ∧ W.heap[gx]? = some (.cells cx tx (0, 0))
section
variable {gx : Nat} {cx : Array Value} {tx : TypeId} {W W1 : World} {gi gq ga gj gb : Nat} {i j : Int} {v a b : Value}
theorem LB.below (h : LB gx cx tx W gi gq ga gj gb i j v a b) (hb : Below W.heap.size W W1) : LB gx cx tx W1 gi gq ga gj gb i j v a b := ⟨blk_below h.1 hb, blk_below h.2.1 hb, blk_below h.2.2.1 hb, blk_below h.2.2.2.1 hb, blk_below h.2.2.2.2.1 hb, blk_below h.2.2.2.2.2 hb⟩
theorem LB.drew (h : LB gx cx tx W gi gq ga gj gb i j v a b) : LB gx cx tx W.drew gi gq ga gj gb i j v a b := h.below (below_drew (Below.refl _ _))
theorem LB.grown {row : Option Nat} (h : LB gx cx tx W gi gq ga gj gb i j v a b) (hg : W.grownBy W1 row) (h1 : some gi ≠ row) (h2 : some gq ≠ row) (h3 : some ga ≠ row) (h4 : some gj ≠ row) (h5 : some gb ≠ row) (h6 : some gx ≠ row) : LB gx cx tx W1 gi gq ga gj gb i j v a b := ⟨blk_grown h.1 hg h1, blk_grown h.2.1 hg h2, blk_grown h.2.2.1 hg h3, blk_grown h.2.2.2.1 hg h4, blk_grown h.2.2.2.2.1 hg h5, blk_grown h.2.2.2.2.2 hg h6⟩
theorem ne_types {W : World} {g g' t t' : Nat} {c c' : Array Value} (h : W.heap[g]? = some (.cells c t (0, 0))) (h' : W.heap[g']? = some (.cells c' t' (0, 0))) (ht : t ≠ t') : g ≠ g' := by
  rintro rfl
  rw [h] at h'
  injection h' with h'
  injection h' with _ h'
  exact ht h'
theorem LB.setI (h : LB gx cx tx W gi gq ga gj gb i j v a b) (ht : tx ≠ 3) (hij : gi ≠ gj) (x : Int) : LB gx cx tx (W.setCell ⟨gi, 0, none⟩ (.int .i64 x)) gi gq ga gj gb x j v a b :=
  ⟨by simpa using blk_set h.1 0 (.int .i64 x), blk_far h.2.1 (ne_types h.2.1 h.1 (by decide)) _, blk_far h.2.2.1 (ne_types h.2.2.1 h.1 (by decide)) _, blk_far h.2.2.2.1 (fun e => hij e.symm) _, blk_far h.2.2.2.2.1 (ne_types h.2.2.2.2.1 h.1 (by decide)) _, blk_far h.2.2.2.2.2 (ne_types h.2.2.2.2.2 h.1 ht) _⟩
theorem LB.setJ (h : LB gx cx tx W gi gq ga gj gb i j v a b) (ht : tx ≠ 3) (hij : gi ≠ gj) (x : Int) : LB gx cx tx (W.setCell ⟨gj, 0, none⟩ (.int .i64 x)) gi gq ga gj gb i x v a b :=
  ⟨blk_far h.1 hij _, blk_far h.2.1 (ne_types h.2.1 h.2.2.2.1 (by decide)) _, blk_far h.2.2.1 (ne_types h.2.2.1 h.2.2.2.1 (by decide)) _, by simpa using blk_set h.2.2.2.1 0 (.int .i64 x), blk_far h.2.2.2.2.1 (ne_types h.2.2.2.2.1 h.2.2.2.1 (by decide)) _, blk_far h.2.2.2.2.2 (ne_types h.2.2.2.2.2 h.2.2.2.1 ht) _⟩
theorem LB.setQ (h : LB gx cx tx W gi gq ga gj gb i j v a b) (ht : tx ≠ 61) (u : Value) : LB gx cx tx (W.setCell ⟨gq, 0, none⟩ u) gi gq ga gj gb i j u a b :=
  ⟨blk_far h.1 (ne_types h.1 h.2.1 (by decide)) _, by simpa using blk_set h.2.1 0 u, blk_far h.2.2.1 (ne_types h.2.2.1 h.2.1 (by decide)) _, blk_far h.2.2.2.1 (ne_types h.2.2.2.1 h.2.1 (by decide)) _, blk_far h.2.2.2.2.1 (ne_types h.2.2.2.2.1 h.2.1 (by decide)) _, blk_far h.2.2.2.2.2 (ne_types h.2.2.2.2.2 h.2.1 ht) _⟩
end
/-- Where the lines' row may lie. -/
def LOK (gi gq gj : Nat) (k : Nat) : Prop := k ≠ gi ∧ k ≠ gq ∧ k ≠ gj
theorem LOK_new {gx : Nat} {cx : Array Value} {tx : TypeId} {W : World} {gi gq ga gj gb : Nat} {i j : Int} {v a b : Value} (h : LB gx cx tx W gi gq ga gj gb i j v a b) : ∀ k, W.heap.size ≤ k → LOK gi gq gj k := fun k hk => by
  have := blk_lt h.1
  have := blk_lt h.2.1
  have := blk_lt h.2.2.2.1
  exact ⟨by omega, by omega, by omega⟩
def align_Lines.TL2 : Bool × List (List Nat × List Nat) := (true, [([], []), ([], []), ([], []), ([1, 2], [1, 2]), ([3], [3]), ([4], [4]), ([5], [5]), ([6], [6]), ([0, 7, 5], [0, 7]), ([8, 8, 0, 1, 2, 3, 4, 5, 6, 7, 8], [8])])
def align_Lines.BL2 : List Nat := [0, 0, 0, 6, 14, 30, 62, 126, 255, 511]
theorem align_Lines.tabL2 : rtab .any (opsOf Try.f46 2) = align_Lines.TL2 := by kernel_rfl
theorem align_Lines.bitsL2 : waitsOk align_Lines.TL2.2 align_Lines.BL2 = true := by kernel_rfl
def align_Lines.TL5 : Bool × List (List Nat × List Nat) := (true, [([], []), ([], []), ([], []), ([1, 2], [1, 2]), ([3], [3]), ([4], [4]), ([5], [5]), ([6], [6]), ([0, 7, 5], [0, 7]), ([8, 8, 0, 1, 2, 3, 4, 5, 6, 7, 8], [8])])
def align_Lines.BL5 : List Nat := [0, 0, 0, 6, 14, 30, 62, 126, 255, 511]
theorem align_Lines.tabL5 : rtab .any (opsOf Try.f46 5) = align_Lines.TL5 := by kernel_rfl
theorem align_Lines.bitsL5 : waitsOk align_Lines.TL5.2 align_Lines.BL5 = true := by kernel_rfl
set_option maxHeartbeats 8000000 in
set_option maxRecDepth 100000 in
theorem align_Lines.alone (k : Nat) (gi gq ga gj gb : Nat) (toA toB i j : Int) (A0 : Option Addr) (c0 : Nat) (l0 : List S24) (A1 : Option Addr) (c1 : Nat) (l1 : List S24) (q0 : List ByteArray) (v0 : Value) (r1 r3 : List ByteArray) (r2 r4 : Int) (w0 w : World)
  (hr0 : Kd.C k24 w0 A0 l0.length l0) (hr1 : Kd.C k24 w0 A1 l1.length l1) (hB : Below w0.heap.size w0 w) (hgi : w0.heap.size ≤ gi) (hgq : w0.heap.size ≤ gq) (hgj : w0.heap.size ≤ gj) (hij : gi ≠ gj) (gx : Nat) (cx : Array Value) (tx : TypeId) (hx3 : tx ≠ 3) (hx9 : tx ≠ 9) (hx61 : tx ≠ 61)
  (hl : LB gx cx tx w gi gq ga gj gb i j v0 (.slice A0 l0.length c0) (.slice A1 l1.length c1)) (ho : Kd.R Kd.string 9 w w0.heap.size (LOK gi gq gj) v0 q0)
  (h1 : align_Lines.la k l0 toA q0 i = some (r1, r2)) (h2 : align_Lines.lb k l1 toB r1 j = some (r3, r4)) :
  Calls Try.prog 46 #[.int .i64 toA, .int .i64 toB, .pointer (some ⟨gi, 0, none⟩), .pointer (some ⟨gq, 0, none⟩), .pointer (some ⟨ga, 0, none⟩), .pointer (some ⟨gj, 0, none⟩), .pointer (some ⟨gb, 0, none⟩)] w fun e w' => e = .returned (.tuple #[]) ∧ ∃ v', LB gx cx tx w' gi gq ga gj gb r2 r4 v' (.slice A0 l0.length c0) (.slice A1 l1.length c1) ∧ Kd.R Kd.string 9 w' w0.heap.size (LOK gi gq gj) v' r3 ∧ Below w0.heap.size w0 w' := by
 have hu24 := Try.underlying24
 have HR0 := Aside0.mk hr0
 have HR1 := Aside0.mk hr1
 have HL := Aside0.mk hl
 have HO := Aside0.mk ho
 have HB := Aside0.mk hB
 clear hr0 hr1 hl ho hB
 have H' := Aside0.mk h1
 have H2 := Aside0.mk h2
 clear h1 h2
 go_enter Try.func46, Try.ntmps46
 go_wp2
 go_loopg [] k (fun kq w' => ∃ (q : List ByteArray) (x : Int) (v : Value), Aside0 (align_Lines.la kq l0 toA q x = some (r1, r2)) ∧ Aside0 (kq ≤ k) ∧ Aside0 (LB gx cx tx w' gi gq ga gj gb x j v (.slice A0 l0.length c0) (.slice A1 l1.length c1)) ∧ Aside0 (Kd.R Kd.string 9 w' w0.heap.size (LOK gi gq gj) v q) ∧ Aside0 (Below w0.heap.size w0 w'))
 case atStart => exact ⟨_, _, _, H', ⟨Nat.le_refl _⟩, HL, HO, HB⟩
 case round =>
  clear H' HL HO HB
  obtain ⟨q, x, v, HA, HK1, HL, HO, HB⟩ := hrel
  cases gk with
  | zero => exact absurd HA.out (by simp [align_Lines.la])
  | succ k1 =>
   have H := HA.out
   clear HA
   simp only [align_Lines.la] at H
   have hci : wr.cell? ⟨gi, 0, none⟩ = some (.int .i64 x) := (blk_cell HL.out.1 0).trans rfl
   by_cases c1 : x < toA
   ·rw [if_pos c1] at H
    have c1b : decide (x < toA) = true := decide_eq_true c1
    by_cases c2 : 0 ≤ x
    rotate_left
    ·rw [if_neg c2] at H
     exact absurd H (by simp)
    rw [if_pos c2] at H
    by_cases c3 : x < (l0.length : Int)
    rotate_left
    ·rw [if_neg c3] at H
     exact absurd H (by simp)
    rw [if_pos c3] at H
    obtain ⟨ad, e0, hx0, hx1⟩ := at_T24 HR0.out x c2 c3
    cases e0
    have p2 := eq_true c2
    have p3 := eq_true c3
    have c2b : decide (0 ≤ x) = true := decide_eq_true c2
    have c3b : decide (x < (l0.length : Int)) = true := decide_eq_true c3
    clear c1 c2 c3
    replace H := Option.bind_eq_some_iff.mp H
    obtain ⟨t, A10, H⟩ := H
    have A1 := Aside0.mk A10
    clear A10
    by_cases c4 : 2 + t.size ≤ 9223372036854775807
    rotate_left
    ·rw [if_neg c4] at H
     exact absurd H (by simp)
    rw [if_pos c4] at H
    have c4b0 := eq_true c4
    have c4b1 : decide (2 + t.size ≤ 9223372036854775807) = true := decide_eq_true c4
    have c4b2 : (9223372036854775807 < 2 + t.size) = False := eq_false (Nat.not_lt.2 c4)
    by_cases c5 : q.length < 8796093022208
    rotate_left
    ·rw [if_neg c5] at H
     exact absurd H (by simp)
    rw [if_pos c5] at H
    have LM := Aside0.mk c5
    clear c5
    have H' := Aside0.mk H
    clear H
    try go_wp2
    have HL := Aside0.mk HL.out.drew
    have HO := Aside0.mk (Kd.R_drew HO.out)
    have HB := Aside0.mk (below_drew1 HB.out)
    refine start_ (n := 10) (S := fun w' => w'.cell? ⟨gq, 0, none⟩ = some v ∧ w'.cell? ⟨ga, 0, none⟩ = some (.slice (some ad) l0.length c0) ∧ w'.cell? ⟨gi, 0, none⟩ = some (.int .i64 x) ∧ w'.cell? (ad.add (x.toNat * 2)) = some (.int .i64 (rd_T24 l0 x).f0) ∧ w'.cell? ⟨(ad.add (x.toNat * 2)).block, (ad.add (x.toNat * 2)).off + 1, none⟩ = some (.int .i64 (rd_T24 l0 x).f1)) (ds := [9]) #[false, false, false, false, false, false, false, false, false, false] (by kernel_rfl) rfl rfl ⟨(blk_cell HL.out.2.1 0).trans rfl, (blk_cell HL.out.2.2.1 0).trans rfl, (blk_cell HL.out.1 0).trans rfl, (HB.out.cell (World.block_lt_of_cell? w0 _ hx0)).trans hx0, (HB.out.cell (World.block_lt_of_cell? w0 _ hx1)).trans hx1⟩ (fun hHeld => ?_); refine with_tabW align_Lines.tabL2 align_Lines.bitsL2 (fun HT_ HW_ => ?_)
    generalize wr.drew = w5 at HL HO HB hHeld ⊢
    refine take_ (i := 0) (N := some 14) (v := ?_) (a' := ?_) #[true, false, false, false, false, false, false, false, false, false] rfl rfl (take_ofW HT_.out HW_.out (by kernel_rfl)) (fun _ _ _ h => h) (Or.inl ⟨by rfl, ?_⟩) hHeld ?_ ?_
    rotate_left
    ·rintro w' ⟨s0, s1, s2, s3, s4⟩
     go_simp
     with_reducible rfl
    rotate_left
    ·simp only [Act.put, List.setIfInBounds_toArray, List.set_cons_zero, List.set_cons_succ, i64_w, i32_w]
     rfl
    refine take_ (i := 1) (N := some 15) (v := ?_) (a' := ?_) #[true, true, false, false, false, false, false, false, false, false] rfl rfl (take_ofW HT_.out HW_.out (by kernel_rfl)) (fun _ _ _ h => h) (Or.inl ⟨by rfl, ?_⟩) hHeld ?_ ?_
    rotate_left
    ·rintro w' ⟨s0, s1, s2, s3, s4⟩
     go_simp
     with_reducible rfl
    rotate_left
    ·simp only [Act.put, List.setIfInBounds_toArray, List.set_cons_zero, List.set_cons_succ, i64_w, i32_w]
     rfl
    refine take_ (i := 2) (N := some 16) (v := ?_) (a' := ?_) #[true, true, true, false, false, false, false, false, false, false] rfl rfl (take_ofW HT_.out HW_.out (by kernel_rfl)) (fun _ _ _ h => h) (Or.inl ⟨by rfl, ?_⟩) hHeld ?_ ?_
    rotate_left
    ·rintro w' ⟨s0, s1, s2, s3, s4⟩
     go_simp
     with_reducible rfl
    rotate_left
    ·simp only [Act.put, List.setIfInBounds_toArray, List.set_cons_zero, List.set_cons_succ, i64_w, i32_w]
     rfl
    refine pure_ (i := 3) (N := some 17) (v := ?_) (a' := ?_) #[true, true, true, true, false, false, false, false, false, false] rfl rfl (any_of HT_.out (by kernel_rfl)) (fun _ _ _ h => h) (Or.inl ⟨by rfl, ?_⟩) ?_ ?_
    rotate_left
    ·intro w'
     go_simp
     with_reducible rfl
    rotate_left
    ·simp only [Act.put, List.setIfInBounds_toArray, List.set_cons_zero, List.set_cons_succ, i64_w, i32_w]
     rfl
    refine take_ (i := 4) (N := some 18) (v := ?_) (a' := ?_) #[true, true, true, true, true, false, false, false, false, false] rfl rfl (take_ofW HT_.out HW_.out (by kernel_rfl)) (fun _ _ _ h => h) (Or.inl ⟨by rfl, ?_⟩) hHeld ?_ ?_
    rotate_left
    ·rintro w' ⟨s0, s1, s2, s3, s4⟩
     go_simp
     with_reducible rfl
    rotate_left
    ·simp only [Act.put, List.setIfInBounds_toArray, List.set_cons_zero, List.set_cons_succ, i64_w, i32_w]
     rfl
    refine one_ (i := 5) (N := some 19) #[true, true, true, true, true, true, false, false, false, false] rfl rfl (one_of HT_.out (by kernel_rfl)) (by decide) (fun K hK => ?_)
    refine goes_ Try.func15 (by kernel_rfl) rfl #[.agg #[.int .i64 (rd_T24 l0 x).f0, .int .i64 (rd_T24 l0 x).f1]] (by rfl) rfl rfl (by (try simp only [List.map_toArray, List.map_cons, List.map_nil]); first | done | rfl) ?_
    with_reducible refine (align_Text.calls k1 (rd_T24 l0 x).f0 (rd_T24 l0 x).f1 t _ A1.out).mono ?_
    rintro e w6 ⟨rfl, hb⟩
    refine ⟨_, rfl, ?_⟩
    have HL := Aside0.mk (HL.out.below hb)
    have HO := Aside0.mk (Kd.R_below HO.out hb)
    have HB := Aside0.mk (below_step HB.out hb)
    clear hb
    refine hK.out _ _ ⟨(blk_cell HL.out.2.1 0).trans rfl, (blk_cell HL.out.2.2.1 0).trans rfl, (blk_cell HL.out.1 0).trans rfl, (HB.out.cell (World.block_lt_of_cell? w0 _ hx0)).trans hx0, (HB.out.cell (World.block_lt_of_cell? w0 _ hx1)).trans hx1⟩ (fun hHeld => ?_)
    clear hK K
    refine norm_ (a' := ?_) ?_ ?_
    rotate_left
    ·show Act.put _ (some 19) _ = _
     simp only [Act.put, List.setIfInBounds_toArray, List.set_cons_zero, List.set_cons_succ, i64_w, i32_w]
     rfl
    refine pure_ (i := 6) (N := some 20) (v := ?_) (a' := ?_) #[true, true, true, true, true, true, true, false, false, false] rfl rfl (any_of HT_.out (by kernel_rfl)) (fun _ _ _ h => h) (Or.inl ⟨by rfl, ?_⟩) ?_ ?_
    rotate_left
    ·intro w'
     go_simp
     with_reducible rfl
    rotate_left
    ·simp only [Act.put, List.setIfInBounds_toArray, List.set_cons_zero, List.set_cons_succ, i64_w, i32_w]
     rfl
    refine one_ (i := 7) (N := some 21) #[true, true, true, true, true, true, true, true, false, false] rfl rfl (one_of HT_.out (by kernel_rfl)) (by decide) (fun K hK => ?_)
    refine value_ (w1 := ?_) (v := ?_) (by rfl) rfl ?_ ?_
    rotate_left
    rotate_left
    ·go_simp
     constructor
     ·rfl
     ·rfl
    have HLa := Aside0.mk (HL.out.below (below_alloc (Below.refl _ _) (.cells #[.string ((⟨#[45, 32]⟩ : ByteArray) ++ t)] 9)))
    have HBa := Aside0.mk (below_alloc HB.out (.cells #[.string ((⟨#[45, 32]⟩ : ByteArray) ++ t)] 9))
    refine hK.out _ _ ⟨(blk_cell HLa.out.2.1 0).trans rfl, (blk_cell HLa.out.2.2.1 0).trans rfl, (blk_cell HLa.out.1 0).trans rfl, (HBa.out.cell (World.block_lt_of_cell? w0 _ hx0)).trans hx0, (HBa.out.cell (World.block_lt_of_cell? w0 _ hx1)).trans hx1⟩ (fun hHeld => ?_)
    clear hK K
    refine norm_ (a' := ?_) ?_ ?_
    rotate_left
    ·show Act.put _ (some 21) _ = _
     simp only [Act.put, List.setIfInBounds_toArray, List.set_cons_zero, List.set_cons_succ, i64_w, i32_w]
     rfl
    refine one_ (i := 8) (N := some 22) #[true, true, true, true, true, true, true, true, true, false] rfl rfl (one_of HT_.out (by kernel_rfl)) (by decide) (fun K hK => ?_)
    refine Kd.R_append_step Kd.string (w0 := w0) w0.heap.size (by rfl) (.tmp 14) (.tmp 21) 61 9 (.string ⟨#[]⟩) 16 rfl Try.underlying61 info9 rfl (by decide) (by omega) v q ((⟨#[45, 32]⟩ : ByteArray) ++ t) [.string ((⟨#[45, 32]⟩ : ByteArray) ++ t)] (LOK gi gq gj) (fun _ => False) rfl rfl rfl (fun _ hk => hk.elim) ?aF HO.out HB.out (below_size HB.out) ?aL ?_
    (case aF => exact LOK_new HL.out)
    (case aL => have := LM.out; omega)
    intro v1 w7 ho hb hg hat
    obtain ⟨Aq, cq, eq_⟩ := Kd.R_slice ho
    subst eq_
    generalize hnq_ : (q ++ [(⟨#[45, 32]⟩ : ByteArray) ++ t]).length = nq at ho hb hg hat ⊢
    clear hnq_
    have HL := Aside0.mk (HL.out.grown hg (Kd.R_ne HO.out HL.out.1 (by decide)) (Kd.R_ne HO.out HL.out.2.1 (by decide)) (Kd.R_ne HO.out HL.out.2.2.1 (by decide)) (Kd.R_ne HO.out HL.out.2.2.2.1 (by decide)) (Kd.R_ne HO.out HL.out.2.2.2.2.1 (by decide)) (Kd.R_ne HO.out HL.out.2.2.2.2.2 (fun e => hx9 e.symm)))
    have HO := Aside0.mk ho
    have HB := Aside0.mk hb
    clear ho hb hg hat
    refine hK.out _ _ ⟨(blk_cell HL.out.2.1 0).trans rfl, (blk_cell HL.out.2.2.1 0).trans rfl, (blk_cell HL.out.1 0).trans rfl, (HB.out.cell (World.block_lt_of_cell? w0 _ hx0)).trans hx0, (HB.out.cell (World.block_lt_of_cell? w0 _ hx1)).trans hx1⟩ (fun hHeld => ?_)
    clear hK K
    refine norm_ (a' := ?_) ?_ ?_
    rotate_left
    ·show Act.put _ (some 22) _ = _
     simp only [Act.put, List.setIfInBounds_toArray, List.set_cons_zero, List.set_cons_succ, i64_w, i32_w]
     rfl
    refine last_ (i := 9) (N := none) #[true, true, true, true, true, true, true, true, true, true] rfl rfl (one_of HT_.out (by kernel_rfl)) (by decide) (fun K hK => ?_)
    have hcq : w7.cell? ⟨gq, 0, none⟩ = some v := (blk_cell HL.out.2.1 0).trans rfl
    have hfq := blk_frozen HL.out.2.1 0
    refine skip_ (w1 := ?_) (by rfl) rfl ?_ ?_
    rotate_left
    ·go_simp
     rfl
    refine hK.out _ _ ?_
    clear hK K
    refine done_ (done_of HT_.out (by kernel_rfl)) ?_
    have HO := Aside0.mk (Kd.R_far (p := ⟨gq, 0, none⟩) HO.out (fun k hk => hk.2.1) (.slice Aq nq cq))
    have HB := Aside0.mk (below_set (j := 0) (v := (.slice Aq nq cq)) HB.out hgq)
    have HL := Aside0.mk (HL.out.setQ hx61 (.slice Aq nq cq))
    have hci : (w7.setCell ⟨gq, 0, none⟩ (.slice Aq nq cq)).cell? ⟨gi, 0, none⟩ = some (.int .i64 x) := (blk_cell HL.out.1 0).trans rfl
    have hfi := blk_frozen HL.out.1 0
    generalize w7.setCell ⟨gq, 0, none⟩ (.slice Aq nq cq) = w8 at HO HB HL hci hfi ⊢
    try go_wp2
    go_roundg k1
    case measure => have := HK1.out; omega
    case rel => exact ⟨_, _, _, H', ⟨by have := HK1.out; omega⟩, ⟨HL.out.setI hx3 hij _⟩, ⟨Kd.R_far (p := ⟨gi, 0, none⟩) HO.out (fun k hk => hk.1) _⟩, ⟨below_set (j := 0) HB.out hgi⟩⟩
   ·rw [if_neg c1] at H
    have c1b : decide (x < toA) = false := decide_eq_false c1
    clear c1
    obtain ⟨rfl, rfl⟩ : q = r1 ∧ x = r2 := by injection H with H; injection H with h1_ h2_; exact ⟨h1_, h2_⟩
    clear H HK1
    try go_wp2
    have H' := H2
    clear H2
    obtain ⟨x2, hx2_⟩ : ∃ x2 : Int, x2 = x := ⟨_, rfl⟩
    subst hx2_
    go_loopg [] k (fun kq w' => ∃ (q : List ByteArray) (x : Int) (v : Value), Aside0 (align_Lines.lb kq l1 toB q x = some (r3, r4)) ∧ Aside0 (kq ≤ k) ∧ Aside0 (LB gx cx tx w' gi gq ga gj gb x2 x v (.slice A0 l0.length c0) (.slice A1 l1.length c1)) ∧ Aside0 (Kd.R Kd.string 9 w' w0.heap.size (LOK gi gq gj) v q) ∧ Aside0 (Below w0.heap.size w0 w'))
    case atStart => exact ⟨_, _, _, H', ⟨Nat.le_refl _⟩, HL, HO, HB⟩
    case round =>
     clear H' HL HO HB
     obtain ⟨q, x, v, HA, HK1, HL, HO, HB⟩ := hrel
     cases gk with
     | zero => exact absurd HA.out (by simp [align_Lines.lb])
     | succ k1 =>
      have H := HA.out
      clear HA
      simp only [align_Lines.lb] at H
      have hci : wr.cell? ⟨gj, 0, none⟩ = some (.int .i64 x) := (blk_cell HL.out.2.2.2.1 0).trans rfl
      by_cases c1 : x < toB
      ·rw [if_pos c1] at H
       have c1b : decide (x < toB) = true := decide_eq_true c1
       by_cases c2 : 0 ≤ x
       rotate_left
       ·rw [if_neg c2] at H
        exact absurd H (by simp)
       rw [if_pos c2] at H
       by_cases c3 : x < (l1.length : Int)
       rotate_left
       ·rw [if_neg c3] at H
        exact absurd H (by simp)
       rw [if_pos c3] at H
       obtain ⟨ad, e0, hx0, hx1⟩ := at_T24 HR1.out x c2 c3
       cases e0
       have p2 := eq_true c2
       have p3 := eq_true c3
       have c2b : decide (0 ≤ x) = true := decide_eq_true c2
       have c3b : decide (x < (l1.length : Int)) = true := decide_eq_true c3
       clear c1 c2 c3
       replace H := Option.bind_eq_some_iff.mp H
       obtain ⟨t, A10, H⟩ := H
       have A1 := Aside0.mk A10
       clear A10
       by_cases c4 : 2 + t.size ≤ 9223372036854775807
       rotate_left
       ·rw [if_neg c4] at H
        exact absurd H (by simp)
       rw [if_pos c4] at H
       have c4b0 := eq_true c4
       have c4b1 : decide (2 + t.size ≤ 9223372036854775807) = true := decide_eq_true c4
       have c4b2 : (9223372036854775807 < 2 + t.size) = False := eq_false (Nat.not_lt.2 c4)
       by_cases c5 : q.length < 8796093022208
       rotate_left
       ·rw [if_neg c5] at H
        exact absurd H (by simp)
       rw [if_pos c5] at H
       have LM := Aside0.mk c5
       clear c5
       have H' := Aside0.mk H
       clear H
       try go_wp2
       have HL := Aside0.mk HL.out.drew
       have HO := Aside0.mk (Kd.R_drew HO.out)
       have HB := Aside0.mk (below_drew1 HB.out)
       refine start_ (n := 10) (S := fun w' => w'.cell? ⟨gq, 0, none⟩ = some v ∧ w'.cell? ⟨gb, 0, none⟩ = some (.slice (some ad) l1.length c1) ∧ w'.cell? ⟨gj, 0, none⟩ = some (.int .i64 x) ∧ w'.cell? (ad.add (x.toNat * 2)) = some (.int .i64 (rd_T24 l1 x).f0) ∧ w'.cell? ⟨(ad.add (x.toNat * 2)).block, (ad.add (x.toNat * 2)).off + 1, none⟩ = some (.int .i64 (rd_T24 l1 x).f1)) (ds := [9]) #[false, false, false, false, false, false, false, false, false, false] (by kernel_rfl) rfl rfl ⟨(blk_cell HL.out.2.1 0).trans rfl, (blk_cell HL.out.2.2.2.2.1 0).trans rfl, (blk_cell HL.out.2.2.2.1 0).trans rfl, (HB.out.cell (World.block_lt_of_cell? w0 _ hx0)).trans hx0, (HB.out.cell (World.block_lt_of_cell? w0 _ hx1)).trans hx1⟩ (fun hHeld => ?_); refine with_tabW align_Lines.tabL5 align_Lines.bitsL5 (fun HT_ HW_ => ?_)
       generalize wr.drew = w5 at HL HO HB hHeld ⊢
       refine take_ (i := 0) (N := some 28) (v := ?_) (a' := ?_) #[true, false, false, false, false, false, false, false, false, false] rfl rfl (take_ofW HT_.out HW_.out (by kernel_rfl)) (fun _ _ _ h => h) (Or.inl ⟨by rfl, ?_⟩) hHeld ?_ ?_
       rotate_left
       ·rintro w' ⟨s0, s1, s2, s3, s4⟩
        go_simp
        with_reducible rfl
       rotate_left
       ·simp only [Act.put, List.setIfInBounds_toArray, List.set_cons_zero, List.set_cons_succ, i64_w, i32_w]
        rfl
       refine take_ (i := 1) (N := some 29) (v := ?_) (a' := ?_) #[true, true, false, false, false, false, false, false, false, false] rfl rfl (take_ofW HT_.out HW_.out (by kernel_rfl)) (fun _ _ _ h => h) (Or.inl ⟨by rfl, ?_⟩) hHeld ?_ ?_
       rotate_left
       ·rintro w' ⟨s0, s1, s2, s3, s4⟩
        go_simp
        with_reducible rfl
       rotate_left
       ·simp only [Act.put, List.setIfInBounds_toArray, List.set_cons_zero, List.set_cons_succ, i64_w, i32_w]
        rfl
       refine take_ (i := 2) (N := some 30) (v := ?_) (a' := ?_) #[true, true, true, false, false, false, false, false, false, false] rfl rfl (take_ofW HT_.out HW_.out (by kernel_rfl)) (fun _ _ _ h => h) (Or.inl ⟨by rfl, ?_⟩) hHeld ?_ ?_
       rotate_left
       ·rintro w' ⟨s0, s1, s2, s3, s4⟩
        go_simp
        with_reducible rfl
       rotate_left
       ·simp only [Act.put, List.setIfInBounds_toArray, List.set_cons_zero, List.set_cons_succ, i64_w, i32_w]
        rfl
       refine pure_ (i := 3) (N := some 31) (v := ?_) (a' := ?_) #[true, true, true, true, false, false, false, false, false, false] rfl rfl (any_of HT_.out (by kernel_rfl)) (fun _ _ _ h => h) (Or.inl ⟨by rfl, ?_⟩) ?_ ?_
       rotate_left
       ·intro w'
        go_simp
        with_reducible rfl
       rotate_left
       ·simp only [Act.put, List.setIfInBounds_toArray, List.set_cons_zero, List.set_cons_succ, i64_w, i32_w]
        rfl
       refine take_ (i := 4) (N := some 32) (v := ?_) (a' := ?_) #[true, true, true, true, true, false, false, false, false, false] rfl rfl (take_ofW HT_.out HW_.out (by kernel_rfl)) (fun _ _ _ h => h) (Or.inl ⟨by rfl, ?_⟩) hHeld ?_ ?_
       rotate_left
       ·rintro w' ⟨s0, s1, s2, s3, s4⟩
        go_simp
        with_reducible rfl
       rotate_left
       ·simp only [Act.put, List.setIfInBounds_toArray, List.set_cons_zero, List.set_cons_succ, i64_w, i32_w]
        rfl
       refine one_ (i := 5) (N := some 33) #[true, true, true, true, true, true, false, false, false, false] rfl rfl (one_of HT_.out (by kernel_rfl)) (by decide) (fun K hK => ?_)
       refine goes_ Try.func15 (by kernel_rfl) rfl #[.agg #[.int .i64 (rd_T24 l1 x).f0, .int .i64 (rd_T24 l1 x).f1]] (by rfl) rfl rfl (by (try simp only [List.map_toArray, List.map_cons, List.map_nil]); first | done | rfl) ?_
       with_reducible refine (align_Text.calls k1 (rd_T24 l1 x).f0 (rd_T24 l1 x).f1 t _ A1.out).mono ?_
       rintro e w6 ⟨rfl, hb⟩
       refine ⟨_, rfl, ?_⟩
       have HL := Aside0.mk (HL.out.below hb)
       have HO := Aside0.mk (Kd.R_below HO.out hb)
       have HB := Aside0.mk (below_step HB.out hb)
       clear hb
       refine hK.out _ _ ⟨(blk_cell HL.out.2.1 0).trans rfl, (blk_cell HL.out.2.2.2.2.1 0).trans rfl, (blk_cell HL.out.2.2.2.1 0).trans rfl, (HB.out.cell (World.block_lt_of_cell? w0 _ hx0)).trans hx0, (HB.out.cell (World.block_lt_of_cell? w0 _ hx1)).trans hx1⟩ (fun hHeld => ?_)
       clear hK K
       refine norm_ (a' := ?_) ?_ ?_
       rotate_left
       ·show Act.put _ (some 33) _ = _
        simp only [Act.put, List.setIfInBounds_toArray, List.set_cons_zero, List.set_cons_succ, i64_w, i32_w]
        rfl
       refine pure_ (i := 6) (N := some 34) (v := ?_) (a' := ?_) #[true, true, true, true, true, true, true, false, false, false] rfl rfl (any_of HT_.out (by kernel_rfl)) (fun _ _ _ h => h) (Or.inl ⟨by rfl, ?_⟩) ?_ ?_
       rotate_left
       ·intro w'
        go_simp
        with_reducible rfl
       rotate_left
       ·simp only [Act.put, List.setIfInBounds_toArray, List.set_cons_zero, List.set_cons_succ, i64_w, i32_w]
        rfl
       refine one_ (i := 7) (N := some 35) #[true, true, true, true, true, true, true, true, false, false] rfl rfl (one_of HT_.out (by kernel_rfl)) (by decide) (fun K hK => ?_)
       refine value_ (w1 := ?_) (v := ?_) (by rfl) rfl ?_ ?_
       rotate_left
       rotate_left
       ·go_simp
        constructor
        ·rfl
        ·rfl
       have HLa := Aside0.mk (HL.out.below (below_alloc (Below.refl _ _) (.cells #[.string ((⟨#[43, 32]⟩ : ByteArray) ++ t)] 9)))
       have HBa := Aside0.mk (below_alloc HB.out (.cells #[.string ((⟨#[43, 32]⟩ : ByteArray) ++ t)] 9))
       refine hK.out _ _ ⟨(blk_cell HLa.out.2.1 0).trans rfl, (blk_cell HLa.out.2.2.2.2.1 0).trans rfl, (blk_cell HLa.out.2.2.2.1 0).trans rfl, (HBa.out.cell (World.block_lt_of_cell? w0 _ hx0)).trans hx0, (HBa.out.cell (World.block_lt_of_cell? w0 _ hx1)).trans hx1⟩ (fun hHeld => ?_)
       clear hK K
       refine norm_ (a' := ?_) ?_ ?_
       rotate_left
       ·show Act.put _ (some 35) _ = _
        simp only [Act.put, List.setIfInBounds_toArray, List.set_cons_zero, List.set_cons_succ, i64_w, i32_w]
        rfl
       refine one_ (i := 8) (N := some 36) #[true, true, true, true, true, true, true, true, true, false] rfl rfl (one_of HT_.out (by kernel_rfl)) (by decide) (fun K hK => ?_)
       refine Kd.R_append_step Kd.string (w0 := w0) w0.heap.size (by rfl) (.tmp 28) (.tmp 35) 61 9 (.string ⟨#[]⟩) 16 rfl Try.underlying61 info9 rfl (by decide) (by omega) v q ((⟨#[43, 32]⟩ : ByteArray) ++ t) [.string ((⟨#[43, 32]⟩ : ByteArray) ++ t)] (LOK gi gq gj) (fun _ => False) rfl rfl rfl (fun _ hk => hk.elim) ?aF HO.out HB.out (below_size HB.out) ?aL ?_
       (case aF => exact LOK_new HL.out)
       (case aL => have := LM.out; omega)
       intro v1 w7 ho hb hg hat
       obtain ⟨Aq, cq, eq_⟩ := Kd.R_slice ho
       subst eq_
       generalize hnq_ : (q ++ [(⟨#[43, 32]⟩ : ByteArray) ++ t]).length = nq at ho hb hg hat ⊢
       clear hnq_
       have HL := Aside0.mk (HL.out.grown hg (Kd.R_ne HO.out HL.out.1 (by decide)) (Kd.R_ne HO.out HL.out.2.1 (by decide)) (Kd.R_ne HO.out HL.out.2.2.1 (by decide)) (Kd.R_ne HO.out HL.out.2.2.2.1 (by decide)) (Kd.R_ne HO.out HL.out.2.2.2.2.1 (by decide)) (Kd.R_ne HO.out HL.out.2.2.2.2.2 (fun e => hx9 e.symm)))
       have HO := Aside0.mk ho
       have HB := Aside0.mk hb
       clear ho hb hg hat
       refine hK.out _ _ ⟨(blk_cell HL.out.2.1 0).trans rfl, (blk_cell HL.out.2.2.2.2.1 0).trans rfl, (blk_cell HL.out.2.2.2.1 0).trans rfl, (HB.out.cell (World.block_lt_of_cell? w0 _ hx0)).trans hx0, (HB.out.cell (World.block_lt_of_cell? w0 _ hx1)).trans hx1⟩ (fun hHeld => ?_)
       clear hK K
       refine norm_ (a' := ?_) ?_ ?_
       rotate_left
       ·show Act.put _ (some 36) _ = _
        simp only [Act.put, List.setIfInBounds_toArray, List.set_cons_zero, List.set_cons_succ, i64_w, i32_w]
        rfl
       refine last_ (i := 9) (N := none) #[true, true, true, true, true, true, true, true, true, true] rfl rfl (one_of HT_.out (by kernel_rfl)) (by decide) (fun K hK => ?_)
       have hcq : w7.cell? ⟨gq, 0, none⟩ = some v := (blk_cell HL.out.2.1 0).trans rfl
       have hfq := blk_frozen HL.out.2.1 0
       refine skip_ (w1 := ?_) (by rfl) rfl ?_ ?_
       rotate_left
       ·go_simp
        rfl
       refine hK.out _ _ ?_
       clear hK K
       refine done_ (done_of HT_.out (by kernel_rfl)) ?_
       have HO := Aside0.mk (Kd.R_far (p := ⟨gq, 0, none⟩) HO.out (fun k hk => hk.2.1) (.slice Aq nq cq))
       have HB := Aside0.mk (below_set (j := 0) (v := (.slice Aq nq cq)) HB.out hgq)
       have HL := Aside0.mk (HL.out.setQ hx61 (.slice Aq nq cq))
       have hci : (w7.setCell ⟨gq, 0, none⟩ (.slice Aq nq cq)).cell? ⟨gj, 0, none⟩ = some (.int .i64 x) := (blk_cell HL.out.2.2.2.1 0).trans rfl
       have hfi := blk_frozen HL.out.2.2.2.1 0
       generalize w7.setCell ⟨gq, 0, none⟩ (.slice Aq nq cq) = w8 at HO HB HL hci hfi ⊢
       try go_wp2
       go_roundg k1
       case measure => have := HK1.out; omega
       case rel => exact ⟨_, _, _, H', ⟨by have := HK1.out; omega⟩, ⟨HL.out.setJ hx3 hij _⟩, ⟨Kd.R_far (p := ⟨gj, 0, none⟩) HO.out (fun k hk => hk.2.2) _⟩, ⟨below_set (j := 0) HB.out hgj⟩⟩
      ·rw [if_neg c1] at H
       have c1b : decide (x < toB) = false := decide_eq_false c1
       clear c1
       obtain ⟨rfl, rfl⟩ : q = r3 ∧ x = r4 := by injection H with H; injection H with h1_ h2_; exact ⟨h1_, h2_⟩
       clear H HK1
       try go_wp2
       go_end0
       exact ⟨rfl, _, HL.out, HO.out, HB.out⟩
theorem LB.farP {gx : Nat} {cx : Array Value} {tx : TypeId} {W : World} {gi gq ga gj gb gp : Nat} {i j : Int} {v a b : Value} {cp : Array Value} (h : LB gx cx tx W gi gq ga gj gb i j v a b) (hp : W.heap[gp]? = some (.cells cp 41 (0, 0))) (ht : tx ≠ 41) (n : Nat) (u : Value) : LB gx cx tx (W.setCell ⟨gp, n, none⟩ u) gi gq ga gj gb i j v a b :=
  ⟨blk_far h.1 (ne_types h.1 hp (by decide)) _, blk_far h.2.1 (ne_types h.2.1 hp (by decide)) _, blk_far h.2.2.1 (ne_types h.2.2.1 hp (by decide)) _, blk_far h.2.2.2.1 (ne_types h.2.2.2.1 hp (by decide)) _, blk_far h.2.2.2.2.1 (ne_types h.2.2.2.2.1 hp (by decide)) _, blk_far h.2.2.2.2.2 (ne_types h.2.2.2.2.2 hp ht) _⟩
theorem LB.other {gx gy : Nat} {cx cy : Array Value} {tx ty : TypeId} {W : World} {gi gq ga gj gb : Nat} {i j : Int} {v a b : Value} (h : LB gx cx tx W gi gq ga gj gb i j v a b) (hy : W.heap[gy]? = some (.cells cy ty (0, 0))) : LB gy cy ty W gi gq ga gj gb i j v a b := ⟨h.1, h.2.1, h.2.2.1, h.2.2.2.1, h.2.2.2.2.1, hy⟩
theorem R_farP {W : World} {base gp : Nat} {ok : Nat → Prop} {v : Value} {q : List ByteArray} {cp : Array Value} (h : Kd.R Kd.string 9 W base ok v q) (hp : W.heap[gp]? = some (.cells cp 41 (0, 0))) (n : Nat) (u : Value) : Kd.R Kd.string 9 (W.setCell ⟨gp, n, none⟩ u) base ok v q :=
  Kd.R_mono (Kd.R_far (p := ⟨gp, n, none⟩) (Kd.R_types h hp (by decide)) (fun _ hk => hk.2) u) (fun _ hk => hk.1)
def align_Lines.ll : Nat → List S24 → List S24 → List S41 → Int → Int → Int → Int → List ByteArray → Int → Int → Int → Option (List ByteArray × Int × Int)
 | 0, _, _, _, _, _, _, _, _, _, _, _ => none
 | k + 1, l0, l1, l2, r0, r1, r2, r3, q, i, j, x => if x < (l2.length : Int) then (if 0 ≤ x then (if (rd_T41 l2 x).f0 < r0 then (align_Lines.ll k l0 l1 l2 r0 r1 r2 r3 q i j (wrap64 (x + 1))) else (if (rd_T41 l2 x).f0 ≥ r1 then (align_Lines.ll k l0 l1 l2 r0 r1 r2 r3 q i j (wrap64 (x + 1))) else (if (rd_T41 l2 x).f1 < r2 then (align_Lines.ll k l0 l1 l2 r0 r1 r2 r3 q i j (wrap64 (x + 1))) else (if (rd_T41 l2 x).f1 ≥ r3 then (align_Lines.ll k l0 l1 l2 r0 r1 r2 r3 q i j (wrap64 (x + 1))) else ((align_Lines.la k l0 (rd_T41 l2 x).f0 q i).bind fun b => ((align_Lines.lb k l1 (rd_T41 l2 x).f1 b.1 j).bind fun c => (if 0 ≤ b.2 then (if b.2 < (l0.length : Int) then ((align_Text.f k (rd_T24 l0 b.2).f0 (rd_T24 l0 b.2).f1).bind fun t => (if 2 + t.size ≤ 9223372036854775807 then (if c.1.length < 8796093022208 then (align_Lines.ll k l0 l1 l2 r0 r1 r2 r3 (c.1 ++ [(⟨#[32, 32]⟩ : ByteArray) ++ t]) (wrap64 ((rd_T41 l2 x).f0 + 1)) (wrap64 ((rd_T41 l2 x).f1 + 1)) (wrap64 (x + 1))) else none) else none)) else none) else none))))))) else none) else some (q, i, j)
def align_Lines.f (k : Nat) (l0 : List S24) (l1 : List S24) (l2 : List S41) (r0 : Int) (r1 : Int) (r2 : Int) (r3 : Int) : Option (List ByteArray × Int) := (align_Fits.f k l0 l1 l2).bind fun t => (if t = true then ((align_inside.f (l0.length : Int) (l1.length : Int) r0 r1 r2 r3).bind fun u => (if u = true then ((align_Lines.ll k l0 l1 l2 r0 r1 r2 r3 [] r0 r2 0).bind fun s => ((align_Lines.la k l0 r1 s.1 s.2.1).bind fun b => ((align_Lines.lb k l1 r3 b.1 s.2.2).bind fun c => some (c.1, 0)))) else some ([], 1))) else some ([], 90))
theorem align_Lines.ll_mono : ∀ (k : Nat) (l0 l1 : List S24) (l2 : List S41) (r0 r1 r2 r3 : Int) (q : List ByteArray) (i j x : Int), LeO (align_Lines.ll k l0 l1 l2 r0 r1 r2 r3 q i j x) (align_Lines.ll (k + 1) l0 l1 l2 r0 r1 r2 r3 q i j x) := by
 intro k
 induction k with
 | zero => intro l0 l1 l2 r0 r1 r2 r3 q i j x; exact LeO.none _
 | succ k ih =>
  intro l0 l1 l2 r0 r1 r2 r3 q i j x
  unfold align_Lines.ll
  repeat' first
   | (with_reducible exact ih _ _ _ _ _ _ _ _ _ _ _)
   | (with_reducible exact align_Lines.la_mono _ _ _ _ _)
   | (with_reducible exact align_Lines.lb_mono _ _ _ _ _)
   | (with_reducible exact align_Text.mono _ _ _)
   | (with_reducible exact LeO.refl _)
   | (with_reducible exact LeO.none _)
   | (with_reducible refine LeO.ite ?_ ?_)
   | (with_reducible refine LeO.bind ?_ (fun _ => ?_))
theorem align_Lines.mono : ∀ (l0 l1 : List S24) (l2 : List S41) (r0 r1 r2 r3 : Int) (k : Nat), LeO (align_Lines.f k l0 l1 l2 r0 r1 r2 r3) (align_Lines.f (k + 1) l0 l1 l2 r0 r1 r2 r3) := by
 intro l0 l1 l2 r0 r1 r2 r3 k
 unfold align_Lines.f
 repeat' first
  | (with_reducible exact align_Lines.ll_mono _ _ _ _ _ _ _ _ _ _ _ _)
  | (with_reducible exact align_Lines.la_mono _ _ _ _ _)
  | (with_reducible exact align_Lines.lb_mono _ _ _ _ _)
  | (with_reducible exact align_Fits.mono _ _ _ _)
  | (with_reducible exact LeO.refl _)
  | (with_reducible exact LeO.none _)
  | (with_reducible refine LeO.ite ?_ ?_)
  | (with_reducible refine LeO.bind ?_ (fun _ => ?_))
def align_Lines.TM6 : Bool × List (List Nat × List Nat) := (true, [([], []), ([0], [0]), ([], []), ([2], [2]), ([], []), ([], []), ([4, 1, 0, 1, 4, 5], [1, 4]), ([5, 3, 6, 0, 1, 2, 3, 4, 5, 6], [3, 5])])
def align_Lines.BM6 : List Nat := [0, 1, 0, 4, 0, 0, 51, 127]
theorem align_Lines.tabM6 : rtab .any (opsOf Try.f32 6) = align_Lines.TM6 := by kernel_rfl
theorem align_Lines.bitsM6 : waitsOk align_Lines.TM6.2 align_Lines.BM6 = true := by kernel_rfl
def align_Lines.TM13 : Bool × List (List Nat × List Nat) := (true, [([], []), ([], []), ([], []), ([1, 2], [1, 2]), ([3], [3]), ([4], [4]), ([5], [5]), ([6], [6]), ([0, 7, 5], [0, 7]), ([8, 8, 0, 1, 2, 3, 4, 5, 6, 7, 8], [8])])
def align_Lines.BM13 : List Nat := [0, 0, 0, 6, 14, 30, 62, 126, 255, 511]
theorem align_Lines.tabM13 : rtab .any (opsOf Try.f32 13) = align_Lines.TM13 := by kernel_rfl
theorem align_Lines.bitsM13 : waitsOk align_Lines.TM13.2 align_Lines.BM13 = true := by kernel_rfl
def align_Lines.TM14 : Bool × List (List Nat × List Nat) := (true, [([], []), ([0], [0]), ([1], [1]), ([], []), ([3], [3]), ([4], [4]), ([2, 0, 1, 2], [2]), ([5, 6, 0, 1, 2, 3, 4, 5, 6], [5])])
def align_Lines.BM14 : List Nat := [0, 1, 3, 0, 8, 24, 7, 127]
theorem align_Lines.tabM14 : rtab .any (opsOf Try.f32 14) = align_Lines.TM14 := by kernel_rfl
theorem align_Lines.bitsM14 : waitsOk align_Lines.TM14.2 align_Lines.BM14 = true := by kernel_rfl
set_option maxHeartbeats 8000000 in
set_option maxRecDepth 100000 in
theorem align_Lines.calls (k : Nat) (AA : Option Addr) (cA : Nat) (l0 : List (S24)) (AB : Option Addr) (cB : Nat) (l1 : List (S24)) (AC : Option Addr) (cC : Nat) (l2 : List (S41)) (a3_0 : Int) (a3_1 : Int) (a3_2 : Int) (a3_3 : Int) (r1 : List ByteArray) (r2 : Int) (w : World) (hr0 : Kd.C k24 w AA l0.length l0) (hc0 : l0.length ≤ cA) (hr1 : Kd.C k24 w AB l1.length l1) (hc1 : l1.length ≤ cB) (hr2 : Kd.C k41 w AC l2.length l2) (hc2 : l2.length ≤ cC) (h : align_Lines.f k l0 l1 l2 a3_0 a3_1 a3_2 a3_3 = some (r1, r2)) :
  Calls Try.prog 32 #[.slice AA l0.length cA, .slice AB l1.length cB, .slice AC l2.length cC, .agg #[.int .i64 a3_0, .int .i64 a3_1, .int .i64 a3_2, .int .i64 a3_3]] w fun e w' => ∃ v0_ : Value, e = .returned (.tuple #[v0_, .int .i64 r2]) ∧ Kd.R Kd.string 9 w' w.heap.size (fun _ => True) v0_ r1 ∧ Below w.heap.size w w' := by
 have hu24 := Try.underlying24; have hu41 := Try.underlying41; have hu49 := Try.underlying49; have HR0 := Aside0.mk hr0; have HR1 := Aside0.mk hr1; have HR2 := Aside0.mk hr2; have HC0 := Aside0.mk hc0; have HC1 := Aside0.mk hc1; have HC2 := Aside0.mk hc2; clear hr0 hr1 hr2 hc0 hc1 hc2; have H : ((align_Fits.f k l0 l1 l2).bind fun t => (if t = true then ((align_inside.f (l0.length : Int) (l1.length : Int) a3_0 a3_1 a3_2 a3_3).bind fun u => (if u = true then ((align_Lines.ll k l0 l1 l2 a3_0 a3_1 a3_2 a3_3 [] a3_0 a3_2 0).bind fun s => ((align_Lines.la k l0 a3_1 s.1 s.2.1).bind fun b => ((align_Lines.lb k l1 a3_3 b.1 s.2.2).bind fun c => some (c.1, 0)))) else some ([], 1))) else some ([], 90))) = some (r1, r2) := h; clear h; replace H := Option.bind_eq_some_iff.mp H; obtain ⟨t1, A10, H⟩ := H; have A1_ := Aside0.mk A10; clear A10; have hmf : ∀ (fn : Fn) (first cap : Array Value) (w : World), (Instr.makeFunc fn first cap).run Try.prog w = .ok (.func fn first cap) w := fun _ _ _ _ => rfl
 by_cases c1_ : t1 = true
 rotate_left
 ·rw [if_neg c1_] at H; have c1b := Bool.eq_false_iff.mpr c1_; subst c1b; obtain ⟨rfl, rfl⟩ : [] = r1 ∧ (90 : Int) = r2 := by injection H with H; injection H with h1_ h2_; exact ⟨h1_, h2_⟩
  clear H; go_enter Try.func32, Try.ntmps32
  go_wp2_with (first | ((with_reducible refine gate_dst (N := 4) rfl ?_); (try (refine gate_guard (by rfl) ?_; dsimp only)); refine box_event ?hg (N := 4) ?hd (cs := #[.slice AA l0.length cA]) (t := 22) ?hr ?_; (case hd => rfl); (case hg => rfl); (case hr => first | (go_simp; done) | (go_simp; rfl)); intro ga hg w1 hbx hbb; clear hg; have HBA := Aside0.mk hbx; have HB := Aside0.mk hbb; clear hbx hbb) | ((with_reducible refine gate_dst (N := 5) rfl ?_); (try (refine gate_guard (by rfl) ?_; dsimp only)); refine box_event ?hg (N := 5) ?hd (cs := #[.slice AB l1.length cB]) (t := 22) ?hr ?_; (case hd => rfl); (case hg => rfl); (case hr => first | (go_simp; done) | (go_simp; rfl)); intro gb hg w2 hbx hbb; clear hg; have HBB := Aside0.mk hbx; have HBA := Aside0.mk (blk_below HBA.out hbb); have HB := Aside0.mk (below_step HB.out hbb); clear hbx hbb) | ((with_reducible refine gate_dst (N := 7) rfl ?_); (try (refine gate_guard (by rfl) ?_; dsimp only)); refine box_event ?hg (N := 7) ?hd (cs := #[.int .i64 a3_0, .int .i64 a3_1, .int .i64 a3_2, .int .i64 a3_3]) (t := 49) ?hr ?_; (case hd => rfl); (case hg => rfl); (case hr => first | (go_simp; done) | (go_simp; rfl)); intro gr hg w3 hbx hbb; clear hg; have HBR := Aside0.mk hbx; have HBA := Aside0.mk (blk_below HBA.out hbb); have HBB := Aside0.mk (blk_below HBB.out hbb); have HB := Aside0.mk (below_step HB.out hbb); clear hbx hbb; have hca : w3.cell? ⟨ga, 0, none⟩ = some (.slice AA l0.length cA) := (blk_cell HBA.out 0).trans rfl; have hcb : w3.cell? ⟨gb, 0, none⟩ = some (.slice AB l1.length cB) := (blk_cell HBB.out 0).trans rfl; have hcr0 : w3.cell? ⟨gr, 0, none⟩ = some (.int .i64 a3_0) := (blk_cell HBR.out 0).trans rfl; have hcr1 : w3.cell? ⟨gr, 1, none⟩ = some (.int .i64 a3_1) := (blk_cell HBR.out 1).trans rfl; have hcr2 : w3.cell? ⟨gr, 2, none⟩ = some (.int .i64 a3_2) := (blk_cell HBR.out 2).trans rfl; have hcr3 : w3.cell? ⟨gr, 3, none⟩ = some (.int .i64 a3_3) := (blk_cell HBR.out 3).trans rfl) | (go_at_call 25; (with_reducible refine (align_Fits.calls k AA cA l0 AB cB l1 AC cC l2 _ _ (Kd.C_below HR0.out HB.out) HC0.out (Kd.C_below HR1.out HB.out) HC1.out (Kd.C_below HR2.out HB.out) HC2.out A1_.out).mono ?_); rintro e w4 ⟨rfl, hb⟩; have HBA := Aside0.mk (blk_below HBA.out hb); have HBB := Aside0.mk (blk_below HBB.out hb); have HBR := Aside0.mk (blk_below HBR.out hb); have HB := Aside0.mk (below_step HB.out hb); clear hca hcb hcr0 hcr1 hcr2 hcr3; clear hb; have hca : w4.cell? ⟨ga, 0, none⟩ = some (.slice AA l0.length cA) := (blk_cell HBA.out 0).trans rfl; have hcb : w4.cell? ⟨gb, 0, none⟩ = some (.slice AB l1.length cB) := (blk_cell HBB.out 0).trans rfl; have hcr0 : w4.cell? ⟨gr, 0, none⟩ = some (.int .i64 a3_0) := (blk_cell HBR.out 0).trans rfl; have hcr1 : w4.cell? ⟨gr, 1, none⟩ = some (.int .i64 a3_1) := (blk_cell HBR.out 1).trans rfl; have hcr2 : w4.cell? ⟨gr, 2, none⟩ = some (.int .i64 a3_2) := (blk_cell HBR.out 2).trans rfl; have hcr3 : w4.cell? ⟨gr, 3, none⟩ = some (.int .i64 a3_3) := (blk_cell HBR.out 3).trans rfl))
  go_ret2; exact ⟨_, by first | rfl | (simp; done) | (simp [*]; done), Kd.R_nil _ _ _ _ _, HB.out⟩
 subst c1_; rw [if_pos rfl] at H; replace H := Option.bind_eq_some_iff.mp H; obtain ⟨t2, A20, H⟩ := H; have A2_ := Aside0.mk A20; clear A20
 by_cases c2_ : t2 = true
 rotate_left
 ·rw [if_neg c2_] at H; have c2b := Bool.eq_false_iff.mpr c2_; subst c2b; obtain ⟨rfl, rfl⟩ : [] = r1 ∧ (1 : Int) = r2 := by injection H with H; injection H with h1_ h2_; exact ⟨h1_, h2_⟩
  clear H; go_enter Try.func32, Try.ntmps32
  go_wp2_with (first | ((with_reducible refine gate_dst (N := 4) rfl ?_); (try (refine gate_guard (by rfl) ?_; dsimp only)); refine box_event ?hg (N := 4) ?hd (cs := #[.slice AA l0.length cA]) (t := 22) ?hr ?_; (case hd => rfl); (case hg => rfl); (case hr => first | (go_simp; done) | (go_simp; rfl)); intro ga hg w1 hbx hbb; clear hg; have HBA := Aside0.mk hbx; have HB := Aside0.mk hbb; clear hbx hbb) | ((with_reducible refine gate_dst (N := 5) rfl ?_); (try (refine gate_guard (by rfl) ?_; dsimp only)); refine box_event ?hg (N := 5) ?hd (cs := #[.slice AB l1.length cB]) (t := 22) ?hr ?_; (case hd => rfl); (case hg => rfl); (case hr => first | (go_simp; done) | (go_simp; rfl)); intro gb hg w2 hbx hbb; clear hg; have HBB := Aside0.mk hbx; have HBA := Aside0.mk (blk_below HBA.out hbb); have HB := Aside0.mk (below_step HB.out hbb); clear hbx hbb) | ((with_reducible refine gate_dst (N := 7) rfl ?_); (try (refine gate_guard (by rfl) ?_; dsimp only)); refine box_event ?hg (N := 7) ?hd (cs := #[.int .i64 a3_0, .int .i64 a3_1, .int .i64 a3_2, .int .i64 a3_3]) (t := 49) ?hr ?_; (case hd => rfl); (case hg => rfl); (case hr => first | (go_simp; done) | (go_simp; rfl)); intro gr hg w3 hbx hbb; clear hg; have HBR := Aside0.mk hbx; have HBA := Aside0.mk (blk_below HBA.out hbb); have HBB := Aside0.mk (blk_below HBB.out hbb); have HB := Aside0.mk (below_step HB.out hbb); clear hbx hbb; have hca : w3.cell? ⟨ga, 0, none⟩ = some (.slice AA l0.length cA) := (blk_cell HBA.out 0).trans rfl; have hcb : w3.cell? ⟨gb, 0, none⟩ = some (.slice AB l1.length cB) := (blk_cell HBB.out 0).trans rfl; have hcr0 : w3.cell? ⟨gr, 0, none⟩ = some (.int .i64 a3_0) := (blk_cell HBR.out 0).trans rfl; have hcr1 : w3.cell? ⟨gr, 1, none⟩ = some (.int .i64 a3_1) := (blk_cell HBR.out 1).trans rfl; have hcr2 : w3.cell? ⟨gr, 2, none⟩ = some (.int .i64 a3_2) := (blk_cell HBR.out 2).trans rfl; have hcr3 : w3.cell? ⟨gr, 3, none⟩ = some (.int .i64 a3_3) := (blk_cell HBR.out 3).trans rfl) | (go_at_call 25; (with_reducible refine (align_Fits.calls k AA cA l0 AB cB l1 AC cC l2 _ _ (Kd.C_below HR0.out HB.out) HC0.out (Kd.C_below HR1.out HB.out) HC1.out (Kd.C_below HR2.out HB.out) HC2.out A1_.out).mono ?_); rintro e w4 ⟨rfl, hb⟩; have HBA := Aside0.mk (blk_below HBA.out hb); have HBB := Aside0.mk (blk_below HBB.out hb); have HBR := Aside0.mk (blk_below HBR.out hb); have HB := Aside0.mk (below_step HB.out hb); clear hca hcb hcr0 hcr1 hcr2 hcr3; clear hb; have hca : w4.cell? ⟨ga, 0, none⟩ = some (.slice AA l0.length cA) := (blk_cell HBA.out 0).trans rfl; have hcb : w4.cell? ⟨gb, 0, none⟩ = some (.slice AB l1.length cB) := (blk_cell HBB.out 0).trans rfl; have hcr0 : w4.cell? ⟨gr, 0, none⟩ = some (.int .i64 a3_0) := (blk_cell HBR.out 0).trans rfl; have hcr1 : w4.cell? ⟨gr, 1, none⟩ = some (.int .i64 a3_1) := (blk_cell HBR.out 1).trans rfl; have hcr2 : w4.cell? ⟨gr, 2, none⟩ = some (.int .i64 a3_2) := (blk_cell HBR.out 2).trans rfl; have hcr3 : w4.cell? ⟨gr, 3, none⟩ = some (.int .i64 a3_3) := (blk_cell HBR.out 3).trans rfl) | (go_at_call 45; (with_reducible refine (align_inside.calls (l0.length : Int) (l1.length : Int) a3_0 a3_1 a3_2 a3_3 _ _ A2_.out).mono ?_); rintro e w5 ⟨rfl, hb⟩; have HBA := Aside0.mk (blk_below HBA.out hb); have HBB := Aside0.mk (blk_below HBB.out hb); have HBR := Aside0.mk (blk_below HBR.out hb); have HB := Aside0.mk (below_step HB.out hb); clear hca hcb hcr0 hcr1 hcr2 hcr3; clear hb))
  go_ret2; exact ⟨_, by first | rfl | (simp; done) | (simp [*]; done), Kd.R_nil _ _ _ _ _, HB.out⟩
 subst c2_; rw [if_pos rfl] at H; replace H := Option.bind_eq_some_iff.mp H; obtain ⟨⟨q1, i1, j1⟩, A30, H⟩ := H; have A3_ := Aside0.mk A30; clear A30; replace H := Option.bind_eq_some_iff.mp H; obtain ⟨⟨q2, i2⟩, A40, H⟩ := H; have A4_ : Aside0 (align_Lines.la k l0 a3_1 q1 i1 = some (q2, i2)) := ⟨A40⟩; clear A40; replace H := Option.bind_eq_some_iff.mp H; obtain ⟨⟨q3, j2⟩, A50, H⟩ := H; have A5_ : Aside0 (align_Lines.lb k l1 a3_3 q2 j1 = some (q3, j2)) := ⟨A50⟩; clear A50; obtain ⟨rfl, rfl⟩ : q3 = r1 ∧ (0 : Int) = r2 := by injection H with H; injection H with h1_ h2_; exact ⟨h1_, h2_⟩
 clear H; have H' : Aside0 (align_Lines.ll k l0 l1 l2 a3_0 a3_1 a3_2 a3_3 [] a3_0 a3_2 0 = some (q1, i1, j1)) := A3_; clear A3_; go_enter Try.func32, Try.ntmps32
 go_wp2_with (first | ((with_reducible refine gate_dst (N := 4) rfl ?_); (try (refine gate_guard (by rfl) ?_; dsimp only)); refine box_event ?hg (N := 4) ?hd (cs := #[.slice AA l0.length cA]) (t := 22) ?hr ?_; (case hd => rfl); (case hg => rfl); (case hr => first | (go_simp; done) | (go_simp; rfl)); intro ga hg w1 hbx hbb; clear hg; have HBA := Aside0.mk hbx; have HB := Aside0.mk hbb; clear hbx hbb) | ((with_reducible refine gate_dst (N := 5) rfl ?_); (try (refine gate_guard (by rfl) ?_; dsimp only)); refine box_event ?hg (N := 5) ?hd (cs := #[.slice AB l1.length cB]) (t := 22) ?hr ?_; (case hd => rfl); (case hg => rfl); (case hr => first | (go_simp; done) | (go_simp; rfl)); intro gb hg w2 hbx hbb; clear hg; have HBB := Aside0.mk hbx; have HBA := Aside0.mk (blk_below HBA.out hbb); have HB := Aside0.mk (below_step HB.out hbb); clear hbx hbb) | ((with_reducible refine gate_dst (N := 7) rfl ?_); (try (refine gate_guard (by rfl) ?_; dsimp only)); refine box_event ?hg (N := 7) ?hd (cs := #[.int .i64 a3_0, .int .i64 a3_1, .int .i64 a3_2, .int .i64 a3_3]) (t := 49) ?hr ?_; (case hd => rfl); (case hg => rfl); (case hr => first | (go_simp; done) | (go_simp; rfl)); intro gr hg w3 hbx hbb; clear hg; have HBR := Aside0.mk hbx; have HBA := Aside0.mk (blk_below HBA.out hbb); have HBB := Aside0.mk (blk_below HBB.out hbb); have HB := Aside0.mk (below_step HB.out hbb); clear hbx hbb; have hca : w3.cell? ⟨ga, 0, none⟩ = some (.slice AA l0.length cA) := (blk_cell HBA.out 0).trans rfl; have hcb : w3.cell? ⟨gb, 0, none⟩ = some (.slice AB l1.length cB) := (blk_cell HBB.out 0).trans rfl; have hcr0 : w3.cell? ⟨gr, 0, none⟩ = some (.int .i64 a3_0) := (blk_cell HBR.out 0).trans rfl; have hcr1 : w3.cell? ⟨gr, 1, none⟩ = some (.int .i64 a3_1) := (blk_cell HBR.out 1).trans rfl; have hcr2 : w3.cell? ⟨gr, 2, none⟩ = some (.int .i64 a3_2) := (blk_cell HBR.out 2).trans rfl; have hcr3 : w3.cell? ⟨gr, 3, none⟩ = some (.int .i64 a3_3) := (blk_cell HBR.out 3).trans rfl) | (go_at_call 25; (with_reducible refine (align_Fits.calls k AA cA l0 AB cB l1 AC cC l2 _ _ (Kd.C_below HR0.out HB.out) HC0.out (Kd.C_below HR1.out HB.out) HC1.out (Kd.C_below HR2.out HB.out) HC2.out A1_.out).mono ?_); rintro e w4 ⟨rfl, hb⟩; have HBA := Aside0.mk (blk_below HBA.out hb); have HBB := Aside0.mk (blk_below HBB.out hb); have HBR := Aside0.mk (blk_below HBR.out hb); have HB := Aside0.mk (below_step HB.out hb); clear hca hcb hcr0 hcr1 hcr2 hcr3; clear hb; have hca : w4.cell? ⟨ga, 0, none⟩ = some (.slice AA l0.length cA) := (blk_cell HBA.out 0).trans rfl; have hcb : w4.cell? ⟨gb, 0, none⟩ = some (.slice AB l1.length cB) := (blk_cell HBB.out 0).trans rfl; have hcr0 : w4.cell? ⟨gr, 0, none⟩ = some (.int .i64 a3_0) := (blk_cell HBR.out 0).trans rfl; have hcr1 : w4.cell? ⟨gr, 1, none⟩ = some (.int .i64 a3_1) := (blk_cell HBR.out 1).trans rfl; have hcr2 : w4.cell? ⟨gr, 2, none⟩ = some (.int .i64 a3_2) := (blk_cell HBR.out 2).trans rfl; have hcr3 : w4.cell? ⟨gr, 3, none⟩ = some (.int .i64 a3_3) := (blk_cell HBR.out 3).trans rfl) | (go_at_call 45; (with_reducible refine (align_inside.calls (l0.length : Int) (l1.length : Int) a3_0 a3_1 a3_2 a3_3 _ _ A2_.out).mono ?_); rintro e w5 ⟨rfl, hb⟩; have HBA := Aside0.mk (blk_below HBA.out hb); have HBB := Aside0.mk (blk_below HBB.out hb); have HBR := Aside0.mk (blk_below HBR.out hb); have HB := Aside0.mk (below_step HB.out hb); clear hca hcb hcr0 hcr1 hcr2 hcr3; clear hb) | ((with_reducible refine gate_dst (N := 10) rfl ?_); (try (refine gate_guard (by rfl) ?_; dsimp only)); refine box_event ?hg (N := 10) ?hd (cs := #[.slice none 0 0]) (t := 61) ?hr ?_; (case hd => rfl); (case hg => rfl); (case hr => first | (go_simp; done) | (go_simp; rfl)); intro gq hg w6 hbx hbb; have hgq : w5.heap.size ≤ gq := Nat.le_of_eq hg.symm; clear hg; have HBR5 := HBR; have HBQ := Aside0.mk hbx; have HBA := Aside0.mk (blk_below HBA.out hbb); have HBB := Aside0.mk (blk_below HBB.out hbb); have HBR := Aside0.mk (blk_below HBR.out hbb); have H5 := HB; have HB := Aside0.mk hbb; clear hbx hbb))
 have HBA := Aside0.mk (blk_below HBA.out (below_drew (Below.refl _ _))); have HBB := Aside0.mk (blk_below HBB.out (below_drew (Below.refl _ _))); have HBR := Aside0.mk (blk_below HBR.out (below_drew (Below.refl _ _))); have HBQ := Aside0.mk (blk_below HBQ.out (below_drew (Below.refl _ _))); have HB := Aside0.mk (below_drew1 HB.out); refine start_ (n := 8) (S := fun w' => w'.cell? ⟨gr, 0, none⟩ = some (.int .i64 a3_0) ∧ w'.cell? ⟨gr, 1, none⟩ = some (.int .i64 a3_1) ∧ w'.cell? ⟨gr, 2, none⟩ = some (.int .i64 a3_2) ∧ w'.cell? ⟨gr, 3, none⟩ = some (.int .i64 a3_3)) (ds := [7]) #[false, false, false, false, false, false, false, false] (by kernel_rfl) rfl rfl ⟨(blk_cell HBR.out 0).trans rfl, (blk_cell HBR.out 1).trans rfl, (blk_cell HBR.out 2).trans rfl, (blk_cell HBR.out 3).trans rfl⟩ (fun hHeld => ?_); refine with_tabW align_Lines.tabM6 align_Lines.bitsM6 (fun HT_ HW_ => ?_); generalize w6.drew = w7 at HBA HBB HBR HBQ HB hHeld ⊢; refine pure_ (i := 0) (N := some 28) (v := ?_) (a' := ?_) #[true, false, false, false, false, false, false, false] rfl rfl (any_of HT_.out (by kernel_rfl)) (fun _ _ _ h => h) (Or.inl ⟨by rfl, ?_⟩) ?_ ?_; rotate_left
 ·intro w'; go_simp; with_reducible rfl
 rotate_left
 ·simp only [Act.put, List.setIfInBounds_toArray, List.set_cons_zero, List.set_cons_succ, i64_w, i32_w]; rfl
 refine take_ (i := 1) (N := some 29) (v := ?_) (a' := ?_) #[true, true, false, false, false, false, false, false] rfl rfl (take_ofW HT_.out HW_.out (by kernel_rfl)) (fun _ _ _ h => h) (Or.inl ⟨by rfl, ?_⟩) hHeld ?_ ?_; rotate_left
 ·rintro w' ⟨s0, s1, s2, s3⟩; go_simp; with_reducible rfl
 rotate_left
 ·simp only [Act.put, List.setIfInBounds_toArray, List.set_cons_zero, List.set_cons_succ, i64_w, i32_w]; rfl
 refine pure_ (i := 2) (N := some 30) (v := ?_) (a' := ?_) #[true, true, true, false, false, false, false, false] rfl rfl (any_of HT_.out (by kernel_rfl)) (fun _ _ _ h => h) (Or.inl ⟨by rfl, ?_⟩) ?_ ?_; rotate_left
 ·intro w'; go_simp; with_reducible rfl
 rotate_left
 ·simp only [Act.put, List.setIfInBounds_toArray, List.set_cons_zero, List.set_cons_succ, i64_w, i32_w]; rfl
 refine take_ (i := 3) (N := some 31) (v := ?_) (a' := ?_) #[true, true, true, true, false, false, false, false] rfl rfl (take_ofW HT_.out HW_.out (by kernel_rfl)) (fun _ _ _ h => h) (Or.inl ⟨by rfl, ?_⟩) hHeld ?_ ?_; rotate_left
 ·rintro w' ⟨s0, s1, s2, s3⟩; go_simp; with_reducible rfl
 rotate_left
 ·simp only [Act.put, List.setIfInBounds_toArray, List.set_cons_zero, List.set_cons_succ, i64_w, i32_w]; rfl
 refine join_ (σ := Nat × Nat) 2 #[true, true, true, true, true, true, false, false] (fun s_ => [(11, .pointer (some ⟨s_.1, 0, none⟩)), (12, .pointer (some ⟨s_.2, 0, none⟩))]) (fun s_ w' => (w'.cell? ⟨gr, 0, none⟩ = some (.int .i64 a3_0) ∧ w'.cell? ⟨gr, 1, none⟩ = some (.int .i64 a3_1) ∧ w'.cell? ⟨gr, 2, none⟩ = some (.int .i64 a3_2) ∧ w'.cell? ⟨gr, 3, none⟩ = some (.int .i64 a3_3)) ∧ LB gr #[.int .i64 a3_0, .int .i64 a3_1, .int .i64 a3_2, .int .i64 a3_3] 49 w' s_.1 gq ga s_.2 gb 0 0 (.slice none 0 0) (.slice AA l0.length cA) (.slice AB l1.length cB) ∧ s_.1 ≠ s_.2 ∧ w5.heap.size ≤ s_.1 ∧ w5.heap.size ≤ s_.2 ∧ Below w5.heap.size w5 w') ?_ ?_; rotate_left
 ·intro hCont; refine two_ (i := 4) (j := 5) (Ni := some 11) (Nj := some 12) #[true, true, true, true, true, false, false, false] #[true, true, true, true, false, true, false, false] rfl rfl rfl rfl (by kernel_rfl) (by decide) (by decide) (fun K hK => ?_) (fun K hK => ?_)
  ·skip
   refine value_ (w1 := ?_) (v := ?_) (by rfl) rfl ?_ ?_; rotate_left; rotate_left
   ·go_simp
    constructor
    ·rfl
    ·rfl
   have hba := blk_below HBA.out (below_alloc (Below.refl _ _) (.cells #[.int .i64 0] 3)); have hbb := blk_below HBB.out (below_alloc (Below.refl _ _) (.cells #[.int .i64 0] 3)); have hbr := blk_below HBR.out (below_alloc (Below.refl _ _) (.cells #[.int .i64 0] 3)); have hbq := blk_below HBQ.out (below_alloc (Below.refl _ _) (.cells #[.int .i64 0] 3)); have hb1 := blk_new w7 (.cells #[.int .i64 0] 3); have hB1 := below_alloc HB.out (.cells #[.int .i64 0] 3); refine hK.out _ _ ⟨(blk_cell hbr 0).trans rfl, (blk_cell hbr 1).trans rfl, (blk_cell hbr 2).trans rfl, (blk_cell hbr 3).trans rfl⟩ (fun hHeld => ?_); clear hK K; refine norm_ (a' := ?_) ?_ ?_; rotate_left
   ·show Act.put _ (some 11) _ = _
    simp only [Act.put, List.setIfInBounds_toArray, List.set_cons_zero, List.set_cons_succ, i64_w, i32_w]; rfl
   obtain ⟨g1, hg1⟩ : ∃ g1, g1 = w7.heap.size := ⟨_, rfl⟩; obtain ⟨w8, hw8⟩ : ∃ w8, w8 = w7.alloc (.cells #[.int .i64 0] 3) := ⟨_, rfl⟩; rw [← hw8] at hba hbb hbr hbq hb1 hB1 hHeld ⊢; rw [← hg1] at hb1 ⊢; have hs8 : w8.heap.size = g1 + 1 := by rw [hw8, hg1]; simp
   have hg1' : w5.heap.size ≤ g1 := by rw [hg1]; exact below_size HB.out
   clear hw8 hg1; refine one_ (i := 5) (N := some 12) #[true, true, true, true, true, true, false, false] rfl rfl (one_of HT_.out (by kernel_rfl)) (by decide) (fun K hK => ?_); refine value_ (w1 := ?_) (v := ?_) (by rfl) rfl ?_ ?_; rotate_left; rotate_left
   ·go_simp
    constructor
    ·rfl
    ·rfl
   have hba := blk_below hba (below_alloc (Below.refl _ _) (.cells #[.int .i64 0] 3)); have hbb := blk_below hbb (below_alloc (Below.refl _ _) (.cells #[.int .i64 0] 3)); have hbr := blk_below hbr (below_alloc (Below.refl _ _) (.cells #[.int .i64 0] 3)); have hbq := blk_below hbq (below_alloc (Below.refl _ _) (.cells #[.int .i64 0] 3)); have hb1 := blk_below hb1 (below_alloc (Below.refl _ _) (.cells #[.int .i64 0] 3)); have hb2 := blk_new w8 (.cells #[.int .i64 0] 3); rw [hs8] at hb2; have hB2 := below_alloc hB1 (.cells #[.int .i64 0] 3); refine hK.out _ _ ⟨(blk_cell hbr 0).trans rfl, (blk_cell hbr 1).trans rfl, (blk_cell hbr 2).trans rfl, (blk_cell hbr 3).trans rfl⟩ (fun hHeld => ?_); clear hK K; refine norm_ (a' := ?_) ?_ ?_; rotate_left
   ·show Act.put _ (some 12) _ = _
    simp only [Act.put, List.setIfInBounds_toArray, List.set_cons_zero, List.set_cons_succ, i64_w, i32_w]; rfl
   exact norm_ (by simp only [putAll, Act.put, List.setIfInBounds_toArray, List.set_cons_zero, List.set_cons_succ]) (hCont (g1, g1 + 1) _ ⟨hHeld, ⟨hb1, hbq, hba, hb2, hbb, hbr⟩, by simp only; omega, hg1', by simp only; omega, hB2⟩)
  ·skip
   refine value_ (w1 := ?_) (v := ?_) (by rfl) rfl ?_ ?_; rotate_left; rotate_left
   ·go_simp
    constructor
    ·rfl
    ·rfl
   have hba := blk_below HBA.out (below_alloc (Below.refl _ _) (.cells #[.int .i64 0] 3)); have hbb := blk_below HBB.out (below_alloc (Below.refl _ _) (.cells #[.int .i64 0] 3)); have hbr := blk_below HBR.out (below_alloc (Below.refl _ _) (.cells #[.int .i64 0] 3)); have hbq := blk_below HBQ.out (below_alloc (Below.refl _ _) (.cells #[.int .i64 0] 3)); have hb1 := blk_new w7 (.cells #[.int .i64 0] 3); have hB1 := below_alloc HB.out (.cells #[.int .i64 0] 3); refine hK.out _ _ ⟨(blk_cell hbr 0).trans rfl, (blk_cell hbr 1).trans rfl, (blk_cell hbr 2).trans rfl, (blk_cell hbr 3).trans rfl⟩ (fun hHeld => ?_); clear hK K; refine norm_ (a' := ?_) ?_ ?_; rotate_left
   ·show Act.put _ (some 12) _ = _
    simp only [Act.put, List.setIfInBounds_toArray, List.set_cons_zero, List.set_cons_succ, i64_w, i32_w]; rfl
   obtain ⟨g1, hg1⟩ : ∃ g1, g1 = w7.heap.size := ⟨_, rfl⟩; obtain ⟨w8, hw8⟩ : ∃ w8, w8 = w7.alloc (.cells #[.int .i64 0] 3) := ⟨_, rfl⟩; rw [← hw8] at hba hbb hbr hbq hb1 hB1 hHeld ⊢; rw [← hg1] at hb1 ⊢; have hs8 : w8.heap.size = g1 + 1 := by rw [hw8, hg1]; simp
   have hg1' : w5.heap.size ≤ g1 := by rw [hg1]; exact below_size HB.out
   clear hw8 hg1; refine one_ (i := 4) (N := some 11) #[true, true, true, true, true, true, false, false] rfl rfl (one_of HT_.out (by kernel_rfl)) (by decide) (fun K hK => ?_); refine value_ (w1 := ?_) (v := ?_) (by rfl) rfl ?_ ?_; rotate_left; rotate_left
   ·go_simp
    constructor
    ·rfl
    ·rfl
   have hba := blk_below hba (below_alloc (Below.refl _ _) (.cells #[.int .i64 0] 3)); have hbb := blk_below hbb (below_alloc (Below.refl _ _) (.cells #[.int .i64 0] 3)); have hbr := blk_below hbr (below_alloc (Below.refl _ _) (.cells #[.int .i64 0] 3)); have hbq := blk_below hbq (below_alloc (Below.refl _ _) (.cells #[.int .i64 0] 3)); have hb1 := blk_below hb1 (below_alloc (Below.refl _ _) (.cells #[.int .i64 0] 3)); have hb2 := blk_new w8 (.cells #[.int .i64 0] 3); rw [hs8] at hb2; have hB2 := below_alloc hB1 (.cells #[.int .i64 0] 3); refine hK.out _ _ ⟨(blk_cell hbr 0).trans rfl, (blk_cell hbr 1).trans rfl, (blk_cell hbr 2).trans rfl, (blk_cell hbr 3).trans rfl⟩ (fun hHeld => ?_); clear hK K; refine norm_ (a' := ?_) ?_ ?_; rotate_left
   ·show Act.put _ (some 11) _ = _
    simp only [Act.put, List.setIfInBounds_toArray, List.set_cons_zero, List.set_cons_succ, i64_w, i32_w]; rfl
   exact norm_ (by simp only [putAll, Act.put, List.setIfInBounds_toArray, List.set_cons_zero, List.set_cons_succ]) (hCont (g1 + 1, g1) _ ⟨hHeld, ⟨hb2, hbq, hba, hb1, hbb, hbr⟩, by simp only; omega, by simp only; omega, hg1', hB2⟩)
 rintro ⟨gi, gj⟩ w9 ⟨hHeld, hLB, hij, hgi, hgj, hB9⟩; have HL : Aside0 (LB gr #[.int .i64 a3_0, .int .i64 a3_1, .int .i64 a3_2, .int .i64 a3_3] 49 w9 gi gq ga gj gb 0 0 (.slice none 0 0) (.slice AA l0.length cA) (.slice AB l1.length cB)) := ⟨hLB⟩; replace hij : gi ≠ gj := hij; replace hgi : w5.heap.size ≤ gi := hgi; replace hgj : w5.heap.size ≤ gj := hgj; have HB := Aside0.mk hB9; clear HBA HBB HBR HBQ hLB hB9; refine norm_ (a' := ?_) ?_ ?_; rotate_left
 ·simp only [putAll, Act.put, List.setIfInBounds_toArray, List.set_cons_zero, List.set_cons_succ]; rfl
 refine one_ (i := 6) (N := none) #[true, true, true, true, true, true, true, false] rfl rfl (one_of HT_.out (by kernel_rfl)) (by decide) (fun K hK => ?_); have hci : w9.cell? ⟨gi, 0, none⟩ = _ := (blk_cell HL.out.1 0).trans rfl; have hfi := blk_frozen HL.out.1 0; refine skip_ (w1 := ?_) (by rfl) rfl ?_ ?_; rotate_left
 ·go_simp; rfl
 clear hci hfi; have HL := Aside0.mk (HL.out.setI (by decide) hij a3_0); have HB := Aside0.mk (below_set (j := 0) (v := .int .i64 a3_0) HB.out hgi); refine hK.out _ _ ⟨(blk_cell HL.out.2.2.2.2.2 0).trans rfl, (blk_cell HL.out.2.2.2.2.2 1).trans rfl, (blk_cell HL.out.2.2.2.2.2 2).trans rfl, (blk_cell HL.out.2.2.2.2.2 3).trans rfl⟩ (fun hHeld => ?_); clear hK K; generalize w9.setCell ⟨gi, 0, none⟩ (.int .i64 a3_0) = w10 at HL HB hHeld ⊢; refine last_ (i := 7) (N := none) #[true, true, true, true, true, true, true, true] rfl rfl (one_of HT_.out (by kernel_rfl)) (by decide) (fun K hK => ?_); have hci : w10.cell? ⟨gj, 0, none⟩ = _ := (blk_cell HL.out.2.2.2.1 0).trans rfl; have hfi := blk_frozen HL.out.2.2.2.1 0; refine skip_ (w1 := ?_) (by rfl) rfl ?_ ?_; rotate_left
 ·go_simp; rfl
 clear hci hfi; refine hK.out _ _ ?_; clear hK K; refine done_ (done_of HT_.out (by kernel_rfl)) ?_; have HL := Aside0.mk (HL.out.setJ (by decide) hij a3_2); have HB := Aside0.mk (below_set (j := 0) (v := .int .i64 a3_2) HB.out hgj); generalize w10.setCell ⟨gj, 0, none⟩ (.int .i64 a3_2) = w11 at HL HB ⊢; have HO : Aside0 (Kd.R Kd.string 9 w11 w5.heap.size (LOK gi gq gj) (.slice none 0 0) []) := ⟨Kd.R_nil _ _ _ _ _⟩; have HR0 := Aside0.mk (Kd.C_below HR0.out H5.out); have HR1 := Aside0.mk (Kd.C_below HR1.out H5.out); have HR2 := Aside0.mk (Kd.C_below HR2.out H5.out); clear hHeld HT_ HW_; (try go_wp2)
 go_loopg [35] k (fun kq v35 w' => ∃ (q : List ByteArray) (i j x : Int) (v : Value), v35 = .int .i64 x ∧ Aside0 (align_Lines.ll kq l0 l1 l2 a3_0 a3_1 a3_2 a3_3 q i j x = some (q1, i1, j1)) ∧ Aside0 (kq ≤ k) ∧ Aside0 (LB gr #[.int .i64 a3_0, .int .i64 a3_1, .int .i64 a3_2, .int .i64 a3_3] 49 w' gi gq ga gj gb i j v (.slice AA l0.length cA) (.slice AB l1.length cB)) ∧ Aside0 (Kd.R Kd.string 9 w' w5.heap.size (LOK gi gq gj) v q) ∧ Aside0 (Below w5.heap.size w5 w'))
 case atStart => exact ⟨[], a3_0, a3_2, 0, _, rfl, H', ⟨Nat.le_refl _⟩, HL, HO, HB⟩
 case round =>
  clear H' HL HO HB; obtain ⟨q, i, j, x, v, rfl, HA, HK1, HL, HO, HB⟩ := hrel
  cases gk with
  | zero => exact absurd HA.out (by simp [align_Lines.ll])
  | succ k1 =>
   have H := HA.out; clear HA; simp only [align_Lines.ll] at H
   by_cases c1 : x < (l2.length : Int)
   ·rw [if_pos c1] at H; have c1b : decide (x < (l2.length : Int)) = true := decide_eq_true c1
    by_cases c2 : 0 ≤ x
    rotate_left
    ·rw [if_neg c2] at H; exact absurd H (by simp)
    rw [if_pos c2] at H; obtain ⟨ad, e0, hx0, hx1⟩ := at_T41 HR2.out x c2 c1
    cases e0
    have p1 := eq_true c1; have p2 := eq_true c2; have c2b : decide (0 ≤ x) = true := decide_eq_true c2; clear c1 c2; replace hx0 := (HB.out.cell (World.block_lt_of_cell? w5 _ hx0)).trans hx0; replace hx1 := (HB.out.cell (World.block_lt_of_cell? w5 _ hx1)).trans hx1
    go_upto_region 11 with (first | ((with_reducible refine gate_dst (N := 15) rfl ?_); (try (refine gate_guard (by rfl) ?_; dsimp only)); refine box_event ?hg (N := 15) ?hd (cs := #[.int .i64 0, .int .i64 0]) (t := 41) ?hr ?_; (case hd => rfl); (case hg => rfl); (case hr => first | (go_simp; done) | (go_simp; rfl)); intro gp hg w1 hbx hbb; have hgp : wr.heap.size ≤ gp := Nat.le_of_eq hg.symm; clear hg; have HP := Aside0.mk hbx; have HL := Aside0.mk (HL.out.below hbb); have HO := Aside0.mk (Kd.R_below HO.out hbb); have hgp5 : w5.heap.size ≤ gp := Nat.le_trans (below_size HB.out) hgp; have HB := Aside0.mk (below_step HB.out hbb); clear hbx hbb; have hcp0 : w1.cell? ⟨gp, 0, none⟩ = some (.int .i64 0) := (blk_cell HP.out 0).trans rfl; have hcp1 : w1.cell? ⟨gp, 1, none⟩ = some (.int .i64 0) := (blk_cell HP.out 1).trans rfl; have hfp0 := blk_frozen HP.out 0; have hfp1 := blk_frozen HP.out 1))
    (try simp only [Act.put, List.setIfInBounds_toArray, List.set_cons_zero, List.set_cons_succ]); have HP1 := Aside0.mk (blk_set HP.out 0 (.int .i64 (rd_T41 l2 x).f0)); have HL := Aside0.mk ((HL.out.farP HP.out (by decide) 0 (.int .i64 (rd_T41 l2 x).f0)).farP HP1.out (by decide) 1 (.int .i64 (rd_T41 l2 x).f1)); have HO := Aside0.mk (R_farP (R_farP HO.out HP.out 0 (.int .i64 (rd_T41 l2 x).f0)) HP1.out 1 (.int .i64 (rd_T41 l2 x).f1)); have HB := Aside0.mk (below_set (j := 1) (v := (.int .i64 (rd_T41 l2 x).f1)) (below_set (j := 0) (v := (.int .i64 (rd_T41 l2 x).f0)) HB.out hgp5) hgp5); have HP2 : Aside0 (((w1.setCell ⟨gp, 0, none⟩ (.int .i64 (rd_T41 l2 x).f0)).setCell ⟨gp, 1, none⟩ (.int .i64 (rd_T41 l2 x).f1)).heap[gp]? = some (.cells #[(.int .i64 (rd_T41 l2 x).f0), (.int .i64 (rd_T41 l2 x).f1)] 41 (0, 0))) := ⟨by simpa using blk_set HP1.out 1 (.int .i64 (rd_T41 l2 x).f1)⟩; clear hcp0 hcp1 hfp0 hfp1 HP HP1 hx0 hx1; generalize ((w1.setCell ⟨gp, 0, none⟩ (.int .i64 (rd_T41 l2 x).f0)).setCell ⟨gp, 1, none⟩ (.int .i64 (rd_T41 l2 x).f1)) = w2 at HL HO HB HP2 ⊢; have hcp0 : w2.cell? ⟨gp, 0, none⟩ = some (.int .i64 (rd_T41 l2 x).f0) := (blk_cell HP2.out 0).trans rfl; have hcp1 : w2.cell? ⟨gp, 1, none⟩ = some (.int .i64 (rd_T41 l2 x).f1) := (blk_cell HP2.out 1).trans rfl; have hcr0 : w2.cell? ⟨gr, 0, none⟩ = some (.int .i64 a3_0) := (blk_cell HL.out.2.2.2.2.2 0).trans rfl; have hcr1 : w2.cell? ⟨gr, 1, none⟩ = some (.int .i64 a3_1) := (blk_cell HL.out.2.2.2.2.2 1).trans rfl; have hcr2 : w2.cell? ⟨gr, 2, none⟩ = some (.int .i64 a3_2) := (blk_cell HL.out.2.2.2.2.2 2).trans rfl; have hcr3 : w2.cell? ⟨gr, 3, none⟩ = some (.int .i64 a3_3) := (blk_cell HL.out.2.2.2.2.2 3).trans rfl
    by_cases d0 : (rd_T41 l2 x).f0 < a3_0
    ·rw [if_pos d0] at H; have d0b : decide ((rd_T41 l2 x).f0 < a3_0) = true := decide_eq_true d0; have H' := Aside0.mk H; clear H; go_wp2
     go_roundg k1
     case measure => have := HK1.out; omega
     case rel => exact ⟨_, _, _, _, _, rfl, H', ⟨by have := HK1.out; omega⟩, HL, HO, HB⟩
    rw [if_neg d0] at H; have d0b : decide ((rd_T41 l2 x).f0 < a3_0) = false := decide_eq_false d0
    by_cases d1 : (rd_T41 l2 x).f0 ≥ a3_1
    ·rw [if_pos d1] at H; have d1b : decide (a3_1 ≤ (rd_T41 l2 x).f0) = true := decide_eq_true d1; have H' := Aside0.mk H; clear H; go_wp2
     go_roundg k1
     case measure => have := HK1.out; omega
     case rel => exact ⟨_, _, _, _, _, rfl, H', ⟨by have := HK1.out; omega⟩, HL, HO, HB⟩
    rw [if_neg d1] at H; have d1b : decide (a3_1 ≤ (rd_T41 l2 x).f0) = false := decide_eq_false d1
    by_cases d2 : (rd_T41 l2 x).f1 < a3_2
    ·rw [if_pos d2] at H; have d2b : decide ((rd_T41 l2 x).f1 < a3_2) = true := decide_eq_true d2; have H' := Aside0.mk H; clear H; go_wp2
     go_roundg k1
     case measure => have := HK1.out; omega
     case rel => exact ⟨_, _, _, _, _, rfl, H', ⟨by have := HK1.out; omega⟩, HL, HO, HB⟩
    rw [if_neg d2] at H; have d2b : decide ((rd_T41 l2 x).f1 < a3_2) = false := decide_eq_false d2
    by_cases d3 : (rd_T41 l2 x).f1 ≥ a3_3
    ·rw [if_pos d3] at H; have d3b : decide (a3_3 ≤ (rd_T41 l2 x).f1) = true := decide_eq_true d3; have H' := Aside0.mk H; clear H; go_wp2
     go_roundg k1
     case measure => have := HK1.out; omega
     case rel => exact ⟨_, _, _, _, _, rfl, H', ⟨by have := HK1.out; omega⟩, HL, HO, HB⟩
    rw [if_neg d3] at H; have d3b : decide (a3_3 ≤ (rd_T41 l2 x).f1) = false := decide_eq_false d3; clear d0 d1 d2 d3; replace H := Option.bind_eq_some_iff.mp H; obtain ⟨⟨q4, i4⟩, E10, H⟩ := H; have E1 : Aside0 (align_Lines.la k1 l0 (rd_T41 l2 x).f0 q i = some (q4, i4)) := ⟨E10⟩; clear E10; replace H := Option.bind_eq_some_iff.mp H; obtain ⟨⟨q5, j5⟩, E20, H⟩ := H; have E2 : Aside0 (align_Lines.lb k1 l1 (rd_T41 l2 x).f1 q4 j = some (q5, j5)) := ⟨E20⟩; clear E20; simp only at H
    by_cases c3 : 0 ≤ i4
    rotate_left
    ·rw [if_neg c3] at H; exact absurd H (by simp)
    rw [if_pos c3] at H
    by_cases c4 : i4 < (l0.length : Int)
    rotate_left
    ·rw [if_neg c4] at H; exact absurd H (by simp)
    rw [if_pos c4] at H; replace H := Option.bind_eq_some_iff.mp H; obtain ⟨t, A10, H⟩ := H; have A1 := Aside0.mk A10; clear A10
    by_cases c5 : 2 + t.size ≤ 9223372036854775807
    rotate_left
    ·rw [if_neg c5] at H; exact absurd H (by simp)
    rw [if_pos c5] at H; have c5b0 := eq_true c5; have c5b1 : decide (2 + t.size ≤ 9223372036854775807) = true := decide_eq_true c5; have c5b2 : (9223372036854775807 < 2 + t.size) = False := eq_false (Nat.not_lt.2 c5)
    by_cases c6 : q5.length < 8796093022208
    rotate_left
    ·rw [if_neg c6] at H; exact absurd H (by simp)
    rw [if_pos c6] at H; have LM := Aside0.mk c6; clear c6; have H' := Aside0.mk H; clear H; have HL := Aside0.mk (HL.out.other HP2.out); obtain ⟨ad0, e0, hy0, hy1⟩ := at_T24 HR0.out i4 c3 c4
    cases e0
    have p3 := eq_true c3; have p4 := eq_true c4; have c3b : decide (0 ≤ i4) = true := decide_eq_true c3; have c4b : decide (i4 < (l0.length : Int)) = true := decide_eq_true c4; clear c3 c4
    go_wp2_with (first | (go_at_call 46; (with_reducible refine (align_Lines.alone k1 gi gq ga gj gb (rd_T41 l2 x).f0 (rd_T41 l2 x).f1 i j (some ad0) cA l0 AB cB l1 q v _ _ _ _ w5 w2 HR0.out HR1.out HB.out hgi hgq hgj hij gp #[(.int .i64 (rd_T41 l2 x).f0), (.int .i64 (rd_T41 l2 x).f1)] 41 (by decide) (by decide) (by decide) HL.out HO.out E1.out E2.out).mono ?_); rintro e w3 ⟨rfl, v2, hL, hO, hB⟩; have HL := Aside0.mk hL; have HO := Aside0.mk hO; have HB := Aside0.mk hB; clear hL hO hB; clear hcp0 hcp1 hcr0 hcr1 hcr2 hcr3))
    have HL := Aside0.mk HL.out.drew; have HO := Aside0.mk (Kd.R_drew HO.out); have HB := Aside0.mk (below_drew1 HB.out); refine start_ (n := 10) (S := fun w' => w'.cell? ⟨gq, 0, none⟩ = some v2 ∧ w'.cell? ⟨ga, 0, none⟩ = some (.slice (some ad0) l0.length cA) ∧ w'.cell? ⟨gi, 0, none⟩ = some (.int .i64 i4) ∧ w'.cell? (ad0.add (i4.toNat * 2)) = some (.int .i64 (rd_T24 l0 i4).f0) ∧ w'.cell? ⟨(ad0.add (i4.toNat * 2)).block, (ad0.add (i4.toNat * 2)).off + 1, none⟩ = some (.int .i64 (rd_T24 l0 i4).f1)) (ds := [9]) #[false, false, false, false, false, false, false, false, false, false] (by kernel_rfl) rfl rfl ⟨(blk_cell HL.out.2.1 0).trans rfl, (blk_cell HL.out.2.2.1 0).trans rfl, (blk_cell HL.out.1 0).trans rfl, (HB.out.cell (World.block_lt_of_cell? w5 _ hy0)).trans hy0, (HB.out.cell (World.block_lt_of_cell? w5 _ hy1)).trans hy1⟩ (fun hHeld => ?_); refine with_tabW align_Lines.tabM13 align_Lines.bitsM13 (fun HT_ HW_ => ?_); generalize w3.drew = w25 at HL HO HB hHeld ⊢; refine take_ (i := 0) (N := some 71) (v := ?_) (a' := ?_) #[true, false, false, false, false, false, false, false, false, false] rfl rfl (take_ofW HT_.out HW_.out (by kernel_rfl)) (fun _ _ _ h => h) (Or.inl ⟨by rfl, ?_⟩) hHeld ?_ ?_; rotate_left
    ·rintro w' ⟨s0, s1, s2, s3, s4⟩; go_simp; with_reducible rfl
    rotate_left
    ·simp only [Act.put, List.setIfInBounds_toArray, List.set_cons_zero, List.set_cons_succ, i64_w, i32_w]; rfl
    refine take_ (i := 1) (N := some 72) (v := ?_) (a' := ?_) #[true, true, false, false, false, false, false, false, false, false] rfl rfl (take_ofW HT_.out HW_.out (by kernel_rfl)) (fun _ _ _ h => h) (Or.inl ⟨by rfl, ?_⟩) hHeld ?_ ?_; rotate_left
    ·rintro w' ⟨s0, s1, s2, s3, s4⟩; go_simp; with_reducible rfl
    rotate_left
    ·simp only [Act.put, List.setIfInBounds_toArray, List.set_cons_zero, List.set_cons_succ, i64_w, i32_w]; rfl
    refine take_ (i := 2) (N := some 73) (v := ?_) (a' := ?_) #[true, true, true, false, false, false, false, false, false, false] rfl rfl (take_ofW HT_.out HW_.out (by kernel_rfl)) (fun _ _ _ h => h) (Or.inl ⟨by rfl, ?_⟩) hHeld ?_ ?_; rotate_left
    ·rintro w' ⟨s0, s1, s2, s3, s4⟩; go_simp; with_reducible rfl
    rotate_left
    ·simp only [Act.put, List.setIfInBounds_toArray, List.set_cons_zero, List.set_cons_succ, i64_w, i32_w]; rfl
    refine pure_ (i := 3) (N := some 74) (v := ?_) (a' := ?_) #[true, true, true, true, false, false, false, false, false, false] rfl rfl (any_of HT_.out (by kernel_rfl)) (fun _ _ _ h => h) (Or.inl ⟨by rfl, ?_⟩) ?_ ?_; rotate_left
    ·intro w'; go_simp; with_reducible rfl
    rotate_left
    ·simp only [Act.put, List.setIfInBounds_toArray, List.set_cons_zero, List.set_cons_succ, i64_w, i32_w]; rfl
    refine take_ (i := 4) (N := some 75) (v := ?_) (a' := ?_) #[true, true, true, true, true, false, false, false, false, false] rfl rfl (take_ofW HT_.out HW_.out (by kernel_rfl)) (fun _ _ _ h => h) (Or.inl ⟨by rfl, ?_⟩) hHeld ?_ ?_; rotate_left
    ·rintro w' ⟨s0, s1, s2, s3, s4⟩; go_simp; with_reducible rfl
    rotate_left
    ·simp only [Act.put, List.setIfInBounds_toArray, List.set_cons_zero, List.set_cons_succ, i64_w, i32_w]; rfl
    refine one_ (i := 5) (N := some 76) #[true, true, true, true, true, true, false, false, false, false] rfl rfl (one_of HT_.out (by kernel_rfl)) (by decide) (fun K hK => ?_)
    refine goes_ Try.func15 (by kernel_rfl) rfl #[.agg #[.int .i64 (rd_T24 l0 i4).f0, .int .i64 (rd_T24 l0 i4).f1]] (by rfl) rfl rfl (by (try simp only [List.map_toArray, List.map_cons, List.map_nil]); first | done | rfl) ?_
    with_reducible refine (align_Text.calls k1 (rd_T24 l0 i4).f0 (rd_T24 l0 i4).f1 t _ A1.out).mono ?_
    rintro e w26 ⟨rfl, hb⟩; refine ⟨_, rfl, ?_⟩; have HL := Aside0.mk (HL.out.below hb); have HO := Aside0.mk (Kd.R_below HO.out hb); have HB := Aside0.mk (below_step HB.out hb); clear hb; refine hK.out _ _ ⟨(blk_cell HL.out.2.1 0).trans rfl, (blk_cell HL.out.2.2.1 0).trans rfl, (blk_cell HL.out.1 0).trans rfl, (HB.out.cell (World.block_lt_of_cell? w5 _ hy0)).trans hy0, (HB.out.cell (World.block_lt_of_cell? w5 _ hy1)).trans hy1⟩ (fun hHeld => ?_); clear hK K; refine norm_ (a' := ?_) ?_ ?_; rotate_left
    ·show Act.put _ (some 76) _ = _
     simp only [Act.put, List.setIfInBounds_toArray, List.set_cons_zero, List.set_cons_succ, i64_w, i32_w]; rfl
    refine pure_ (i := 6) (N := some 77) (v := ?_) (a' := ?_) #[true, true, true, true, true, true, true, false, false, false] rfl rfl (any_of HT_.out (by kernel_rfl)) (fun _ _ _ h => h) (Or.inl ⟨by rfl, ?_⟩) ?_ ?_; rotate_left
    ·intro w'; go_simp; with_reducible rfl
    rotate_left
    ·simp only [Act.put, List.setIfInBounds_toArray, List.set_cons_zero, List.set_cons_succ, i64_w, i32_w]; rfl
    refine one_ (i := 7) (N := some 78) #[true, true, true, true, true, true, true, true, false, false] rfl rfl (one_of HT_.out (by kernel_rfl)) (by decide) (fun K hK => ?_); refine value_ (w1 := ?_) (v := ?_) (by rfl) rfl ?_ ?_; rotate_left; rotate_left
    ·go_simp
     constructor
     ·rfl
     ·rfl
    have HLa := Aside0.mk (HL.out.below (below_alloc (Below.refl _ _) (.cells #[.string ((⟨#[32, 32]⟩ : ByteArray) ++ t)] 9))); have HBa := Aside0.mk (below_alloc HB.out (.cells #[.string ((⟨#[32, 32]⟩ : ByteArray) ++ t)] 9)); refine hK.out _ _ ⟨(blk_cell HLa.out.2.1 0).trans rfl, (blk_cell HLa.out.2.2.1 0).trans rfl, (blk_cell HLa.out.1 0).trans rfl, (HBa.out.cell (World.block_lt_of_cell? w5 _ hy0)).trans hy0, (HBa.out.cell (World.block_lt_of_cell? w5 _ hy1)).trans hy1⟩ (fun hHeld => ?_); clear hK K; refine norm_ (a' := ?_) ?_ ?_; rotate_left
    ·show Act.put _ (some 78) _ = _
     simp only [Act.put, List.setIfInBounds_toArray, List.set_cons_zero, List.set_cons_succ, i64_w, i32_w]; rfl
    refine one_ (i := 8) (N := some 79) #[true, true, true, true, true, true, true, true, true, false] rfl rfl (one_of HT_.out (by kernel_rfl)) (by decide) (fun K hK => ?_); refine Kd.R_append_step Kd.string (w0 := w5) w5.heap.size (by rfl) (.tmp 71) (.tmp 78) 61 9 (.string ⟨#[]⟩) 16 rfl Try.underlying61 info9 rfl (by decide) (by omega) v2 q5 ((⟨#[32, 32]⟩ : ByteArray) ++ t) [.string ((⟨#[32, 32]⟩ : ByteArray) ++ t)] (LOK gi gq gj) (fun _ => False) rfl rfl rfl (fun _ hk => hk.elim) ?aF HO.out HB.out (below_size HB.out) ?aL ?_
    (case aF => exact LOK_new HL.out)
    (case aL => have := LM.out; omega)
    intro v1 w27 ho hb hg hat; obtain ⟨Aq, cq, eq_⟩ := Kd.R_slice ho; subst eq_; generalize hnq_ : (q5 ++ [(⟨#[32, 32]⟩ : ByteArray) ++ t]).length = nq at ho hb hg hat ⊢; clear hnq_; have HL := Aside0.mk (HL.out.grown hg (Kd.R_ne HO.out HL.out.1 (by decide)) (Kd.R_ne HO.out HL.out.2.1 (by decide)) (Kd.R_ne HO.out HL.out.2.2.1 (by decide)) (Kd.R_ne HO.out HL.out.2.2.2.1 (by decide)) (Kd.R_ne HO.out HL.out.2.2.2.2.1 (by decide)) (Kd.R_ne HO.out HL.out.2.2.2.2.2 (by decide))); have HO := Aside0.mk ho; have HB := Aside0.mk hb; clear ho hb hg hat; refine hK.out _ _ ⟨(blk_cell HL.out.2.1 0).trans rfl, (blk_cell HL.out.2.2.1 0).trans rfl, (blk_cell HL.out.1 0).trans rfl, (HB.out.cell (World.block_lt_of_cell? w5 _ hy0)).trans hy0, (HB.out.cell (World.block_lt_of_cell? w5 _ hy1)).trans hy1⟩ (fun hHeld => ?_); clear hK K; refine norm_ (a' := ?_) ?_ ?_; rotate_left
    ·show Act.put _ (some 79) _ = _
     simp only [Act.put, List.setIfInBounds_toArray, List.set_cons_zero, List.set_cons_succ, i64_w, i32_w]; rfl
    refine last_ (i := 9) (N := none) #[true, true, true, true, true, true, true, true, true, true] rfl rfl (one_of HT_.out (by kernel_rfl)) (by decide) (fun K hK => ?_); have hcq : w27.cell? ⟨gq, 0, none⟩ = some v2 := (blk_cell HL.out.2.1 0).trans rfl; have hfq := blk_frozen HL.out.2.1 0; refine skip_ (w1 := ?_) (by rfl) rfl ?_ ?_; rotate_left
    ·go_simp; rfl
    refine hK.out _ _ ?_; clear hK K; refine done_ (done_of HT_.out (by kernel_rfl)) ?_; have HO := Aside0.mk (Kd.R_far (p := ⟨gq, 0, none⟩) HO.out (fun k hk => hk.2.1) (.slice Aq nq cq)); have HB := Aside0.mk (below_set (j := 0) (v := (.slice Aq nq cq)) HB.out hgq); have HL := Aside0.mk (HL.out.setQ (by decide) (.slice Aq nq cq)); have hci : (w27.setCell ⟨gq, 0, none⟩ (.slice Aq nq cq)).cell? ⟨gi, 0, none⟩ = some (.int .i64 i4) := (blk_cell HL.out.1 0).trans rfl; have hfi := blk_frozen HL.out.1 0; generalize w27.setCell ⟨gq, 0, none⟩ (.slice Aq nq cq) = w28 at HO HB HL hci hfi ⊢; clear hci hfi hHeld HT_ HW_; (try go_wp2); have HL := Aside0.mk HL.out.drew; have HO := Aside0.mk (Kd.R_drew HO.out); have HB := Aside0.mk (below_drew1 HB.out); refine start_ (n := 8) (S := fun w' => w'.cell? ⟨gp, 0, none⟩ = some (.int .i64 (rd_T41 l2 x).f0) ∧ w'.cell? ⟨gp, 1, none⟩ = some (.int .i64 (rd_T41 l2 x).f1)) (ds := [7]) #[false, false, false, false, false, false, false, false] (by kernel_rfl) rfl rfl ⟨(blk_cell HL.out.2.2.2.2.2 0).trans rfl, (blk_cell HL.out.2.2.2.2.2 1).trans rfl⟩ (fun hHeld => ?_); refine with_tabW align_Lines.tabM14 align_Lines.bitsM14 (fun HT_ HW_ => ?_); generalize w28.drew = w29 at HL HO HB hHeld ⊢; refine pure_ (i := 0) (N := some 80) (v := ?_) (a' := ?_) #[true, false, false, false, false, false, false, false] rfl rfl (any_of HT_.out (by kernel_rfl)) (fun _ _ _ h => h) (Or.inl ⟨by rfl, ?_⟩) ?_ ?_; rotate_left
    ·intro w'; go_simp; with_reducible rfl
    rotate_left
    ·simp only [Act.put, List.setIfInBounds_toArray, List.set_cons_zero, List.set_cons_succ, i64_w, i32_w]; rfl
    refine take_ (i := 1) (N := some 81) (v := ?_) (a' := ?_) #[true, true, false, false, false, false, false, false] rfl rfl (take_ofW HT_.out HW_.out (by kernel_rfl)) (fun _ _ _ h => h) (Or.inl ⟨by rfl, ?_⟩) hHeld ?_ ?_; rotate_left
    ·rintro w' ⟨s0, s1⟩; go_simp; with_reducible rfl
    rotate_left
    ·simp only [Act.put, List.setIfInBounds_toArray, List.set_cons_zero, List.set_cons_succ, i64_w, i32_w]; rfl
    refine pure_ (i := 2) (N := some 82) (v := ?_) (a' := ?_) #[true, true, true, false, false, false, false, false] rfl rfl (any_of HT_.out (by kernel_rfl)) (fun _ _ _ h => h) (Or.inl ⟨by rfl, ?_⟩) ?_ ?_; rotate_left
    ·intro w'; go_simp; with_reducible rfl
    rotate_left
    ·simp only [Act.put, List.setIfInBounds_toArray, List.set_cons_zero, List.set_cons_succ, i64_w, i32_w]; rfl
    refine pure_ (i := 3) (N := some 83) (v := ?_) (a' := ?_) #[true, true, true, true, false, false, false, false] rfl rfl (any_of HT_.out (by kernel_rfl)) (fun _ _ _ h => h) (Or.inl ⟨by rfl, ?_⟩) ?_ ?_; rotate_left
    ·intro w'; go_simp; with_reducible rfl
    rotate_left
    ·simp only [Act.put, List.setIfInBounds_toArray, List.set_cons_zero, List.set_cons_succ, i64_w, i32_w]; rfl
    refine take_ (i := 4) (N := some 84) (v := ?_) (a' := ?_) #[true, true, true, true, true, false, false, false] rfl rfl (take_ofW HT_.out HW_.out (by kernel_rfl)) (fun _ _ _ h => h) (Or.inl ⟨by rfl, ?_⟩) hHeld ?_ ?_; rotate_left
    ·rintro w' ⟨s0, s1⟩; go_simp; with_reducible rfl
    rotate_left
    ·simp only [Act.put, List.setIfInBounds_toArray, List.set_cons_zero, List.set_cons_succ, i64_w, i32_w]; rfl
    refine pure_ (i := 5) (N := some 85) (v := ?_) (a' := ?_) #[true, true, true, true, true, true, false, false] rfl rfl (any_of HT_.out (by kernel_rfl)) (fun _ _ _ h => h) (Or.inl ⟨by rfl, ?_⟩) ?_ ?_; rotate_left
    ·intro w'; go_simp; with_reducible rfl
    rotate_left
    ·simp only [Act.put, List.setIfInBounds_toArray, List.set_cons_zero, List.set_cons_succ, i64_w, i32_w]; rfl
    refine one_ (i := 6) (N := none) #[true, true, true, true, true, true, true, false] rfl rfl (one_of HT_.out (by kernel_rfl)) (by decide) (fun K hK => ?_); have hci : w29.cell? ⟨gi, 0, none⟩ = _ := (blk_cell HL.out.1 0).trans rfl; have hfi := blk_frozen HL.out.1 0; refine skip_ (w1 := ?_) (by rfl) rfl ?_ ?_; rotate_left
    ·go_simp; rfl
    clear hci hfi; have HL := Aside0.mk (HL.out.setI (by decide) hij (wrap64 ((rd_T41 l2 x).f0 + 1))); have HO := Aside0.mk (Kd.R_far (p := ⟨gi, 0, none⟩) HO.out (fun k hk => hk.1) (.int .i64 (wrap64 ((rd_T41 l2 x).f0 + 1)))); have HB := Aside0.mk (below_set (j := 0) (v := .int .i64 (wrap64 ((rd_T41 l2 x).f0 + 1))) HB.out hgi); refine hK.out _ _ ⟨(blk_cell HL.out.2.2.2.2.2 0).trans rfl, (blk_cell HL.out.2.2.2.2.2 1).trans rfl⟩ (fun hHeld => ?_); clear hK K; generalize w29.setCell ⟨gi, 0, none⟩ (.int .i64 (wrap64 ((rd_T41 l2 x).f0 + 1))) = w30 at HL HO HB hHeld ⊢; refine last_ (i := 7) (N := none) #[true, true, true, true, true, true, true, true] rfl rfl (one_of HT_.out (by kernel_rfl)) (by decide) (fun K hK => ?_); have hci : w30.cell? ⟨gj, 0, none⟩ = _ := (blk_cell HL.out.2.2.2.1 0).trans rfl; have hfi := blk_frozen HL.out.2.2.2.1 0; refine skip_ (w1 := ?_) (by rfl) rfl ?_ ?_; rotate_left
    ·go_simp; rfl
    clear hci hfi; refine hK.out _ _ ?_; clear hK K; refine done_ (done_of HT_.out (by kernel_rfl)) ?_; have HL := Aside0.mk (HL.out.setJ (by decide) hij (wrap64 ((rd_T41 l2 x).f1 + 1))); have HO := Aside0.mk (Kd.R_far (p := ⟨gj, 0, none⟩) HO.out (fun k hk => hk.2.2) (.int .i64 (wrap64 ((rd_T41 l2 x).f1 + 1)))); have HB := Aside0.mk (below_set (j := 0) (v := .int .i64 (wrap64 ((rd_T41 l2 x).f1 + 1))) HB.out hgj); generalize w30.setCell ⟨gj, 0, none⟩ (.int .i64 (wrap64 ((rd_T41 l2 x).f1 + 1))) = w31 at HL HO HB ⊢; (try go_wp2)
    go_roundg k1
    case measure => have := HK1.out; omega
    case rel => exact ⟨_, _, _, _, _, rfl, H', ⟨by have := HK1.out; omega⟩, ⟨HL.out.other (blk_below HBR5.out HB.out)⟩, HO, HB⟩
   ·rw [if_neg c1] at H; have c1b : decide (x < (l2.length : Int)) = false := decide_eq_false c1; clear c1; obtain ⟨rfl, rfl, rfl⟩ : q = q1 ∧ i = i1 ∧ j = j1 := by injection H with H; injection H with h1_ h2_; injection h2_ with h2_ h3_; exact ⟨h1_, h2_, h3_⟩
    clear H; have hcr1 : wr.cell? ⟨gr, 1, none⟩ = some (.int .i64 a3_1) := (blk_cell HL.out.2.2.2.2.2 1).trans rfl; have hcr3 : wr.cell? ⟨gr, 3, none⟩ = some (.int .i64 a3_3) := (blk_cell HL.out.2.2.2.2.2 3).trans rfl
    go_wp2_with (first | (go_at_call 46; (with_reducible refine (align_Lines.alone k gi gq ga gj gb a3_1 a3_3 i j AA cA l0 AB cB l1 q v _ _ _ _ w5 wr HR0.out HR1.out HB.out hgi hgq hgj hij gr #[.int .i64 a3_0, .int .i64 a3_1, .int .i64 a3_2, .int .i64 a3_3] 49 (by decide) (by decide) (by decide) HL.out HO.out A4_.out A5_.out).mono ?_); rintro e w32 ⟨rfl, v2, hL, hO, hB⟩; have HL := Aside0.mk hL; have HO := Aside0.mk hO; have HB := Aside0.mk hB; clear hL hO hB; clear hcr1 hcr3; have hcq : w32.cell? ⟨gq, 0, none⟩ = some v2 := (blk_cell HL.out.2.1 0).trans rfl))
    go_ret2; exact ⟨_, rfl, Kd.R_mono (Kd.R_lower HO.out (below_size H5.out)) (fun _ _ => trivial), below_step H5.out HB.out⟩

end Go.Proofs.Ythbgbeelcnfofaa.P
