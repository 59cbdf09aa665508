/- The heights of a code, and whether codes are sound: both programs say the same. -/
import Derived.Test.YtdbpdcjlbopkbaaDoorPx0
import Derived.Test.YtdbpdcjlbopkbaaDoorPx10
import Derived.Test.YtdbpdcjlbopkbaaDoorPx18
import Derived.Test.YtdbpdcjlbopkbaaDoorPx20
import Derived.Test.YtdbpdcjlbopkbaaDoorPx21
import Derived.Test.YtdbpdcjlbopkbaaDoorPx22
import Derived.Test.YtdbpdcjlbopkbaaDoorPx8
import Derived.Test.YtdbpdcjlbopkbaaDoorPx9
import Derived.Test.YtdbpdcjlbopkbaaDoorQMay
import Derived.Test.YtdbpdcjlbopkbaaDoorQRefHeights
-- use: QMay
-- use: QRefHeights
namespace Go.Proofs.YtdbpdcjlbopkbaaDoor.Q
set_option linter.unusedVariables false
set_option linter.unusedSimpArgs false
open Go.RowKit Go.Proofs.YtdbpdcjlbopkbaaDoorW.PrintWords Go.Proofs.YtdbpdcjlbopkbaaDoorW.PrintLast Go.Proofs.YtdbpdcjlbopkbaaDoorW.PrintMore Go.Proofs.YtdbpdcjlbopkbaaDoor.P

def FitI (ins : List Ins) : Prop := ∀ y ∈ ins, (Lit.int .i64 y.f0).wf = true ∧ ((Lit.int .i64 y.f1).wf = true ∧ (Lit.int .i64 y.f2).wf = true)
/-- What is asked of a code of its own. -/
def Sized (x : Cod) : Prop := 1 ≤ x.f0.length ∧ x.f0.length ≤ 65536 ∧ 0 ≤ x.f1 ∧ x.f1 ≤ 65536 ∧ 0 ≤ x.f2 ∧ x.f2 ≤ 8 ∧ x.f2 ≤ x.f1
def Shape (l : List Cod) (x : Cod) : Prop := Sized x ∧ ∀ y ∈ x.f0, May l x.f0 x.f1 x.f3 y.f0 y.f1 y.f2
theorem shape_valid {l : List Cod} {x : Cod} (h : Shape l x) : ∀ p, p < x.f0.length → Valid l.length x.f0.length (rdI x.f0 p) := fun p hp => by
  rw [rdI_at _ _ hp]
  exact may_valid l x.f0 x.f1 x.f3 (h.2 _ (List.getElem_mem hp))
def HTells (l : List Cod) (x : Cod) (r : List Int × Bool) : Prop :=
  (r.2 = true ∧ ∃ h : Shape l x, (net l x.f0 (shape_valid h)).True_ r.1 ∧ (net l x.f0 (shape_valid h)).Whole r.1) ∨ (r = ([], false) ∧ (¬ Shape l x ∨ ∃ h : Shape l x, (net l x.f0 (shape_valid h)).Bad))
theorem tells_same {l : List Cod} {x : Cod} {r s : List Int × Bool} (hr : HTells l x r) (hs : HTells l x s) : r = s := by
  rcases hr with ⟨r2, h, rT, rW⟩ | ⟨rfl, hr⟩
  · have h0 : 0 < (net l x.f0 (shape_valid h)).n := h.1.1
    rcases hs with ⟨s2, _, sT, sW⟩ | ⟨rfl, hs⟩
    · exact Prod.ext (Net.unique h0 rT rW sT sW) (r2.trans s2.symm)
    · rcases hs with hs | ⟨_, hs⟩
      · exact absurd h hs
      · exact absurd hs (Net.not_bad h0 rT rW)
  · rcases hs with ⟨s2, h, sT, sW⟩ | ⟨rfl, hs⟩
    · have h0 : 0 < (net l x.f0 (shape_valid h)).n := h.1.1
      rcases hr with hr | ⟨_, hr⟩
      · exact absurd h hr
      · exact absurd hr (Net.not_bad h0 sT sW)
    · rfl

/-! The first table. -/
def first (n : Nat) : List Int := (List.replicate n (-1 : Int)).set 0 0
theorem first_rd {n p : Nat} (hp : p < n) : rd (first n) (p : Int) = if p = 0 then 0 else -1 := by
  have hl : (first n).length = n := by simp [first]
  rw [rd_at (by omega)]
  unfold first
  rw [List.getElem_set]
  by_cases h : p = 0
  · subst h; rw [if_pos rfl, if_pos rfl]
  · rw [if_neg (fun h' => h h'.symm), if_neg h, List.getElem_replicate]
theorem first_true (N : Net) (h0 : 0 < N.n) : N.True_ (first N.n) := by
  refine ⟨by simp [first], ?_, fun p hp h => ?_, fun p hp h => ?_⟩
  · have := first_rd (n := N.n) (p := 0) h0
    rw [if_pos rfl] at this
    exact this
  · rw [first_rd hp] at h ⊢
    by_cases e : p = 0
    · subst e; rw [if_pos rfl]; exact .zero
    · rw [if_neg e] at h; omega
  · rw [first_rd hp] at h ⊢
    by_cases e : p = 0
    · rw [if_pos e] at h; omega
    · rw [if_neg e]
section
variable (l : List Cod) (ins : List Ins) (a b : Int) (c : Bool)
theorem init_loop (hn : ins.length ≤ 65536) (h1 : 1 ≤ ins.length) (r : Bool × List Int) (hr : Ev (fun k => code_checker_heights.l1 k [0] l ins a b c (first ins.length)) r) : ∀ (d i : Nat), i + d = ins.length →
    Ev (fun k => code_checker_heights.l0 k (ins.length : Int) (i : Int) l ins a b c (List.replicate i (-1))) r := by
  intro d
  induction d with
  | zero =>
    intro i hi
    obtain rfl : i = ins.length := by omega
    refine evs ?_
    have c1 := ff (Int.lt_irrefl (ins.length : Int))
    have c2 := tt (show (0 : Int) < ((List.replicate ins.length (-1 : Int)).length : Int) by rw [List.length_replicate]; omega)
    simp only [code_checker_heights.l0, c1, if_false, c2, if_true]
    exact hr
  | succ d ih =>
    intro i hi
    refine evs ?_
    have c1 := tt (show (i : Int) < (ins.length : Int) by omega)
    have c2 := tt (show (List.replicate i (-1 : Int)).length < 17592186044416 by rw [List.length_replicate]; omega)
    have b1 : i + 1 ≤ 1000000000000 := by omega
    simp only [code_checker_heights.l0, c1, c2, if_true, wsucc b1]
    rw [← List.replicate_succ']
    exact ih (i + 1) (by omega)
theorem rinit_loop (hn : ins.length ≤ 65536) (h1 : 1 ≤ ins.length) (r : List Int × Bool) (hr : Ev (fun k => parallaxref08_Heights.l1 k l (first ins.length) true ins a b c) r) : ∀ (d i : Nat), i + d = ins.length →
    Ev (fun k => parallaxref08_Heights.l0 k l (List.replicate i (-1)) (i : Int) ins a b c) r := by
  intro d
  induction d with
  | zero =>
    intro i hi
    obtain rfl : i = ins.length := by omega
    refine evs ?_
    have c1 := ff (Int.lt_irrefl (ins.length : Int))
    have c2 := tt (show (0 : Int) < ((List.replicate ins.length (-1 : Int)).length : Int) by rw [List.length_replicate]; omega)
    simp only [parallaxref08_Heights.l0, c1, if_false, c2, if_true]
    exact hr
  | succ d ih =>
    intro i hi
    refine evs ?_
    have c1 := tt (show (i : Int) < (ins.length : Int) by omega)
    have c2 := tt (show (List.replicate i (-1 : Int)).length < 17592186044416 by rw [List.length_replicate]; omega)
    have b1 : i + 1 ≤ 1000000000000 := by omega
    simp only [parallaxref08_Heights.l0, c1, c2, if_true, wsucc b1]
    rw [← List.replicate_succ']
    exact ih (i + 1) (by omega)
theorem left_le (H : List Int) : Net.left H ≤ H.length := List.countP_le_length
theorem checker_heights (hv : ∀ p, p < ins.length → Valid l.length ins.length (rdI ins p)) (hn : ins.length ≤ 65536) (h1 : 1 ≤ ins.length) : ∃ r, Ev (fun k => code_checker_heights.f k l ins a b c) r ∧ Tells (net l ins hv) r := by
  have hl : (first ins.length).length = ins.length := by simp [first]
  obtain ⟨r, h, ht⟩ := outer l ins a b c hv hn (1 + ins.length) [0] (first ins.length) (by omega) ⟨first_true (net l ins hv) h1, fun w hw => by
      simp at hw
      refine ⟨0, hw, h1, ?_⟩
      have := first_rd (n := ins.length) (p := 0) h1
      rw [this, if_pos rfl]
      decide,
    fun p hp h0 => by
      rw [show rd (first ins.length) (p : Int) = _ from first_rd hp] at h0
      by_cases e : p = 0
      · left; simp [e]
      · rw [if_neg e] at h0; omega⟩ (by have := left_le (first ins.length); simp only [List.length_cons, List.length_nil]; omega)
  exact ⟨r, init_loop l ins a b c hn h1 r h ins.length 0 (by omega), ht⟩
theorem ref_heights (hv : ∀ p, p < ins.length → Valid l.length ins.length (rdI ins p)) (hn : ins.length ≤ 65536) (h1 : 1 ≤ ins.length) : ∃ r, Ev (fun k => parallaxref08_Heights.l0 k l [] 0 ins a b c) r ∧ RTells (net l ins hv) r := by
  have hl : (first ins.length).length = ins.length := by simp [first]
  obtain ⟨r, h, ht⟩ := rouner l ins a b c hv hn ins.length true (first ins.length) (first_true (net l ins hv) h1) (fun _ => by have := left_le (first ins.length); omega) (fun h => by cases h)
  exact ⟨r, rinit_loop l ins a b c hn h1 r h ins.length 0 (by omega), ht⟩
end
/-- Whether each instruction may be. -/
def allMay (l : List Cod) (x : Cod) (ys : List Ins) : Bool := ys.all fun y => decide (May l x.f0 x.f1 x.f3 y.f0 y.f1 y.f2)
theorem all_shape {l : List Cod} {x : Cod} (hs : Sized x) : allMay l x x.f0 = true ↔ Shape l x := by
  unfold allMay Shape
  simp only [List.all_eq_true, decide_eq_true_eq]
  exact ⟨fun h => ⟨hs, h⟩, fun h => h.2⟩
section
variable (l : List Cod) (x : Cod) (hf : FitI x.f0) (hs : Sized x)
theorem own_loop (hf : FitI x.f0) (hs : Sized x) (r : Bool × List Int) (hr : Ev (fun k => code_checker_heights.f k l x.f0 x.f1 x.f2 x.f3) r) : ∀ (d i : Nat), i + d = x.f0.length →
    Ev (fun k => code_checker_own.l0 k x.f0 (x.f0.length : Int) (i : Int) l x.f0 x.f1 x.f2 x.f3) (if allMay l x (x.f0.drop i) = true then r else (false, [])) := by
  intro d
  induction d with
  | zero =>
    intro i hi
    obtain rfl : i = x.f0.length := by omega
    rw [List.drop_length]
    refine evs ?_
    have c1 := ff (Int.lt_irrefl (x.f0.length : Int))
    simp only [code_checker_own.l0, c1, if_false]
    exact Ev.bind hr (Ev.now _)
  | succ d ih =>
    intro i hi
    have hlt : i < x.f0.length := by omega
    have c1 := tt (show (i : Int) < (x.f0.length : Int) by omega)
    have c2 := tt (show (0 : Int) ≤ (i : Int) by omega)
    have b1 : i + 1 ≤ 1000000000000 := by have := hs.2.1; omega
    obtain ⟨_, y1, y2⟩ := hf _ (List.getElem_mem hlt)
    obtain ⟨n0, n1⟩ := wf64 y1
    obtain ⟨m0, m1⟩ := wf64 y2
    rw [List.drop_eq_getElem_cons hlt]
    have g := rdI_at x.f0 i hlt
    have := ih (i + 1) (by omega)
    refine evs ?_
    simp only [code_checker_own.l0, c1, c2, if_true, wsucc b1]
    rw [show rd_T23 x.f0 (i : Int) = x.f0[i] from g]
    refine Ev.bind (may_ok l x.f0 x.f1 x.f2 x.f3 _ _ _ n0 n1 m0 m1 hs.2.2.1 hs.2.2.2.1) ?_
    unfold allMay
    rw [List.all_cons]
    cases h : decide (May l x.f0 x.f1 x.f3 (x.f0[i]).f0 (x.f0[i]).f1 (x.f0[i]).f2) with
    | true =>
      simp only [if_true, Bool.true_and]
      exact this
    | false =>
      have c3 := ff (show ¬ (false = true) by decide)
      simp only [c3, if_false, Bool.false_and]
      exact Ev.now _
theorem shape_loop (hf : FitI x.f0) (hs : Sized x) : ∀ (d i : Nat), i + d = x.f0.length →
    Ev (fun k => parallaxref08_shape.l0 k l (x.f0.length : Int) (i : Int) x.f0 x.f1 x.f2 x.f3) (allMay l x (x.f0.drop i)) := by
  intro d
  induction d with
  | zero =>
    intro i hi
    obtain rfl : i = x.f0.length := by omega
    rw [List.drop_length]
    refine evs ?_
    have c1 := ff (Int.lt_irrefl (x.f0.length : Int))
    simp only [parallaxref08_shape.l0, c1, if_false]
    exact Ev.now _
  | succ d ih =>
    intro i hi
    have hlt : i < x.f0.length := by omega
    have c1 := tt (show (i : Int) < (x.f0.length : Int) by omega)
    have c2 := tt (show (0 : Int) ≤ (i : Int) by omega)
    have b1 : i + 1 ≤ 1000000000000 := by have := hs.2.1; omega
    obtain ⟨_, y1, y2⟩ := hf _ (List.getElem_mem hlt)
    obtain ⟨n0, n1⟩ := wf64 y1
    obtain ⟨m0, m1⟩ := wf64 y2
    rw [List.drop_eq_getElem_cons hlt]
    have g := rdI_at x.f0 i hlt
    have := ih (i + 1) (by omega)
    refine evs ?_
    simp only [parallaxref08_shape.l0, c1, c2, if_true, wsucc b1]
    rw [show rd_T23 x.f0 (i : Int) = x.f0[i] from g]
    refine Ev.bind (rmay_ok l x.f0 x.f1 x.f2 x.f3 _ _ _ n0 n1 m0 m1 hs.2.2.1 hs.2.2.2.1) ?_
    unfold allMay
    rw [List.all_cons]
    cases h : decide (May l x.f0 x.f1 x.f3 (x.f0[i]).f0 (x.f0[i]).f1 (x.f0[i]).f2) with
    | true =>
      simp only [if_true, Bool.true_and]
      exact this
    | false =>
      have c3 := ff (show ¬ (false = true) by decide)
      simp only [c3, if_false, Bool.false_and]
      exact Ev.now _
theorem own_j0 (r : Bool × List Int) (bad : Bool) (h : Ev (fun k => code_checker_own.l0 k x.f0 (x.f0.length : Int) 0 l x.f0 x.f1 x.f2 x.f3) r) :
    Ev (fun k => code_checker_own.j0 k bad l x.f0 x.f1 x.f2 x.f3 x.f0 x.f1 x.f2 x.f3) (if bad = true then (false, []) else r) := by
  refine evs ?_
  cases bad with
  | true => simp only [code_checker_own.j0, if_true]; exact Ev.now _
  | false =>
    have c3 := ff (show ¬ (false = true) by decide)
    simp only [code_checker_own.j0, c3, if_false]; exact h
theorem own_bad : Ev (fun k => code_checker_own.j0 k true l x.f0 x.f1 x.f2 x.f3 x.f0 x.f1 x.f2 x.f3) (false, []) := by
  refine evs ?_
  simp only [code_checker_own.j0, if_true]; exact Ev.now _
theorem own_ok (hf : FitI x.f0) : ∃ r, Ev (fun k => code_checker_own.f k l x.f0 x.f1 x.f2 x.f3) r ∧ ((r.1 = true ∧ ∃ h : Shape l x, (net l x.f0 (shape_valid h)).True_ r.2 ∧ (net l x.f0 (shape_valid h)).Whole r.2) ∨ (r.1 = false ∧ (¬ Shape l x ∨ ∃ h : Shape l x, (net l x.f0 (shape_valid h)).Bad))) := by
  unfold code_checker_own.f
  by_cases hs : Sized x
  · obtain ⟨s0, s1, s2, s3, s4, s5, s6⟩ := id hs
    have d1 := ff (show ¬ (x.f0.length : Int) < 1 by omega)
    have d2 := ff (show ¬ (x.f0.length : Int) > 65536 by omega)
    have d3 := ff (show ¬ x.f1 < 0 by omega)
    have d4 := ff (show ¬ x.f1 > 65536 by omega)
    have d5 := ff (show ¬ x.f2 < 0 by omega)
    have d6 := ff (show ¬ x.f2 > 8 by omega)
    have d7 : decide (x.f2 > x.f1) = false := decide_eq_false (by omega)
    simp only [d1, d2, d3, d4, d5, d6, if_false, d7]
    by_cases hm : allMay l x x.f0 = true
    · have hsh := (all_shape hs).1 hm
      obtain ⟨r, hr, ht⟩ := checker_heights l x.f0 x.f1 x.f2 x.f3 (shape_valid hsh) s1 s0
      have h1 := own_loop l x hf hs r hr x.f0.length 0 (by omega)
      rw [List.drop_zero, if_pos hm] at h1
      have h2 := own_j0 l x r false h1
      refine ⟨r, h2, ?_⟩
      rcases ht with ⟨a, b, c⟩ | ⟨a, b⟩
      · exact .inl ⟨a, hsh, b, c⟩
      · exact .inr ⟨a, .inr ⟨hsh, b⟩⟩
    · have hnot : ¬ Shape l x := fun h => hm ((all_shape hs).2 h)
      have h1 : Ev (fun k => code_checker_own.l0 k x.f0 (x.f0.length : Int) 0 l x.f0 x.f1 x.f2 x.f3) (false, []) := by
        have hstop : ∀ (d i : Nat), i + d = x.f0.length → allMay l x (x.f0.drop i) = false → Ev (fun k => code_checker_own.l0 k x.f0 (x.f0.length : Int) (i : Int) l x.f0 x.f1 x.f2 x.f3) (false, []) := by
          intro d
          induction d with
          | zero =>
            intro i hi hfa
            obtain rfl : i = x.f0.length := by omega
            rw [List.drop_length] at hfa
            cases hfa
          | succ d ih =>
            intro i hi hfa
            have hlt : i < x.f0.length := by omega
            have c1 := tt (show (i : Int) < (x.f0.length : Int) by omega)
            have c2 := tt (show (0 : Int) ≤ (i : Int) by omega)
            have b1 : i + 1 ≤ 1000000000000 := by omega
            obtain ⟨_, y1, y2⟩ := hf _ (List.getElem_mem hlt)
            obtain ⟨n0, n1⟩ := wf64 y1
            obtain ⟨m0, m1⟩ := wf64 y2
            rw [List.drop_eq_getElem_cons hlt] at hfa
            have g := rdI_at x.f0 i hlt
            refine evs ?_
            simp only [code_checker_own.l0, c1, c2, if_true, wsucc b1]
            rw [show rd_T23 x.f0 (i : Int) = x.f0[i] from g]
            refine Ev.bind (may_ok l x.f0 x.f1 x.f2 x.f3 _ _ _ n0 n1 m0 m1 s2 s3) ?_
            unfold allMay at hfa
            rw [List.all_cons] at hfa
            cases h : decide (May l x.f0 x.f1 x.f3 (x.f0[i]).f0 (x.f0[i]).f1 (x.f0[i]).f2) with
            | true =>
              rw [h, Bool.true_and] at hfa
              simp only [if_true]
              exact ih (i + 1) (by omega) hfa
            | false =>
              have c3 := ff (show ¬ (false = true) by decide)
              simp only [c3, if_false]
              exact Ev.now _
        exact hstop x.f0.length 0 (by omega) (by rw [List.drop_zero]; simpa using hm)
      exact ⟨(false, []), own_j0 l x (false, []) false h1, .inr ⟨rfl, .inl hnot⟩⟩
  · refine ⟨(false, []), ?_, .inr ⟨rfl, .inl (fun h => hs h.1)⟩⟩
    have hb := own_bad l x
    by_cases d1 : (x.f0.length : Int) < 1
    · simp only [tt d1, if_true]; exact hb
    by_cases d2 : (x.f0.length : Int) > 65536
    · simp only [ff d1, if_false, tt d2, if_true]; exact hb
    by_cases d3 : x.f1 < 0
    · simp only [ff d1, ff d2, if_false, tt d3, if_true]; exact hb
    by_cases d4 : x.f1 > 65536
    · simp only [ff d1, ff d2, ff d3, if_false, tt d4, if_true]; exact hb
    by_cases d5 : x.f2 < 0
    · simp only [ff d1, ff d2, ff d3, ff d4, if_false, tt d5, if_true]; exact hb
    by_cases d6 : x.f2 > 8
    · simp only [ff d1, ff d2, ff d3, ff d4, ff d5, if_false, tt d6, if_true]; exact hb
    have d7 : decide (x.f2 > x.f1) = true := decide_eq_true (by
      by_cases h : x.f2 ≤ x.f1
      · exact absurd ⟨by omega, by omega, by omega, by omega, by omega, by omega, h⟩ hs
      · omega)
    simp only [ff d1, ff d2, ff d3, ff d4, ff d5, ff d6, if_false, d7]; exact hb
theorem shape_bad (n : Int) : Ev (fun k => parallaxref08_shape.j0 k l n true x.f0 x.f1 x.f2 x.f3) false := by
  refine evs ?_
  simp only [parallaxref08_shape.j0, if_true]; exact Ev.now _
theorem shape_ok (hf : FitI x.f0) : ∃ r, Ev (fun k => parallaxref08_shape.f k l x.f0 x.f1 x.f2 x.f3) r ∧ (r = true ↔ Shape l x) := by
  unfold parallaxref08_shape.f
  by_cases hs : Sized x
  · obtain ⟨s0, s1, s2, s3, s4, s5, s6⟩ := id hs
    have d1 := ff (show ¬ (x.f0.length : Int) = 0 by omega)
    have d2 := ff (show ¬ (x.f0.length : Int) > 65536 by omega)
    have d3 := ff (show ¬ x.f1 < 0 by omega)
    have d4 := ff (show ¬ x.f1 > 65536 by omega)
    have d5 := ff (show ¬ x.f2 < 0 by omega)
    have d6 := ff (show ¬ x.f2 > 8 by omega)
    have d7 : decide (x.f2 > x.f1) = false := decide_eq_false (by omega)
    simp only [d1, d2, d3, d4, d5, d6, if_false, d7]
    have h1 := shape_loop l x hf hs x.f0.length 0 (by omega)
    rw [List.drop_zero] at h1
    refine ⟨allMay l x x.f0, ?_, all_shape hs⟩
    refine evs ?_
    have c3 := ff (show ¬ (false = true) by decide)
    simp only [parallaxref08_shape.j0, c3, if_false]
    exact h1
  · refine ⟨false, ?_, ⟨(fun h => by cases h), fun h => absurd h.1 hs⟩⟩
    have hb := shape_bad l x (x.f0.length : Int)
    by_cases d1 : (x.f0.length : Int) = 0
    · rw [d1] at hb
      simp only [tt d1, if_true, d1]; exact hb
    by_cases d2 : (x.f0.length : Int) > 65536
    · simp only [ff d1, if_false, tt d2, if_true]; exact hb
    by_cases d3 : x.f1 < 0
    · simp only [ff d1, ff d2, if_false, tt d3, if_true]; exact hb
    by_cases d4 : x.f1 > 65536
    · simp only [ff d1, ff d2, ff d3, if_false, tt d4, if_true]; exact hb
    by_cases d5 : x.f2 < 0
    · simp only [ff d1, ff d2, ff d3, ff d4, if_false, tt d5, if_true]; exact hb
    by_cases d6 : x.f2 > 8
    · simp only [ff d1, ff d2, ff d3, ff d4, ff d5, if_false, tt d6, if_true]; exact hb
    have d7 : decide (x.f2 > x.f1) = true := decide_eq_true (by
      by_cases h : x.f2 ≤ x.f1
      · exact absurd ⟨by omega, by omega, by omega, by omega, by omega, by omega, h⟩ hs
      · omega)
    simp only [ff d1, ff d2, ff d3, ff d4, ff d5, ff d6, if_false, d7]; exact hb
end
def FitC (l : List Cod) : Prop := ∀ x ∈ l, FitI x.f0
theorem fit_at {l : List Cod} (hf : FitC l) (k : Nat) (hk : k < l.length) : FitI (rdC l k).f0 := by
  rw [rdC_at _ _ hk]
  exact hf _ (List.getElem_mem hk)
theorem Heights_ok (l : List Cod) (hf : FitC l) (k : Nat) (hk : k < l.length) : ∃ r, Ev (fun n => code_Heights.f n l k) r ∧ HTells l (rdC l k) r := by
  obtain ⟨r, hr, ht⟩ := own_ok l (rdC l k) (fit_at hf k hk)
  have d1 := ff (show ¬ (k : Int) < 0 by omega)
  have d2 : decide ((k : Int) ≥ (l.length : Int)) = false := decide_eq_false (by omega)
  have d3 := tt (show (0 : Int) ≤ (k : Int) by omega)
  have d4 := tt (show (k : Int) < (l.length : Int) by omega)
  have c3 := ff (show ¬ (false = true) by decide)
  unfold code_Heights.f
  simp only [d1, if_false, d2]
  rcases ht with ⟨a, h, b, c⟩ | ⟨a, b⟩
  · refine ⟨(r.2, true), ?_, .inl ⟨rfl, h, b, c⟩⟩
    refine evs ?_
    simp only [code_Heights.j0, c3, if_false, d3, d4, if_true]
    refine Ev.bind hr ?_
    simp only [tt a, if_true]
    exact Ev.now _
  · refine ⟨([], false), ?_, .inr ⟨rfl, b⟩⟩
    refine evs ?_
    simp only [code_Heights.j0, c3, if_false, d3, d4, if_true]
    refine Ev.bind hr ?_
    simp only [ff (show ¬ r.1 = true by rw [a]; decide), if_false]
    exact Ev.now _
theorem refHeights_ok (l : List Cod) (hf : FitC l) (k : Nat) (hk : k < l.length) : ∃ r, Ev (fun n => parallaxref08_Heights.f n l k) r ∧ HTells l (rdC l k) r := by
  obtain ⟨s, hs, hsi⟩ := shape_ok l (rdC l k) (fit_at hf k hk)
  have d1 := ff (show ¬ (k : Int) < 0 by omega)
  have d2 := ff (show ¬ (k : Int) ≥ (l.length : Int) by omega)
  have d3 := tt (show (0 : Int) ≤ (k : Int) by omega)
  have d4 := tt (show (k : Int) < (l.length : Int) by omega)
  have c3 := ff (show ¬ (false = true) by decide)
  unfold parallaxref08_Heights.f
  simp only [d1, if_false, d2, d3, d4, if_true]
  cases s with
  | true =>
    have h := hsi.1 rfl
    obtain ⟨r, hr, ht⟩ := ref_heights l (rdC l k).f0 (rdC l k).f1 (rdC l k).f2 (rdC l k).f3 (shape_valid h) h.1.2.1 h.1.1
    refine ⟨r, ?_, ?_⟩
    · refine Ev.bind hs (evs ?_)
      simp only [parallaxref08_Heights.j0, Bool.not_true, c3, if_false, d3, d4, if_true]
      exact hr
    · rcases ht with ⟨a, b, c⟩ | ⟨a, b⟩
      · exact .inl ⟨a, h, b, c⟩
      · exact .inr ⟨a, .inr ⟨h, b⟩⟩
  | false =>
    refine ⟨([], false), ?_, .inr ⟨rfl, .inl (fun h => by have := hsi.2 h; cases this)⟩⟩
    refine Ev.bind hs (evs ?_)
    simp only [parallaxref08_Heights.j0, Bool.not_false, if_true]
    exact Ev.now _
/-- Both programs say the same of a code's heights. -/
theorem Heights_both (l : List Cod) (hf : FitC l) (k : Nat) (hk : k < l.length) : ∃ r, Ev (fun n => code_Heights.f n l k) r ∧ Ev (fun n => parallaxref08_Heights.f n l k) r ∧ HTells l (rdC l k) r := by
  obtain ⟨r, h1, h2⟩ := Heights_ok l hf k hk
  obtain ⟨s, h3, h4⟩ := refHeights_ok l hf k hk
  have := tells_same h2 h4
  subst this
  exact ⟨r, h1, h3, h2⟩
theorem sound_loop (l : List Cod) (hf : FitC l) (hl : l.length ≤ 1000) : ∀ (d i : Nat), i + d = l.length → ∃ r, Ev (fun n => code_Sound.l0 n l (l.length : Int) (i : Int)) r ∧ Ev (fun n => parallaxref08_Sound.l0 n l (i : Int)) r ∧ (r = true ↔ ∀ k, i ≤ k → k < l.length → ∃ t, HTells l (rdC l k) t ∧ t.2 = true) := by
  intro d
  induction d with
  | zero =>
    intro i hi
    obtain rfl : i = l.length := by omega
    have c1 := ff (Int.lt_irrefl (l.length : Int))
    refine ⟨true, evs ?_, evs ?_, fun _ k h1 h2 => by omega, fun _ => rfl⟩
    · simp only [code_Sound.l0, c1, if_false]; exact Ev.now _
    · simp only [parallaxref08_Sound.l0, c1, if_false]; exact Ev.now _
  | succ d ih =>
    intro i hi
    obtain ⟨t, h1, h2, h3⟩ := Heights_both l hf i (by omega)
    have c1 := tt (show (i : Int) < (l.length : Int) by omega)
    have b1 : i + 1 ≤ 1000000000000 := by omega
    obtain ⟨r, r1, r2, r3⟩ := ih (i + 1) (by omega)
    by_cases ht : t.2 = true
    · refine ⟨r, evs ?_, evs ?_, ?_⟩
      · simp only [code_Sound.l0, c1, if_true, wsucc b1]
        refine Ev.bind h1 ?_
        simp only [tt ht, if_true]; exact r1
      · simp only [parallaxref08_Sound.l0, c1, if_true, wsucc b1]
        refine Ev.bind h2 ?_
        simp only [tt ht, if_true]; exact r2
      · rw [r3]
        refine ⟨fun h k h1 h2 => ?_, fun h k h1 h2 => h k (by omega) h2⟩
        by_cases e : k = i
        · subst e; exact ⟨t, h3, ht⟩
        · exact h k (by omega) h2
    · refine ⟨false, evs ?_, evs ?_, (fun h => by cases h), fun h => ?_⟩
      · simp only [code_Sound.l0, c1, if_true]
        refine Ev.bind h1 ?_
        simp only [ff ht, if_false]; exact Ev.now _
      · simp only [parallaxref08_Sound.l0, c1, if_true]
        refine Ev.bind h2 ?_
        simp only [ff ht, if_false]; exact Ev.now _
      · obtain ⟨u, hu, hu2⟩ := h i (by omega) (by omega)
        rw [tells_same h3 hu] at ht
        exact absurd hu2 ht
/-- Whether codes are sound. -/
def SoundP (l : List Cod) (m : Int) : Prop := (1 ≤ l.length ∧ l.length ≤ 40 ∧ 0 ≤ m ∧ m < (l.length : Int) ∧ (rdC l m).f2 = 0 ∧ (rdC l m).f3 = false) ∧ ∀ k, k < l.length → ∃ t, HTells l (rdC l k) t ∧ t.2 = true
theorem Sound_both (l : List Cod) (hf : FitC l) (m : Int) : ∃ r, Ev (fun n => code_Sound.f n l m) r ∧ Ev (fun n => parallaxref08_Sound.f n l m) r ∧ (r = true ↔ SoundP l m) := by
  have cb : ∀ l, Ev (fun n => code_Sound.j0 n l true) false := fun l => evs (by simp only [code_Sound.j0, if_true]; exact Ev.now _)
  have rb : ∀ l, Ev (fun n => parallaxref08_Sound.j0 n l true) false := fun l => evs (by simp only [parallaxref08_Sound.j0, if_true]; exact Ev.now _)
  unfold code_Sound.f parallaxref08_Sound.f
  by_cases d1 : l.length = 0
  · refine ⟨false, ?_, ?_, (fun h => by cases h), fun h => by have := h.1.1; omega⟩
    · simp only [tt (show (l.length : Int) < 1 by omega), if_true]; exact cb l
    · simp only [tt (show (l.length : Int) = 0 by omega), if_true]; exact rb l
  have e1 := ff (show ¬ (l.length : Int) < 1 by omega)
  have e1' := ff (show ¬ (l.length : Int) = 0 by omega)
  by_cases d2 : (l.length : Int) > 40
  · refine ⟨false, ?_, ?_, (fun h => by cases h), fun h => by have := h.1.2.1; omega⟩
    · simp only [e1, if_false, tt d2, if_true]; exact cb l
    · simp only [e1', if_false, tt d2, if_true]; exact rb l
  by_cases d3 : m < 0
  · refine ⟨false, ?_, ?_, (fun h => by cases h), fun h => by have := h.1.2.2.1; omega⟩
    · simp only [e1, if_false, ff d2, tt d3, if_true]; exact cb l
    · simp only [e1', if_false, ff d2, tt d3, if_true]; exact rb l
  by_cases d4 : m ≥ (l.length : Int)
  · refine ⟨false, ?_, ?_, (fun h => by cases h), fun h => by have := h.1.2.2.2.1; omega⟩
    · simp only [e1, if_false, ff d2, ff d3, tt d4, if_true]; exact cb l
    · simp only [e1', if_false, ff d2, ff d3, tt d4, if_true]; exact rb l
  have e5 := tt (show 0 ≤ m by omega)
  have e6 := tt (show m < (l.length : Int) by omega)
  by_cases d5 : (rd_T33 l m).f2 = 0
  · cases d6 : (rd_T33 l m).f3 with
    | true =>
      refine ⟨false, ?_, ?_, (fun h => by cases h), fun h => by have h9 := h.1.2.2.2.2.2; rw [show (rdC l m).f3 = true from d6] at h9; cases h9⟩
      · simp only [e1, if_false, ff d2, ff d3, ff d4, e5, e6, tt d5, if_true, d6]; exact cb l
      · simp only [e1', if_false, ff d2, ff d3, ff d4, e5, e6, tt d5, if_true, d6]; exact rb l
    | false =>
      have c3 := ff (show ¬ (false = true) by decide)
      obtain ⟨r, r1, r2, r3⟩ := sound_loop l hf (by omega) l.length 0 (by omega)
      refine ⟨r, ?_, ?_, ?_⟩
      · simp only [e1, if_false, ff d2, ff d3, ff d4, e5, e6, tt d5, if_true, d6]
        refine evs ?_
        simp only [code_Sound.j0, c3, if_false]; exact r1
      · simp only [e1', if_false, ff d2, ff d3, ff d4, e5, e6, tt d5, if_true, d6]
        refine evs ?_
        simp only [parallaxref08_Sound.j0, c3, if_false]; exact r2
      · rw [r3]
        exact ⟨fun h => ⟨⟨by omega, by omega, by omega, by omega, d5, d6⟩, fun k hk => h k (by omega) hk⟩, fun h k _ hk => h.2 k hk⟩
  · refine ⟨false, ?_, ?_, (fun h => by cases h), fun h => absurd h.1.2.2.2.2.1 d5⟩
    · simp only [e1, if_false, ff d2, ff d3, ff d4, e5, e6, ff d5, if_true]; exact cb l
    · simp only [e1', if_false, ff d2, ff d3, ff d4, e5, e6, ff d5, if_true]; exact rb l
/-- How many instructions codes have: the count ends. -/
theorem Size_ok (l : List Cod) (hl : l.length ≤ 10000000000000) (hb : ∀ x ∈ l, x.f0.length ≤ 1000000000000000) (most : Int) (hm : most ≤ 1000000) : ∃ r, Ev (fun k => parallaxref08_Size.f k l most) r := by
  have loop : ∀ (d i : Nat) (n : Int), i + d = l.length → -1 ≤ n → n ≤ 2000000000000000 → ∃ r, Ev (fun k => parallaxref08_Size.l0 k l most n i) r := by
    intro d
    induction d with
    | zero =>
      intro i n hi h0 h1
      obtain rfl : i = l.length := by omega
      refine ⟨n, evs ?_⟩
      have c1 := ff (Int.lt_irrefl (l.length : Int))
      simp only [parallaxref08_Size.l0, c1, if_false]; exact Ev.now _
    | succ d ih =>
      intro i n hi h0 h1
      have c1 := tt (show (i : Int) < (l.length : Int) by omega)
      have c2 := tt (show (0 : Int) ≤ (i : Int) by omega)
      by_cases h : n ≤ most
      · have g := rdC_at l i (by omega)
        have hx := hb _ (List.getElem_mem (show i < l.length by omega))
        have e : wrap64 (wrap64 (n + 1) + ((rd_T33 l (i : Int)).f0.length : Int)) = n + 1 + (((l[i]'(by omega)).f0.length : Nat) : Int) := by
          rw [show rd_T33 l (i : Int) = l[i] from g, w64 (n := n + 1) (by omega) (by omega), w64 (by omega) (by omega)]
        have e2 : wrap64 ((i : Int) + 1) = ((i + 1 : Nat) : Int) := by rw [w64 (by omega) (by omega)]; rfl
        obtain ⟨r, hr⟩ := ih (i + 1) (n + 1 + (((l[i]'(by omega)).f0.length : Nat) : Int)) (by omega) (by omega) (by omega)
        refine ⟨r, evs ?_⟩
        simp only [parallaxref08_Size.l0, c1, if_true, tt h, c2, e, e2]
        exact hr
      · refine ⟨n, evs ?_⟩
        simp only [parallaxref08_Size.l0, c1, if_true, ff h, if_false]; exact Ev.now _
  exact loop l.length 0 0 (by omega) (by omega) (by omega)
theorem great_ok (l : List Cod) (hl : l.length ≤ 10000000000000) (hb : ∀ x ∈ l, x.f0.length ≤ 1000000000000000) : ∃ r, Ev (fun k => parallaxlaw08_great.f k l) r := by
  obtain ⟨r, hr⟩ := Size_ok l hl hb 1500 (by omega)
  obtain ⟨s, hs⟩ := Size_ok l hl hb 70000 (by omega)
  unfold parallaxlaw08_great.f
  by_cases h : r > 1500
  · by_cases h2 : s ≤ 70000
    · refine ⟨true, Ev.bind hr ?_⟩
      simp only [tt h, if_true]
      refine Ev.bind hs ?_
      simp only [tt h2, if_true]; exact Ev.now _
    · refine ⟨decide ((l.length : Int) > 100), Ev.bind hr ?_⟩
      simp only [tt h, if_true]
      refine Ev.bind hs ?_
      simp only [ff h2, if_false]; exact Ev.now _
  · refine ⟨decide ((l.length : Int) > 100), Ev.bind hr ?_⟩
    simp only [ff h, if_false]; exact Ev.now _
end Go.Proofs.YtdbpdcjlbopkbaaDoor.Q
