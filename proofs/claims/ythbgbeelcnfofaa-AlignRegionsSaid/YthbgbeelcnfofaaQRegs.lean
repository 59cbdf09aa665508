/- The gaps of a matching: plain Lean, and what the program says of them. -/
import Derived.Test.YthbgbeelcnfofaaPx0
import Derived.Test.YthbgbeelcnfofaaPx8
import Derived.Test.YthbgbeelcnfofaaPx9
import Derived.Test.YthbgbeelcnfofaaQBase
import Derived.Test.YthbgbeelcnfofaaQUp
-- use: QBase
-- use: QUp
namespace Go.Proofs.Ythbgbeelcnfofaa.Q
set_option linter.unusedVariables false
set_option linter.unusedSimpArgs false
open Go.RowKit Go.Proofs.YthbgbeelcnfofaaW.PrintWords Go.Proofs.YthbgbeelcnfofaaW.PrintLast Go.Proofs.YthbgbeelcnfofaaW.PrintMore Go.Proofs.Ythbgbeelcnfofaa.P

def hole (fa ta fb tb : Int) : List S49 := if fa < ta ∨ fb < tb then [⟨fa, ta, fb, tb⟩] else []
/-- The gaps from two indices on. -/
def regs (n m : Int) : Int → Int → List S41 → List S49
  | fa, fb, [] => hole fa n fb m
  | fa, fb, x :: l => hole fa x.f0 fb x.f1 ++ regs n m (x.f0 + 1) (x.f1 + 1) l
theorem gap_ok (a b c d : Int) : align_gap.f a b c d = some (decide (a < b ∨ c < d)) := by
  unfold align_gap.f
  by_cases h : a < b
  · rw [if_pos h, decide_eq_true (.inl h)]
  · rw [if_neg h]
    congr 1
    simp [h]
theorem Regions_loop (n m : Int) (l : List S41) (hn : n ≤ 9223372036854775807) (hm : m ≤ 9223372036854775807) (hl : l.length ≤ 1000000) : ∀ (d i : Nat) (out : List S49) (p q fa ta fb tb : Int), i + d = l.length → out.length ≤ i → -1 ≤ p → -1 ≤ q → up n m p q (l.drop i) = true →
    Ev (fun k => align_Regions.l0 k n m out l (l.length : Int) (i : Int) fa ta fb tb) (out ++ regs n m fa fb (l.drop i), 0) := by
  intro d
  induction d with
  | zero =>
    intro i out p q fa ta fb tb hi ho hp hq hu
    obtain rfl : i = l.length := by omega
    rw [List.drop_length]
    have c1 := ff (Int.lt_irrefl (l.length : Int))
    have c2 := tt (show out.length < 4398046511104 by omega)
    refine evs ?_
    simp only [align_Regions.l0, c1, if_false, gap_ok]
    refine Ev.bind (Ev.now _) ?_
    unfold regs hole
    by_cases h : fa < n ∨ fb < m
    · rw [if_pos h, decide_eq_true h]
      simp only [c2, if_true]
      exact Ev.now _
    · rw [if_neg h, decide_eq_false h, List.append_nil]
      simp only [Bool.false_eq_true, if_false]
      exact Ev.now _
  | succ d ih =>
    intro i out p q fa ta fb tb hi ho hp hq hu
    rw [drop41 l i (by omega)] at hu ⊢
    obtain ⟨⟨h1, h2, h3, h4⟩, h5⟩ := up_cons.1 hu
    have c1 := tt (show (i : Int) < (l.length : Int) by omega)
    have c2 := tt (show (0 : Int) ≤ (i : Int) by omega)
    have c3 := tt (show out.length < 4398046511104 by omega)
    have b1 : i + 1 ≤ 1000000000000 := by omega
    have ih := fun out' (ho' : out'.length ≤ i + 1) => ih (i + 1) out' (rd_T41 l (i : Int)).f0 (rd_T41 l (i : Int)).f1 ((rd_T41 l (i : Int)).f0 + 1) ((rd_T41 l (i : Int)).f0) ((rd_T41 l (i : Int)).f1 + 1) ((rd_T41 l (i : Int)).f1) (by omega) ho' (by omega) (by omega) h5
    have w1 : wrap64 ((rd_T41 l (i : Int)).f0 + 1) = (rd_T41 l (i : Int)).f0 + 1 := w64 (by omega) (by omega)
    have w2 : wrap64 ((rd_T41 l (i : Int)).f1 + 1) = (rd_T41 l (i : Int)).f1 + 1 := w64 (by omega) (by omega)
    refine evs ?_
    simp only [align_Regions.l0, c1, c2, if_true, gap_ok]
    refine Ev.bind (Ev.now _) ?_
    unfold regs hole
    by_cases h : fa < (rd_T41 l (i : Int)).f0 ∨ fb < (rd_T41 l (i : Int)).f1
    · rw [if_pos h, decide_eq_true h]
      simp only [c3, w1, w2, wsucc b1, if_true]
      rw [← List.append_assoc]
      exact ih _ (by rw [List.length_append, List.length_singleton]; omega)
    · rw [if_neg h, decide_eq_false h, List.nil_append]
      simp only [w1, w2, wsucc b1, Bool.false_eq_true, if_false]
      exact ih _ (by omega)
/-- What is wrong with pairs. -/
def wrong (n m : Int) (l : List S41) : Int := if n < 0 ∨ m < 0 then 1 else if up n m (-1) (-1) l = true then 0 else 90
theorem refused_ok (n m : Int) (l : List S41) (hl : l.length ≤ 1000000) : Ev (fun k => align_refused.f k n m l) (wrong n m l) := by
  have j1 : (n < 0 ∨ m < 0) → Ev (fun k => align_refused.j0 k n m l true) (wrong n m l) := by
    intro h
    unfold wrong
    rw [if_pos h]
    refine evs ?_
    simp only [align_refused.j0, if_true]
    exact Ev.now _
  unfold align_refused.f
  by_cases h1 : n < 0
  · simp only [tt h1, if_true]
    exact j1 (.inl h1)
  by_cases h2 : m < 0
  · rw [decide_eq_true h2]
    simp only [ff h1, if_false]
    exact j1 (.inr h2)
  rw [decide_eq_false h2]
  simp only [ff h1, if_false]
  refine evs ?_
  have c := ff (show ¬ (false = true) by decide)
  simp only [align_refused.j0, c, if_false]
  refine Ev.bind (rising_ok n m l hl) ?_
  unfold wrong
  rw [if_neg (show ¬ (n < 0 ∨ m < 0) by omega)]
  cases up n m (-1) (-1) l with
  | true => simp only [if_true]; exact Ev.now _
  | false => simp only [c, if_false]; exact Ev.now _
theorem Regions_ok (n m : Int) (l : List S41) (hn : n ≤ 9223372036854775807) (hm : m ≤ 9223372036854775807) (hl : l.length ≤ 1000000) :
    Ev (fun k => align_Regions.f k n m l) (if wrong n m l = 0 then regs n m 0 0 l else [], wrong n m l) := by
  unfold align_Regions.f
  refine Ev.bind (refused_ok n m l hl) ?_
  by_cases h : wrong n m l = 0
  · simp only [h, if_true]
    refine Regions_loop n m l hn hm hl l.length 0 [] (-1) (-1) 0 0 0 0 (Nat.zero_add _) (Nat.le_refl _) (by decide) (by decide) ?_
    unfold wrong at h
    split at h
    · cases h
    · split at h
      · assumption
      · cases h
  · simp only [ff h, if_false]
    exact Ev.now _
theorem wrong_no {n m : Int} {l : List S41} (hn : 0 ≤ n) (hm : 0 ≤ m) (h : up n m (-1) (-1) l = true) : wrong n m l = 0 := by
  unfold wrong
  rw [if_neg (show ¬ (n < 0 ∨ m < 0) by omega), if_pos h]

end Go.Proofs.Ythbgbeelcnfofaa.Q
