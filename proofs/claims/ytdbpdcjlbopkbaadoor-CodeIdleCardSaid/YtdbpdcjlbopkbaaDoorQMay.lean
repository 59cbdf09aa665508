/- Whether an instruction may be: both programs say the same. -/
import Derived.Test.YtdbpdcjlbopkbaaDoorPx0
import Derived.Test.YtdbpdcjlbopkbaaDoorPx18
import Derived.Test.YtdbpdcjlbopkbaaDoorPx19
import Derived.Test.YtdbpdcjlbopkbaaDoorPx5
import Derived.Test.YtdbpdcjlbopkbaaDoorPx6
import Derived.Test.YtdbpdcjlbopkbaaDoorQNet
-- use: QNet
namespace Go.Proofs.YtdbpdcjlbopkbaaDoor.Q
set_option linter.unusedVariables false
set_option linter.unusedSimpArgs false
open Go.RowKit Go.Proofs.YtdbpdcjlbopkbaaDoorW.PrintWords Go.Proofs.YtdbpdcjlbopkbaaDoorW.PrintLast Go.Proofs.YtdbpdcjlbopkbaaDoorW.PrintMore Go.Proofs.YtdbpdcjlbopkbaaDoor.P

def Within (cells n m : Int) : Prop := 0 ≤ n ∧ 1 ≤ m ∧ n ≤ cells ∧ m ≤ cells - n
instance (cells n m : Int) : Decidable (Within cells n m) := by unfold Within; exact inferInstance
theorem some_decide {P : Prop} [Decidable P] {e : Option Bool} (h1 : P → e = some true) (h2 : ¬ P → e = some false) : e = some (decide P) := by
  by_cases h : P
  · rw [h1 h, decide_eq_true h]
  · rw [h2 h, decide_eq_false h]
theorem within_at (l : List Cod) (n m : Int) (ins : List Ins) (cells p : Int) (ans : Bool) (c0 : 0 ≤ cells) (c1 : cells ≤ 65536) : code_checker_within.f l n m ins cells p ans = some (decide (Within cells n m)) := by
  unfold code_checker_within.f Within
  refine some_decide (fun ⟨a, b, c, d⟩ => ?_) (fun h => ?_)
  · rw [if_pos a, if_pos b, if_pos c, w64 (by omega) (by omega), decide_eq_true (by omega)]
  · by_cases a : n ≥ 0
    · rw [if_pos a]
      by_cases b : m ≥ 1
      · rw [if_pos b]
        by_cases c : n ≤ cells
        · rw [if_pos c, w64 (by omega) (by omega), decide_eq_false (by omega)]
        · rw [if_neg c]
      · rw [if_neg b]
    · rw [if_neg a]
theorem refcells_at (n m : Int) (ins : List Ins) (cells p : Int) (ans : Bool) (c0 : 0 ≤ cells) (c1 : cells ≤ 65536) : parallaxref08_cells.f ins cells p ans n m = some (decide (Within cells n m)) := by
  unfold parallaxref08_cells.f Within
  refine some_decide (fun ⟨a, b, c, d⟩ => ?_) (fun h => ?_)
  · rw [if_pos a, if_pos b, if_pos (by omega), w64 (by omega) (by omega), decide_eq_true (by omega)]
  · by_cases a : n ≥ 0
    · rw [if_pos a]
      by_cases b : m ≥ 1
      · rw [if_pos b]
        by_cases c : m ≤ cells
        · rw [if_pos c, w64 (by omega) (by omega), decide_eq_false (by omega)]
        · rw [if_neg c]
      · rw [if_neg b]
    · rw [if_neg a]
/-- What is asked of an instruction beyond its line. -/
def MayRest (l : List Cod) (n : Int) (cells : Int) (ans : Bool) (op f1 f2 : Int) : Bool :=
  if op = 2 ∨ op = 3 then decide (Within cells f1 1) else if op = 4 ∨ op = 5 ∨ op = 6 then decide (f2 ≤ 64 ∧ Within cells f1 f2) else if op = 17 ∨ op = 18 then decide (0 ≤ f1 ∧ f1 < n) else
  if op = 19 then decide (0 ≤ f1 ∧ f1 < (l.length : Int) ∧ 0 ≤ f2 ∧ f2 ≤ 8 ∧ f2 = (rdC l f1).f2) else if op = 20 then decide ((f1 = 0 ∧ ans = false) ∨ (f1 = 1 ∧ ans = true)) else if op = 24 then decide (0 ≤ f1 ∧ 1 ≤ f2 ∧ f2 ≤ 3) else true
section
variable (l : List Cod) (ins : List Ins) (cells p : Int) (ans : Bool)
theorem may_j2 (k : Nat) (op f1 f2 : Int) (b : Bool) (hb : b = decide (op = 17 ∨ op = 18)) (ho : ¬ (op = 2 ∨ op = 3)) (ho2 : ¬ (op = 4 ∨ op = 5 ∨ op = 6)) : code_checker_may.j2 (k + 1) op b l ins cells p ans op f1 f2 = some (MayRest l ins.length cells ans op f1 f2) := by
  simp only [code_checker_may.j2]
  unfold MayRest
  rw [if_neg ho, if_neg ho2]
  by_cases h : op = 17 ∨ op = 18
  · rw [if_pos h, if_pos (by rw [hb, decide_eq_true h])]
    by_cases h2 : f1 ≥ 0
    · rw [if_pos h2]; congr 1; simp only [decide_eq_decide]; omega
    · rw [if_neg h2, decide_eq_false (by omega)]
  rw [if_neg h, if_neg (by rw [hb, decide_eq_false h]; decide)]
  by_cases h : op = 19
  · rw [if_pos h, if_pos h]
    by_cases h1 : f1 ≥ 0
    · rw [if_pos h1]
      by_cases h2 : f1 < (l.length : Int)
      · rw [if_pos h2]
        by_cases h3 : f2 ≥ 0
        · rw [if_pos h3]
          by_cases h4 : f2 ≤ 8
          · rw [if_pos h4, if_pos h1]
            by_cases h5 : f2 = (rdC l f1).f2
            · rw [decide_eq_true ⟨h1, h2, h3, h4, h5⟩]
              exact congrArg some (beq_iff_eq.2 h5)
            · rw [decide_eq_false (fun h => h5 h.2.2.2.2)]
              exact congrArg some (beq_eq_false_iff_ne.2 h5)
          · rw [if_neg h4, decide_eq_false (fun h => h4 h.2.2.2.1)]
        · rw [if_neg h3, decide_eq_false (fun h => h3 h.2.2.1)]
      · rw [if_neg h2, decide_eq_false (fun h => h2 h.2.1)]
    · rw [if_neg h1, decide_eq_false (fun h => h1 h.1)]
  rw [if_neg h, if_neg h]
  by_cases h : op = 20
  · rw [if_pos h, if_pos h]
    by_cases h1 : f1 = 0
    · subst h1
      cases ans <;> rfl
    · rw [if_neg h1]
      by_cases h2 : f1 = 1
      · subst h2
        cases ans <;> rfl
      · rw [if_neg h2, decide_eq_false (by omega)]
  rw [if_neg h, if_neg h]
  by_cases h : op = 24
  · rw [if_pos h, if_pos h]
    by_cases h1 : f1 ≥ 0
    · rw [if_pos h1]
      by_cases h2 : f2 ≥ 1
      · rw [if_pos h2]; congr 1; simp only [decide_eq_decide]; omega
      · rw [if_neg h2, decide_eq_false (by omega)]
    · rw [if_neg h1, decide_eq_false (by omega)]
  rw [if_neg h, if_neg h]
theorem beq_dec (a b : Int) : (a == b) = decide (a = b) := by
  by_cases h : a = b
  · rw [decide_eq_true h]; exact beq_iff_eq.2 h
  · rw [decide_eq_false h]; exact beq_eq_false_iff_ne.2 h
theorem may_j1 (k : Nat) (op f1 f2 : Int) (b : Bool) (hb : b = decide (op = 4 ∨ op = 5 ∨ op = 6)) (ho : ¬ (op = 2 ∨ op = 3)) (c0 : 0 ≤ cells) (c1 : cells ≤ 65536) : code_checker_may.j1 (k + 2) op b l ins cells p ans op f1 f2 = some (MayRest l ins.length cells ans op f1 f2) := by
  simp only [code_checker_may.j1, within_at l _ _ ins cells p ans c0 c1, Option.bind_some]
  by_cases h : op = 4 ∨ op = 5 ∨ op = 6
  · rw [if_pos (by rw [hb, decide_eq_true h])]
    unfold MayRest
    rw [if_neg ho, if_pos h]
    by_cases h2 : f2 ≤ 64
    · rw [if_pos h2]; congr 1; simp only [decide_eq_decide]; exact ⟨fun h => ⟨h2, h⟩, fun h => h.2⟩
    · rw [if_neg h2, decide_eq_false (fun h => h2 h.1)]
  · rw [if_neg (by rw [hb, decide_eq_false h]; decide)]
    by_cases h7 : op = 17
    · rw [if_pos h7]; exact may_j2 l ins cells p ans k op f1 f2 _ (by rw [beq_dec]; simp [h7]) ho h
    · rw [if_neg h7]; exact may_j2 l ins cells p ans k op f1 f2 _ (by rw [beq_dec]; simp [h7]) ho h
theorem may_j0 (k : Nat) (op f1 f2 : Int) (b : Bool) (hb : b = decide (op = 2 ∨ op = 3)) (c0 : 0 ≤ cells) (c1 : cells ≤ 65536) : code_checker_may.j0 (k + 3) op b l ins cells p ans op f1 f2 = some (MayRest l ins.length cells ans op f1 f2) := by
  simp only [code_checker_may.j0, within_at l _ _ ins cells p ans c0 c1, Option.bind_some]
  by_cases h : op = 2 ∨ op = 3
  · rw [if_pos (by rw [hb, decide_eq_true h])]
    unfold MayRest
    rw [if_pos h]
  · rw [if_neg (by rw [hb, decide_eq_false h]; decide)]
    by_cases h4 : op = 4
    · rw [if_pos h4]; exact may_j1 l ins cells p ans k op f1 f2 _ (by rw [beq_dec]; simp [h4]) h c0 c1
    rw [if_neg h4]
    by_cases h5 : op = 5
    · rw [if_pos h5]; exact may_j1 l ins cells p ans k op f1 f2 _ (by rw [beq_dec]; simp [h5]) h c0 c1
    rw [if_neg h5]
    exact may_j1 l ins cells p ans k op f1 f2 _ (by rw [beq_dec]; simp [h4, h5]) h c0 c1
/-- Whether an instruction may be. -/
def May (op f1 f2 : Int) : Prop := Fine op f1 f2 ∧ MayRest l ins.length cells ans op f1 f2 = true
instance (op f1 f2 : Int) : Decidable (May l ins cells ans op f1 f2) := by unfold May; exact inferInstance
theorem ev3 {g : Nat → Option Bool} {r : Bool} (h : ∀ k, g (k + 3) = some r) : Ev g r := ⟨3, fun k hk => by
  obtain ⟨m, rfl⟩ : ∃ m, k = m + 3 := ⟨k - 3, by omega⟩
  exact h m⟩
theorem TX_two (op n m : Int) : (TX op n m).2 = 0 ↔ Fine op n m := by
  by_cases h : Fine op n m
  · rw [TX_fine h]; exact ⟨fun _ => h, fun _ => rfl⟩
  · rw [TX_not h]; exact ⟨fun h => absurd h (by decide), fun h' => absurd h' h⟩
theorem may_ok (op f1 f2 : Int) (n0 : -9223372036854775808 ≤ f1) (n1 : f1 ≤ 9223372036854775807) (m0 : -9223372036854775808 ≤ f2) (m1 : f2 ≤ 9223372036854775807) (c0 : 0 ≤ cells) (c1 : cells ≤ 65536) :
    Ev (fun k => code_checker_may.f k l op f1 f2 ins cells p ans) (decide (May l ins cells ans op f1 f2)) := by
  unfold code_checker_may.f
  refine Ev.bind (Text_ok op f1 f2 n0 n1 m0 m1) ?_
  by_cases hf : Fine op f1 f2
  · have e : decide (May l ins cells ans op f1 f2) = MayRest l ins.length cells ans op f1 f2 := by
      cases h : MayRest l ins.length cells ans op f1 f2 with
      | true => exact decide_eq_true ⟨hf, h⟩
      | false => exact decide_eq_false (fun h9 => by rw [h9.2] at h; cases h)
    rw [e]
    simp only [tt ((TX_two op f1 f2).2 hf), if_true]
    by_cases h2 : op = 2
    · simp only [tt h2, if_true]
      exact ev3 (fun k => may_j0 l ins cells p ans k op f1 f2 _ (by rw [beq_dec]; simp [h2]) c0 c1)
    · simp only [ff h2, if_false]
      exact ev3 (fun k => may_j0 l ins cells p ans k op f1 f2 _ (by rw [beq_dec]; simp [h2]) c0 c1)
  · rw [decide_eq_false (fun h => hf h.1)]
    simp only [ff (fun h => hf ((TX_two op f1 f2).1 h)), if_false]
    exact Ev.now _
theorem rmay_j2 (k : Nat) (op f1 f2 : Int) (b : Bool) (hb : b = decide (op = 17 ∨ op = 18)) (ho : ¬ (op = 2 ∨ op = 3)) (ho2 : ¬ (op = 4 ∨ op = 5 ∨ op = 6)) : parallaxref08_may.j2 (k + 1) l op b ins cells p ans op f1 f2 = some (MayRest l ins.length cells ans op f1 f2) := by
  simp only [parallaxref08_may.j2]
  unfold MayRest
  rw [if_neg ho, if_neg ho2]
  by_cases h : op = 17 ∨ op = 18
  · rw [if_pos h, if_pos (by rw [hb, decide_eq_true h])]
    by_cases h2 : f1 ≥ 0
    · rw [if_pos h2]; congr 1; simp only [decide_eq_decide]; omega
    · rw [if_neg h2, decide_eq_false (by omega)]
  rw [if_neg h, if_neg (by rw [hb, decide_eq_false h]; decide)]
  by_cases h : op = 19
  · rw [if_pos h, if_pos h]
    by_cases h1 : f1 < 0
    · rw [if_pos h1, decide_eq_false (by omega)]
    rw [if_neg h1]
    by_cases h2 : f1 ≥ (l.length : Int)
    · rw [if_pos h2, decide_eq_false (by omega)]
    rw [if_neg h2, if_pos (by omega), if_pos (by omega)]
    by_cases h5 : (rd_T33 l f1).f2 = f2
    · rw [if_pos h5]
      by_cases h6 : (rd_T33 l f1).f2 ≥ 0
      · rw [if_pos h6]; congr 1; simp only [decide_eq_decide]
        exact ⟨fun h => ⟨by omega, by omega, by omega, by omega, h5.symm⟩, fun h => by have := h.2.2.2.1; omega⟩
      · rw [if_neg h6, decide_eq_false (fun h => h6 (by have := h.2.2.1; omega))]
    · rw [if_neg h5, decide_eq_false (fun h => h5 h.2.2.2.2.symm)]
  rw [if_neg h, if_neg h]
  by_cases h : op = 20
  · rw [if_pos h, if_pos h]
    cases ans with
    | true =>
      rw [if_pos rfl, beq_dec]
      congr 1; simp only [decide_eq_decide]; simp
    | false =>
      rw [if_neg (by decide), beq_dec]
      congr 1; simp only [decide_eq_decide]; simp
  rw [if_neg h, if_neg h]
  by_cases h : op = 24
  · rw [if_pos h, if_pos h]
    by_cases h1 : f1 ≥ 0
    · rw [if_pos h1]
      by_cases h2 : f2 ≥ 1
      · rw [if_pos h2]; congr 1; simp only [decide_eq_decide]; omega
      · rw [if_neg h2, decide_eq_false (by omega)]
    · rw [if_neg h1, decide_eq_false (by omega)]
  rw [if_neg h, if_neg h]
theorem rmay_j1 (k : Nat) (op f1 f2 : Int) (b : Bool) (hb : b = decide (op = 4 ∨ op = 5 ∨ op = 6)) (ho : ¬ (op = 2 ∨ op = 3)) (c0 : 0 ≤ cells) (c1 : cells ≤ 65536) : parallaxref08_may.j1 (k + 2) l op b ins cells p ans op f1 f2 = some (MayRest l ins.length cells ans op f1 f2) := by
  simp only [parallaxref08_may.j1, refcells_at _ _ ins cells p ans c0 c1, Option.bind_some]
  by_cases h : op = 4 ∨ op = 5 ∨ op = 6
  · rw [if_pos (by rw [hb, decide_eq_true h])]
    unfold MayRest
    rw [if_neg ho, if_pos h]
    by_cases h2 : Within cells f1 f2
    · rw [if_pos (decide_eq_true h2)]; congr 1; simp only [decide_eq_decide]; exact ⟨fun h => ⟨h, h2⟩, fun h => h.1⟩
    · rw [if_neg (by rw [decide_eq_false h2]; decide), decide_eq_false (fun h => h2 h.2)]
  · rw [if_neg (by rw [hb, decide_eq_false h]; decide)]
    by_cases h7 : op = 17
    · rw [if_pos h7]; exact rmay_j2 l ins cells p ans k op f1 f2 _ (by rw [beq_dec]; simp [h7]) ho h
    · rw [if_neg h7]; exact rmay_j2 l ins cells p ans k op f1 f2 _ (by rw [beq_dec]; simp [h7]) ho h
theorem rmay_j0 (k : Nat) (op f1 f2 : Int) (b : Bool) (hb : b = decide (op = 2 ∨ op = 3)) (c0 : 0 ≤ cells) (c1 : cells ≤ 65536) : parallaxref08_may.j0 (k + 3) l op b ins cells p ans op f1 f2 = some (MayRest l ins.length cells ans op f1 f2) := by
  simp only [parallaxref08_may.j0, refcells_at _ _ ins cells p ans c0 c1, Option.bind_some]
  by_cases h : op = 2 ∨ op = 3
  · rw [if_pos (by rw [hb, decide_eq_true h])]
    unfold MayRest
    rw [if_pos h]
  · rw [if_neg (by rw [hb, decide_eq_false h]; decide)]
    by_cases h4 : op = 4
    · rw [if_pos h4]; exact rmay_j1 l ins cells p ans k op f1 f2 _ (by rw [beq_dec]; simp [h4]) h c0 c1
    rw [if_neg h4]
    by_cases h5 : op = 5
    · rw [if_pos h5]; exact rmay_j1 l ins cells p ans k op f1 f2 _ (by rw [beq_dec]; simp [h5]) h c0 c1
    rw [if_neg h5]
    exact rmay_j1 l ins cells p ans k op f1 f2 _ (by rw [beq_dec]; simp [h4, h5]) h c0 c1
theorem rmay_ok (op f1 f2 : Int) (n0 : -9223372036854775808 ≤ f1) (n1 : f1 ≤ 9223372036854775807) (m0 : -9223372036854775808 ≤ f2) (m1 : f2 ≤ 9223372036854775807) (c0 : 0 ≤ cells) (c1 : cells ≤ 65536) :
    Ev (fun k => parallaxref08_may.f k l ins cells p ans op f1 f2) (decide (May l ins cells ans op f1 f2)) := by
  unfold parallaxref08_may.f
  refine Ev.bind (refText08_ok op f1 f2 n0 n1 m0 m1) ?_
  by_cases hf : Fine op f1 f2
  · have e : decide (May l ins cells ans op f1 f2) = MayRest l ins.length cells ans op f1 f2 := by
      cases h : MayRest l ins.length cells ans op f1 f2 with
      | true => exact decide_eq_true ⟨hf, h⟩
      | false => exact decide_eq_false (fun h9 => by rw [h9.2] at h; cases h)
    rw [e]
    simp only [tt ((TX_two op f1 f2).2 hf), if_true]
    by_cases h2 : op = 2
    · simp only [tt h2, if_true]
      exact ev3 (fun k => rmay_j0 l ins cells p ans k op f1 f2 _ (by rw [beq_dec]; simp [h2]) c0 c1)
    · simp only [ff h2, if_false]
      exact ev3 (fun k => rmay_j0 l ins cells p ans k op f1 f2 _ (by rw [beq_dec]; simp [h2]) c0 c1)
  · rw [decide_eq_false (fun h => hf h.1)]
    simp only [ff (fun h => hf ((TX_two op f1 f2).1 h)), if_false]
    exact Ev.now _
theorem may_valid {x : Ins} (h : May l ins cells ans x.f0 x.f1 x.f2) : Valid l.length ins.length x := by
  obtain ⟨⟨⟨h0, h1⟩, _, _⟩, hr⟩ := h
  refine ⟨h0, h1, fun e => ?_, fun e => ?_, fun e => ?_⟩
  · simp only [MayRest, e] at hr
    simp at hr
    omega
  · simp only [MayRest, e] at hr
    simp at hr
    omega
  · rcases e with e | e
    · simp only [MayRest, e] at hr
      simp at hr
      omega
    · simp only [MayRest, e] at hr
      simp at hr
      omega
end
end Go.Proofs.YtdbpdcjlbopkbaaDoor.Q
