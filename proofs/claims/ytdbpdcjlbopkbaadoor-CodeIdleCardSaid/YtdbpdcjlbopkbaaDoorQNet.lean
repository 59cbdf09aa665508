/- The places of a code: what an instruction takes and leaves, what comes next; the program's table of heights. -/
import Derived.Test.YtdbpdcjlbopkbaaDoorPx0
import Derived.Test.YtdbpdcjlbopkbaaDoorPx2
import Derived.Test.YtdbpdcjlbopkbaaDoorPx20
import Derived.Test.YtdbpdcjlbopkbaaDoorPx7
import Derived.Test.YtdbpdcjlbopkbaaDoorQReach
import Derived.Test.YtdbpdcjlbopkbaaDoorQCode
-- use: QReach
-- use: QCode
namespace Go.Proofs.YtdbpdcjlbopkbaaDoor.Q
set_option linter.unusedVariables false
set_option linter.unusedSimpArgs false
open Go.RowKit Go.Proofs.YtdbpdcjlbopkbaaDoorW.PrintWords Go.Proofs.YtdbpdcjlbopkbaaDoorW.PrintLast Go.Proofs.YtdbpdcjlbopkbaaDoorW.PrintMore Go.Proofs.YtdbpdcjlbopkbaaDoor.P

abbrev Ins := S23
abbrev Cod := S33
abbrev rdI (l : List Ins) (i : Int) : Ins := rd_T23 l i
abbrev rdC (l : List Cod) (i : Int) : Cod := rd_T33 l i
theorem rdI_at (l : List Ins) (i : Nat) (h : i < l.length) : rdI l (i : Int) = l[i] := by simp [rdI, rd_T23, List.getD, h]
theorem rdC_at (l : List Cod) (i : Nat) (h : i < l.length) : rdC l (i : Int) = l[i] := by simp [rdC, rd_T33, List.getD, h]

def mv (l : List Cod) (x : Ins) : Int × Int :=
  if x.f0 = 19 then (x.f2, if (rdC l x.f1).f3 = true then 1 else 0) else if x.f0 = 20 then (x.f1, 0) else (rd code_STACK (x.f0 * 2), rd code_STACK (x.f0 * 2 + 1))
def nxt (x : Ins) (at_ : Nat) : List Int := if x.f0 = 17 then [x.f1] else if x.f0 = 18 then [(at_ : Int) + 1, x.f1] else if x.f0 = 20 then [] else [(at_ : Int) + 1]
theorem nxt_len (x : Ins) (at_ : Nat) : (nxt x at_).length ≤ 2 := by
  unfold nxt
  split
  · simp
  split
  · simp
  split <;> simp
def okH (l : List Cod) (x : Ins) (h : Int) : Bool := decide (¬ (h < (mv l x).1 ∨ 4096 < h ∨ (x.f0 = 20 ∧ h ≠ (mv l x).1) ∨ (x.f0 = 24 ∧ h ≠ 0)))
structure Valid (m : Nat) (n : Nat) (x : Ins) : Prop where
  op0 : 1 ≤ x.f0
  op1 : x.f0 ≤ 25
  call : x.f0 = 19 → 0 ≤ x.f1 ∧ x.f1 < (m : Int) ∧ 0 ≤ x.f2 ∧ x.f2 ≤ 8
  leave : x.f0 = 20 → 0 ≤ x.f1 ∧ x.f1 ≤ 1
  jump : x.f0 = 17 ∨ x.f0 = 18 → 0 ≤ x.f1 ∧ x.f1 < (n : Int)
theorem stack_all : ∀ x ∈ code_STACK, 0 ≤ x ∧ x ≤ 2 := by decide
theorem stack_in (i : Int) : 0 ≤ rd code_STACK i ∧ rd code_STACK i ≤ 2 := by
  unfold rd
  rw [List.getD_eq_getElem?_getD]
  cases h : code_STACK[i.toNat]? with
  | none => simp
  | some x => exact stack_all x (List.mem_of_getElem? h)
theorem mv_in {m n : Nat} (l : List Cod) {x : Ins} (h : Valid m n x) : 0 ≤ (mv l x).1 ∧ (mv l x).1 ≤ 8 ∧ 0 ≤ (mv l x).2 ∧ (mv l x).2 ≤ 2 := by
  unfold mv
  split
  · rename_i e
    have := h.call e
    refine ⟨this.2.2.1, this.2.2.2, ?_, ?_⟩ <;> (simp only []; split <;> omega)
  · split
    · rename_i e
      have := h.leave e
      exact ⟨this.1, by simp only []; omega, by simp only []; omega, by simp only []; omega⟩
    · have a := stack_in (x.f0 * 2)
      have b := stack_in (x.f0 * 2 + 1)
      exact ⟨a.1, by simp only []; omega, b.1, b.2⟩
theorem okH_iff {l : List Cod} {x : Ins} {h : Int} : okH l x h = true ↔ ¬ (h < (mv l x).1 ∨ 4096 < h ∨ (x.f0 = 20 ∧ h ≠ (mv l x).1) ∨ (x.f0 = 24 ∧ h ≠ 0)) := by simp only [okH, decide_eq_true_eq]
theorem nxt_in {m n : Nat} {x : Ins} (h : Valid m n x) (at_ : Nat) : ∀ q ∈ nxt x at_, 0 ≤ q ∧ (q < (n : Int) ∨ q = at_ + 1) := by
  unfold nxt
  intro q hq
  split at hq
  · rename_i e
    simp at hq
    have := h.jump (.inl e)
    omega
  · split at hq
    · rename_i e
      simp at hq
      have := h.jump (.inr e)
      omega
    · split at hq
      · cases hq
      · simp at hq
        omega
def net (l : List Cod) (ins : List Ins) (hv : ∀ p, p < ins.length → Valid l.length ins.length (rdI ins p)) : Net where
  n := ins.length
  ok := fun p h => okH l (rdI ins p) h
  d := fun p h => h - (mv l (rdI ins p)).1 + (mv l (rdI ins p)).2
  nx := fun p => nxt (rdI ins p) p
  pos := fun p h hp h0 hk => by
    have := okH_iff.1 hk
    have := mv_in l (hv p hp)
    omega
  fwd := fun p hp q hq => (nxt_in (hv p hp) p q hq).1

theorem moves_at {n : Nat} (l : List Cod) {x : Ins} (h : Valid l.length n x) : code_checker_moves.f l x.f0 x.f1 x.f2 = some (mv l x) := by
  unfold code_checker_moves.f mv
  by_cases h1 : x.f0 = 19
  · obtain ⟨a, b, c, d⟩ := h.call h1
    rw [if_pos h1, if_pos h1, if_pos a, if_pos b]
    split <;> rfl
  · rw [if_neg h1, if_neg h1]
    by_cases h2 : x.f0 = 20
    · rw [if_pos h2, if_pos h2]
    · have := h.op0
      have := h.op1
      rw [if_neg h2, if_neg h2, if_pos (by omega), if_pos (by omega)]
theorem effect_at {n : Nat} (l : List Cod) {x : Ins} (h : Valid l.length n x) : parallaxref08_effect.f l x.f0 x.f1 x.f2 = some (mv l x) := by
  unfold parallaxref08_effect.f mv
  rw [Of_ok h.op0 h.op1, Option.bind_some]
  by_cases h1 : x.f0 = 19
  · obtain ⟨a, b, c, d⟩ := h.call h1
    rw [if_neg (by omega), if_pos h1, if_pos h1, if_pos a, if_pos b]
    split <;> rfl
  · by_cases h2 : x.f0 = 20
    · rw [if_pos h2, if_neg h1, if_pos h2]
    · rw [if_neg h2, if_neg h1, if_neg h1, if_neg h2]
theorem next_at (x : Ins) (at_ : Nat) (h : at_ ≤ 100000000) : code_next.f x.f0 x.f1 x.f2 at_ = some (nxt x at_) := by
  have e : wrap64 ((at_ : Int) + 1) = (at_ : Int) + 1 := w64 (by omega) (by omega)
  unfold code_next.f nxt
  rw [e]
  split
  · rfl
  split
  · rfl
  split
  · rfl
  · rfl
theorem follow_at (x : Ins) (at_ : Nat) (h : at_ ≤ 100000000) : parallaxref08_follow.f x.f0 x.f1 x.f2 at_ = some (nxt x at_) := by
  have e : wrap64 ((at_ : Int) + 1) = (at_ : Int) + 1 := w64 (by omega) (by omega)
  unfold parallaxref08_follow.f nxt
  rw [e]
  by_cases h1 : x.f0 = 20
  · rw [if_pos h1, if_neg (by omega), if_neg (by omega), if_pos h1]
  rw [if_neg h1]
  by_cases h2 : x.f0 = 17
  · rw [if_pos h2, if_pos h2]
  rw [if_neg h2, if_neg h2, Option.bind_some]
  by_cases h3 : x.f0 = 18
  · rw [if_pos h3, if_pos h3, if_pos (by simp only [List.length_cons, List.length_nil]; omega)]
    rfl
  · rw [if_neg h3, if_neg h3, if_neg h1]
theorem step_wrap {h a b : Int} (h0 : 0 ≤ h) (h1 : h ≤ 5000) (a0 : 0 ≤ a) (a1 : a ≤ 8) (b0 : 0 ≤ b) (b1 : b ≤ 2) : wrap64 (wrap64 (h - a) + b) = h - a + b := by
  rw [w64 (n := h - a) (by omega) (by omega), w64 (by omega) (by omega)]
end Go.Proofs.YtdbpdcjlbopkbaaDoor.Q
