/- Heights of places that can be reached: a table that is whole is the only one; plain Lean. -/
import Derived.Test.YtdbpdcjlbopkbaaDoorWAll
import Derived.Test.YtdbpdcjlbopkbaaDoorQBase
-- use: QBase
namespace Go.Proofs.YtdbpdcjlbopkbaaDoor.Q
set_option linter.unusedVariables false
set_option linter.unusedSimpArgs false
open Go.RowKit Go.Proofs.YtdbpdcjlbopkbaaDoorW.PrintWords Go.Proofs.YtdbpdcjlbopkbaaDoorW.PrintLast Go.Proofs.YtdbpdcjlbopkbaaDoorW.PrintMore Go.Proofs.YtdbpdcjlbopkbaaDoor.P

theorem rd_set_eq (H : List Int) (p : Nat) (v : Int) (h : p < H.length) : rd (H.set p v) (p : Int) = v := by simp [rd, List.getD, h]
theorem rd_set_ne (H : List Int) (p q : Nat) (v : Int) (h : p ≠ q) : rd (H.set p v) (q : Int) = rd H (q : Int) := by simp [rd, List.getD, List.getElem?_set_ne h]
theorem rd_at {l : List Int} {i : Nat} (h : i < l.length) : rd l (i : Int) = l[i] := by simp [rd, List.getD, h]

/-- What a machine's places are: how many, which heights may stand at one, what comes of a height, which places come next. -/
structure Net where
  n : Nat
  ok : Nat → Int → Bool
  d : Nat → Int → Int
  nx : Nat → List Int
  pos : ∀ p h, p < n → 0 ≤ h → ok p h = true → 0 ≤ d p h
  fwd : ∀ p, p < n → ∀ q ∈ nx p, 0 ≤ q
namespace Net
inductive R (N : Net) : Nat → Int → Prop
  | zero : R N 0 0
  | step {p : Nat} {h : Int} {q : Nat} : R N p h → p < N.n → N.ok p h = true → (q : Int) ∈ N.nx p → R N q (N.d p h)
def Bad (N : Net) : Prop := ∃ p h, N.R p h ∧ (N.n ≤ p ∨ N.ok p h = false ∨ ∃ h', N.R p h' ∧ h' ≠ h)
/-- What follows a place is told. -/
def Done (N : Net) (H : List Int) (p : Nat) : Prop := N.ok p (rd H p) = true ∧ ∀ q ∈ N.nx p, q < (N.n : Int) ∧ 0 ≤ rd H q ∧ rd H q = N.d p (rd H p)
structure True_ (N : Net) (H : List Int) : Prop where
  len : H.length = N.n
  zero : rd H 0 = 0
  here : ∀ p, p < N.n → 0 ≤ rd H p → N.R p (rd H p)
  away : ∀ p, p < N.n → rd H p < 0 → rd H p = -1
def Whole (N : Net) (H : List Int) : Prop := ∀ p, p < N.n → 0 ≤ rd H p → N.Done H p

theorem reach {N : Net} (h0 : 0 < N.n) {H : List Int} (hT : N.True_ H) (hW : N.Whole H) {p : Nat} {h : Int} (hr : N.R p h) : p < N.n ∧ rd H p = h ∧ 0 ≤ h := by
  induction hr with
  | zero => exact ⟨h0, hT.zero, by decide⟩
  | step hr hp hok hq ih =>
    obtain ⟨i1, i2, i3⟩ := ih
    subst i2
    obtain ⟨_, hd⟩ := hW _ i1 i3
    obtain ⟨a, b, c⟩ := hd _ hq
    exact ⟨by omega, c, by rw [← c]; exact b⟩
theorem not_bad {N : Net} (h0 : 0 < N.n) {H : List Int} (hT : N.True_ H) (hW : N.Whole H) : ¬ N.Bad := by
  rintro ⟨p, h, hr, hb⟩
  obtain ⟨a, b, c⟩ := reach h0 hT hW hr
  subst b
  rcases hb with hb | hb | ⟨h', hr', hne⟩
  · omega
  · have := (hW p a c).1
    rw [hb] at this
    cases this
  · exact hne (reach h0 hT hW hr').2.1.symm
theorem list_ext_rd {A B : List Int} (hl : A.length = B.length) (h : ∀ p, p < A.length → rd A (p : Int) = rd B (p : Int)) : A = B := by
  apply List.ext_getElem hl
  intro i h1 h2
  have := h i h1
  rwa [rd_at h1, rd_at h2] at this
theorem unique {N : Net} (h0 : 0 < N.n) {A B : List Int} (hA : N.True_ A) (wA : N.Whole A) (hB : N.True_ B) (wB : N.Whole B) : A = B := by
  refine list_ext_rd (by rw [hA.len, hB.len]) (fun p hp => ?_)
  rw [hA.len] at hp
  by_cases h : 0 ≤ rd A p
  · exact ((reach h0 hB wB (hA.here p hp h)).2.1).symm
  · by_cases h' : 0 ≤ rd B p
    · have := reach h0 hA wA (hB.here p hp h')
      omega
    · rw [hA.away p hp (by omega), hB.away p hp (by omega)]

/-! A table grows. -/
theorem done_set {N : Net} {H : List Int} (hl : H.length = N.n) {p q : Nat} {v : Int} (hq : rd H q < 0) (hp : p < N.n) (hp0 : 0 ≤ rd H p) (hpos : ∀ p, p < N.n → ∀ q ∈ N.nx p, 0 ≤ q) (h : N.Done H p) : N.Done (H.set q v) p := by
  have e : rd (H.set q v) p = rd H p := rd_set_ne _ _ _ _ (by rintro rfl; omega)
  refine ⟨by rw [e]; exact h.1, fun x hx => ?_⟩
  obtain ⟨a, b, c⟩ := h.2 x hx
  have x0 := hpos p hp x hx
  obtain ⟨y, rfl⟩ : ∃ y : Nat, x = y := ⟨x.toNat, by omega⟩
  rw [e, rd_set_ne _ _ _ _ (by rintro rfl; omega)]
  exact ⟨a, b, c⟩
theorem true_set {N : Net} {H : List Int} (hT : N.True_ H) {q : Nat} {v : Int} (hq : rd H q < 0) (hqn : q < N.n) (hv : 0 ≤ v) (hr : N.R q v) : N.True_ (H.set q v) := by
  have hne : ∀ p : Nat, p ≠ q → rd (H.set q v) p = rd H p := fun p hp => rd_set_ne _ _ _ _ (fun h => hp h.symm)
  have heq : rd (H.set q v) q = v := rd_set_eq _ _ _ (by rw [hT.len]; exact hqn)
  refine ⟨by rw [List.length_set]; exact hT.len, ?_, fun p hp h => ?_, fun p hp h => ?_⟩
  · have h0 : q ≠ 0 := by
      rintro rfl
      have := hT.zero
      rw [show ((0 : Nat) : Int) = 0 from rfl] at hq
      omega
    rw [show (0 : Int) = ((0 : Nat) : Int) from rfl, hne 0 (by omega)]
    exact hT.zero
  · by_cases e : p = q
    · subst e; rw [heq]; exact hr
    · rw [hne p e] at h ⊢; exact hT.here p hp h
  · by_cases e : p = q
    · subst e; omega
    · rw [hne p e] at h ⊢; exact hT.away p hp h
theorem rd_set_ne' {H : List Int} {q p : Nat} {v : Int} (h : q ≠ p) : rd (H.set q v) (p : Int) = rd H (p : Int) := rd_set_ne _ _ _ _ h
/-- How many places have no height yet. -/
def left (H : List Int) : Nat := H.countP (fun x => decide (x < 0))
theorem left_set {H : List Int} {q : Nat} {v : Int} (hl : q < H.length) (hq : rd H q < 0) (hv : 0 ≤ v) : left (H.set q v) + 1 = left H := by
  rw [rd_at hl] at hq
  have hp : 0 < H.countP (fun x => decide (x < 0)) := List.countP_pos_iff.2 ⟨H[q], List.getElem_mem hl, by simpa using hq⟩
  unfold left
  rw [List.countP_set hl, if_pos (by simpa using hq), if_neg (by simp; omega)]
  omega
end Net
end Go.Proofs.YtdbpdcjlbopkbaaDoor.Q
