/- So many instructions are sound; one more is not; at every input, without a condition. -/
import Derived.Test.YtdbpdcjlbopkbaaDoorPx10
import Derived.Test.YtdbpdcjlbopkbaaDoorPx28
import Derived.Test.YtdbpdcjlbopkbaaDoorQSound
-- use: QSound
namespace Go.Proofs.YtdbpdcjlbopkbaaDoor.Pure
set_option linter.unusedVariables false
set_option linter.unusedSimpArgs false
open Go.RowKit Go.Proofs.YtdbpdcjlbopkbaaDoor.P Go.Proofs.YtdbpdcjlbopkbaaDoorW.PrintWords Go.Proofs.YtdbpdcjlbopkbaaDoorW.PrintLast Go.Proofs.YtdbpdcjlbopkbaaDoorW.PrintMore Go.Proofs.YtdbpdcjlbopkbaaDoor.Q

def clr : Ins := ⟨6, 0, 1⟩
def lev : Ins := ⟨20, 0, 0⟩
def jmp (n : Nat) : Ins := ⟨17, ((n - 1 : Nat) : Int), 0⟩
/-- A code of n places: the last one leaves; the first one may jump there; the others do nothing. -/
def Long (n : Nat) (ins : List Ins) : Prop := ins.length = n ∧ (∀ p : Nat, p + 1 < n → rdI ins p = clr ∨ (p = 0 ∧ rdI ins p = jmp n)) ∧ rdI ins ((n - 1 : Nat) : Int) = lev
theorem mkwf {a : Int} (h0 : -9223372036854775808 ≤ a) (h1 : a ≤ 9223372036854775807) : (Lit.int .i64 a).wf = true := by
  simp [Lit.wf, IntKind.min, IntKind.max, IntKind.bits, IntKind.signed]; omega
theorem long_mem {n : Nat} {ins : List Ins} (hn : 1 ≤ n) (h : Long n ins) : ∀ y ∈ ins, y = clr ∨ y = jmp n ∨ y = lev := fun y hy => by
  obtain ⟨p, hp, rfl⟩ := List.getElem_of_mem hy
  rw [← rdI_at ins p hp]
  obtain ⟨hl, h1, h2⟩ := h
  by_cases e : p + 1 < n
  · rcases h1 p e with h | ⟨_, h⟩
    · exact .inl h
    · exact .inr (.inl h)
  · obtain rfl : p = n - 1 := by omega
    exact .inr (.inr h2)
theorem long_fit {n : Nat} {ins : List Ins} (hn : 1 ≤ n) (h2 : n ≤ 100000) (h : Long n ins) : FitI ins := fun y hy => by
  rcases long_mem hn h y hy with rfl | rfl | rfl
  · exact ⟨mkwf (by decide) (by decide), mkwf (by decide) (by decide), mkwf (by decide) (by decide)⟩
  · exact ⟨mkwf (show (-9223372036854775808 : Int) ≤ 17 by decide) (show (17 : Int) ≤ 9223372036854775807 by decide), mkwf (show (-9223372036854775808 : Int) ≤ ((n - 1 : Nat) : Int) by omega) (show ((n - 1 : Nat) : Int) ≤ 9223372036854775807 by omega), mkwf (show (-9223372036854775808 : Int) ≤ 0 by decide) (show (0 : Int) ≤ 9223372036854775807 by decide)⟩
  · exact ⟨mkwf (by decide) (by decide), mkwf (by decide) (by decide), mkwf (by decide) (by decide)⟩
theorem long_shape {n : Nat} {ins : List Ins} (hn : 2 ≤ n) (h2 : n ≤ 65536) (h : Long n ins) (l : List Cod) : Shape l ⟨ins, 1, 0, false⟩ := by
  have hl := h.1
  refine ⟨⟨?_, ?_, ?_, ?_, ?_, ?_, ?_⟩, fun y hy => ?_⟩ <;> simp only []
  · omega
  · omega
  · omega
  · omega
  · omega
  · omega
  · omega
  · rcases long_mem (by omega) h y hy with rfl | rfl | rfl
    · exact ⟨⟨by decide, by decide, by decide⟩, by simp [MayRest, clr, Within]⟩
    · refine ⟨⟨⟨show (1 : Int) ≤ 17 by decide, show (17 : Int) ≤ 25 by decide⟩, ?_, ?_⟩, ?_⟩
      · intro h9; exact absurd h9 (by simp only [jmp]; decide)
      · intro _; rfl
      · simp only [MayRest, jmp]
        simp
        omega
    · exact ⟨⟨by decide, by decide, by decide⟩, by simp [MayRest, lev]⟩
theorem long_good {n : Nat} {ins : List Ins} (hn : 2 ≤ n) (h : Long n ins) (l : List Cod) (hv : ∀ p, p < ins.length → Valid l.length ins.length (rdI ins p)) : ¬ (net l ins hv).Bad := by
  have hl := h.1
  have hN : (net l ins hv).n = n := hl
  have hmv : ∀ p : Nat, p < n → mv l (rdI ins p) = (0, 0) := fun p hp => by
    by_cases e : p + 1 < n
    · rcases h.2.1 p e with e2 | ⟨_, e2⟩ <;> rw [e2] <;> rfl
    · obtain rfl : p = n - 1 := by omega
      rw [h.2.2]; rfl
  have hok : ∀ p : Nat, p < n → (net l ins hv).ok p 0 = true := fun p hp => by
    refine okH_iff.2 ?_
    rw [hmv p hp]
    have : (rdI ins (p : Int)).f0 ≠ 24 := by
      by_cases e : p + 1 < n
      · rcases h.2.1 p e with e2 | ⟨_, e2⟩ <;> rw [e2]
        · decide
        · exact show (17 : Int) ≠ 24 by decide
      · obtain rfl : p = n - 1 := by omega
        rw [h.2.2]; decide
    simp only []
    omega
  have inv : ∀ p h', (net l ins hv).R p h' → p < n ∧ h' = 0 := by
    intro p h' hr
    induction hr with
    | zero => exact ⟨by omega, rfl⟩
    | @step p h' q hr hp hk hq ih =>
      obtain ⟨i1, i2⟩ := ih
      subst i2
      refine ⟨?_, ?_⟩
      · by_cases e : p + 1 < n
        · have hq' : (q : Int) ∈ nxt (rdI ins p) p := hq
          rcases h.2.1 p e with e2 | ⟨_, e2⟩
          · rw [e2] at hq'
            simp [nxt, clr] at hq'
            omega
          · rw [e2] at hq'
            simp [nxt, jmp] at hq'
            omega
        · obtain rfl : p = n - 1 := by omega
          have hq' : (q : Int) ∈ nxt (rdI ins ((n - 1 : Nat) : Int)) (n - 1) := hq
          rw [h.2.2] at hq'
          simp [nxt, lev] at hq'
      · show (0 : Int) - (mv l (rdI ins p)).1 + (mv l (rdI ins p)).2 = 0
        rw [hmv p i1]; rfl
  rintro ⟨p, h', hr, hb⟩
  obtain ⟨i1, i2⟩ := inv p h' hr
  subst i2
  rcases hb with hb | hb | ⟨g, hg, hne⟩
  · omega
  · rw [hok p i1] at hb; cases hb
  · exact hne (inv p g hg).2
theorem long_sound {n : Nat} {ins : List Ins} (hn : 2 ≤ n) (h2 : n ≤ 100000) (h : Long n ins) : Ev (fun k => code_Sound.f k [(⟨ins, 1, 0, false⟩ : Cod)] 0) (decide ((n : Int) ≤ 65536)) := by
  have hf : FitC [(⟨ins, 1, 0, false⟩ : Cod)] := fun x hx => by simp at hx; subst hx; exact long_fit (by omega) h2 h
  obtain ⟨r, r1, _, r3⟩ := Sound_both _ hf 0
  have e : r = decide ((n : Int) ≤ 65536) := by
    have key : r = true ↔ (n : Int) ≤ 65536 := by
      rw [r3]
      constructor
      · intro hS
        obtain ⟨t, ht, ht2⟩ := hS.2 0 (by simp)
        rcases ht with ⟨_, hs, _⟩ | ⟨rfl, _⟩
        · have h9 : (rdC [(⟨ins, 1, 0, false⟩ : Cod)] ((0 : Nat) : Int)).f0.length ≤ 65536 := hs.1.2.1
          have h8 : (rdC [(⟨ins, 1, 0, false⟩ : Cod)] ((0 : Nat) : Int)).f0.length = n := h.1
          omega
        · cases ht2
      · intro hle
        refine ⟨⟨by simp, by simp, by decide, by simp, rfl, rfl⟩, fun k hk => ?_⟩
        obtain rfl : k = 0 := by simp at hk; exact hk
        obtain ⟨t, _, ht⟩ := Heights_ok _ hf 0 (by simp)
        have hsh := long_shape hn (by omega) h [(⟨ins, 1, 0, false⟩ : Cod)]
        have ht' : HTells [(⟨ins, 1, 0, false⟩ : Cod)] (⟨ins, 1, 0, false⟩ : Cod) t := ht
        refine ⟨t, ht, ?_⟩
        rcases ht' with ⟨a, _⟩ | ⟨_, hb⟩
        · exact a
        · rcases hb with hb | ⟨hs, hb⟩
          · exact absurd hsh hb
          · exact absurd hb (long_good hn h _ _)
    cases r with
    | true => exact (decide_eq_true (key.1 rfl)).symm
    | false => exact (decide_eq_false (fun h9 => by have := key.2 h9; cases this)).symm
  rw [← e]
  exact r1
theorem rdI_append_left (a b : List Ins) (p : Nat) (h : p < a.length) : rdI (a ++ b) (p : Int) = rdI a p := by
  rw [rdI_at _ _ (by simp; omega), rdI_at _ _ h, List.getElem_append_left h]
theorem long_plain (n : Nat) (hn : 2 ≤ n) : Long n (List.replicate (n - 1) clr ++ [lev]) := by
  refine ⟨by simp; omega, fun p hp => .inl ?_, ?_⟩
  · rw [rdI_append_left _ _ _ (by simp; omega), rdI_at _ _ (by simp; omega), List.getElem_replicate]
  · rw [rdI_at _ _ (by simp), List.getElem_append_right (by simp)]
    simp
theorem long_jump (n : Nat) (hn : 2 ≤ n) : Long n ((List.replicate (n - 1) clr ++ [lev]).set 0 (jmp n)) := by
  obtain ⟨hl, h1, h2⟩ := long_plain n hn
  refine ⟨by rw [List.length_set]; exact hl, fun p hp => ?_, ?_⟩
  · by_cases e : p = 0
    · subst e
      right
      refine ⟨rfl, ?_⟩
      rw [rdI_at _ _ (by rw [List.length_set, hl]; omega)]
      simp
    · left
      rcases h1 p hp with h | h
      · rw [rdI_at _ _ (by rw [List.length_set, hl]; omega), List.getElem_set_ne (fun h => e h.symm), ← rdI_at _ _ (by rw [hl]; omega)]
        exact h
      · exact absurd h.1 e
  · rw [rdI_at _ _ (by rw [List.length_set, hl]; omega), List.getElem_set_ne (by omega), ← rdI_at _ _ (by rw [hl]; omega)]
    exact h2
theorem long_loop (n : Nat) (jump : Bool) (hn : 2 ≤ n) (h2 : n ≤ 100000) : ∀ (d i : Nat), i + d = n - 1 → Ev (fun k => parallaxlaw08_CodeLong.l0 k n jump i (List.replicate i clr) 1 0 false) true := by
  have w1 : wrap64 ((n : Int) - 1) = ((n - 1 : Nat) : Int) := by rw [w64 (by omega) (by omega)]; omega
  intro d
  induction d with
  | zero =>
    intro i hi
    obtain rfl : i = n - 1 := by omega
    refine evs ?_
    have c1 := ff (show ¬ ((n - 1 : Nat) : Int) < ((n - 1 : Nat) : Int) by omega)
    have c2 := tt (show (List.replicate (n - 1) clr).length < 5864062014805 by rw [List.length_replicate]; omega)
    have eb : ∀ b : Bool, (b == b) = true := fun b => by simp
    simp only [parallaxlaw08_CodeLong.l0, w1, c1, if_false, c2, if_true, Option.bind_some]
    rw [show (⟨20, 0, 0⟩ : Ins) = lev from rfl]
    cases jump with
    | true =>
      have c3 := tt (show (0 : Int) < ((List.replicate (n - 1) clr ++ [lev]).length : Int) by simp)
      simp only [if_true, c3]
      have := long_sound hn h2 (long_jump n hn)
      refine Ev.bind this ?_
      simp only [eb, if_true]
      exact known_fin
    | false =>
      have c3 := ff (show ¬ (false = true) by decide)
      simp only [c3, if_false]
      refine Ev.bind (long_sound hn h2 (long_plain n hn)) ?_
      simp only [eb, if_true]
      exact known_fin
  | succ d ih =>
    intro i hi
    refine evs ?_
    have c1 := tt (show (i : Int) < ((n - 1 : Nat) : Int) by omega)
    have c2 := tt (show (List.replicate i clr).length < 5864062014805 by rw [List.length_replicate]; omega)
    have b1 : i + 1 ≤ 1000000000000 := by omega
    simp only [parallaxlaw08_CodeLong.l0, w1, c1, c2, if_true, wsucc b1]
    rw [show (⟨6, 0, 1⟩ : Ins) = clr from rfl, ← List.replicate_succ']
    exact ih (i + 1) (by omega)
theorem CodeLong : parallaxlaw08_CodeLong.Pure := by
  intro a jump ha
  refine Ev.rounds ?_
  unfold parallaxlaw08_CodeLong.f
  have r1 : -4 < Int.tmod a 4 := Int.lt_tmod_of_pos a (by decide)
  have r2 : Int.tmod a 4 < 4 := Int.tmod_lt_of_pos a (by decide)
  generalize Int.tmod a 4 = r at r1 r2 ⊢
  have w1 : wrap64 (65534 + r) = 65534 + r := w64 (by omega) (by omega)
  have jj : ∀ n : Nat, 2 ≤ n → n ≤ 100000 → Ev (fun k => parallaxlaw08_CodeLong.j0 k n jump) true := fun n h1 h2 => by
    refine evs ?_
    simp only [parallaxlaw08_CodeLong.j0]
    exact long_loop n jump h1 h2 (n - 1) 0 (by omega)
  by_cases h : 65534 + r < 65534
  · have w2 : wrap64 (65534 + r + 4) = (((65538 + r).toNat : Nat) : Int) := by rw [w64 (by omega) (by omega)]; omega
    simp only [w1, tt h, if_true, w2]
    exact jj _ (by omega) (by omega)
  · have w2 : 65534 + r = (((65534 + r).toNat : Nat) : Int) := by omega
    simp only [w1, ff h, if_false]
    rw [w2]
    exact jj _ (by omega) (by omega)
end Go.Proofs.YtdbpdcjlbopkbaaDoor.Pure
