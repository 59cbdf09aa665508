/- Which texts layer 1's statements look at. -/
import Derived.Test.YtpkagkjldfbcfaaPx4
import Derived.Test.YtpkagkjldfbcfaaQStr
-- use: QStr
namespace Go.Proofs.Ytpkagkjldfbcfaa.Q
set_option linter.unusedVariables false
set_option linter.unusedSimpArgs false
open Go.RowKit Go.Proofs.YtpkagkjldfbcfaaW.PrintWords Go.Proofs.YtpkagkjldfbcfaaW.PrintLast Go.Proofs.YtpkagkjldfbcfaaW.PrintMore Go.Proofs.Ytpkagkjldfbcfaa.P
/-- How much texts hold, each counted with one more. -/
def total : List ByteArray → Nat
  | [] => 0
  | s :: l => 1 + s.size + total l
theorem rdOf_get {l : List ByteArray} {i : Nat} (h : i < l.length) : rdOf ByteArray.empty l i = l[i] := by simp [rdOf, List.getD, h]
theorem drop_rdOf {l : List ByteArray} {i : Nat} (h : i < l.length) : l.drop i = rdOf ByteArray.empty l i :: l.drop (i + 1) := by
  rw [List.drop_eq_getElem_cons h, rdOf_get h]
theorem long_loop (l : List ByteArray) (hl : l.length ≤ 8796093022208) (hsz : ∀ s ∈ l, s.size ≤ 140737488351232) : ∀ (d i n : Nat), i + d = l.length → n ≤ 140737488355000 →
    ∃ b, Ev (fun k => parallaxlaw01_long.l0 k l n i) b ∧ (b = false → n + total (l.drop i) ≤ 3000) := by
  intro d
  induction d with
  | zero =>
    intro i n hd hn
    have c1 := ff (show ¬ (i : Int) < (l.length : Int) by omega)
    refine ⟨decide ((n : Int) > 3000), evs ?_, fun h => ?_⟩
    · simp only [parallaxlaw01_long.l0, c1, if_false]
      exact Ev.now _
    · rw [List.drop_of_length_le (by omega)]
      have := of_decide_eq_false h
      simp only [total]
      omega
  | succ d ih =>
    intro i n hd hn
    have hi : i < l.length := by omega
    have c1 := tt (show (i : Int) < (l.length : Int) by omega)
    by_cases h : n ≤ 3000
    · have c2 := tt (show (n : Int) ≤ 3000 by omega)
      have c3 := tt (show (0 : Int) ≤ i by omega)
      have c4 : wrap64 ((i : Int) + 1) = ((i + 1 : Nat) : Int) := by rw [w64 (by omega) (by omega)]; rfl
      have hm := hsz (rdOf ByteArray.empty l i) (by rw [rdOf_get hi]; exact List.getElem_mem _)
      have hdr := drop_rdOf hi
      generalize rdOf ByteArray.empty l i = s at hm hdr
      have c5 : wrap64 (wrap64 ((n : Int) + 1) + (s.size : Int)) = ((n + 1 + s.size : Nat) : Int) := by
        rw [w64 (n := (n : Int) + 1) (by omega) (by omega), w64 (by omega) (by omega)]; omega
      obtain ⟨b, hb, hb2⟩ := ih (i + 1) (n + 1 + s.size) (by omega) (by omega)
      refine ⟨b, evs ?_, fun hh => ?_⟩
      · have e : rdOf ByteArray.empty l i = s := by
          have := (drop_rdOf hi).symm.trans hdr
          simp only [List.cons.injEq] at this
          exact this.1
        simp only [parallaxlaw01_long.l0, c1, c2, c3, c4, e, c5, if_true]
        exact hb
      · have := hb2 hh
        rw [hdr]
        simp only [total]
        omega
    · have c2 := ff (show ¬ (n : Int) ≤ 3000 by omega)
      refine ⟨decide ((n : Int) > 3000), evs ?_, fun hh => ?_⟩
      · simp only [parallaxlaw01_long.l0, c1, c2, if_true, if_false]
        exact Ev.now _
      · have := of_decide_eq_false hh
        omega
theorem long_ok (l : List ByteArray) (hl : l.length ≤ 8796093022208) (hsz : ∀ s ∈ l, s.size ≤ 140737488351232) : ∃ b, Ev (fun k => parallaxlaw01_long.f k l) b ∧ (b = false → total l ≤ 3000) := by
  obtain ⟨b, h1, h2⟩ := long_loop l hl hsz l.length 0 0 (by omega) (by omega)
  exact ⟨b, h1, fun h => by have := h2 h; simpa using this⟩
theorem long_one (s : ByteArray) (hs : s.size ≤ 140737488351232) : ∃ b, Ev (fun k => parallaxlaw01_long.f k [s]) b ∧ (b = false → s.size ≤ 3000) := by
  obtain ⟨b, h1, h2⟩ := long_ok [s] (by simp) (by simpa using hs)
  exact ⟨b, h1, fun h => by have := h2 h; simp only [total] at this; omega⟩
end Go.Proofs.Ytpkagkjldfbcfaa.Q
