/- Words of a join are those that were joined, where there are any and none has a blank; at every input, without a condition. -/
import Derived.Test.YtpkagkjldfbcfaaPx8
import Derived.Test.YtpkagkjldfbcfaaQLong01
import Derived.Test.YtpkagkjldfbcfaaQSame
import Derived.Test.YtpkagkjldfbcfaaQWords
import Derived.Test.YtpkagkjldfbcfaaQRefWords
import Derived.Test.YtpkagkjldfbcfaaQJoin
import Derived.Test.YtpkagkjldfbcfaaQKnown01
-- use: QLong01
-- use: QSame
-- use: QWords
-- use: QRefWords
-- use: QJoin
-- use: QKnown01
namespace Go.Proofs.Ytpkagkjldfbcfaa.Pure
set_option linter.unusedVariables false
set_option linter.unusedSimpArgs false
open Go.RowKit Go.Proofs.Ytpkagkjldfbcfaa.P Go.Proofs.YtpkagkjldfbcfaaW.PrintWords Go.Proofs.YtpkagkjldfbcfaaW.PrintLast Go.Proofs.YtpkagkjldfbcfaaW.PrintMore Go.Proofs.Ytpkagkjldfbcfaa.Q

theorem total_tl (l : List ByteArray) : tl (l.map bytesOf) = total l := by
  induction l with
  | nil => rfl
  | cons s l ih => simp only [List.map_cons, tl, total, ih, bytesOf_length]
/-- No word up to the i-th one has a blank. -/
def clean (l : List ByteArray) (i : Nat) : Prop := ∀ j, j < i → ∀ c ∈ bytesOf (rdOf ByteArray.empty l j), c ≠ 32
theorem clean_all {l : List ByteArray} (h : clean l l.length) : ∀ w ∈ l.map bytesOf, ∀ c ∈ w, c ≠ 32 := by
  intro w hw
  obtain ⟨s, hs, rfl⟩ := List.mem_map.1 hw
  obtain ⟨j, hj, rfl⟩ := List.mem_iff_getElem.1 hs
  have := h j hj
  rwa [rdOf_get hj] at this
theorem map_strs (l : List ByteArray) : (l.map bytesOf).map strOfNums = l := by
  rw [List.map_map]
  conv => rhs; rw [← List.map_id l]
  exact List.map_congr_left (fun s _ => strOfNums_bytesOf s)
theorem j3_ok (l : List ByteArray) (hlen : l.length ≤ 3000) (ht : total l ≤ 3000) (hc : clean l l.length) (b : Bool) (hb : b = true ↔ (l = [] ∨ l.map bytesOf = [[]])) : Ev (fun k => parallaxlaw01_NumJoined.j3 k l b) true := by
  have hJ := Join_ok l (by omega) (by rw [total_tl]; omega)
  have hbytes : bytesOf (strOfNums (jn false (l.map bytesOf))) = jn false (l.map bytesOf) := bytesOf_strOfNums (jn_byte _ _ bytes_byte)
  have hW := Words_ok (strOfNums (jn false (l.map bytesOf))) (by rw [strOf_size]; have := jn_len false (l.map bytesOf); rw [total_tl] at this; omega)
  rw [hbytes] at hW
  refine evs ?_
  cases b with
  | true =>
    have e : jn false (l.map bytesOf) = [] := by
      rcases hb.1 rfl with h | h
      · rw [h]; rfl
      · rw [h]; rfl
    have ew : (wordsL (jn false (l.map bytesOf))).map strOfNums = [] := by rw [e]; rfl
    rw [ew] at hW
    simp only [parallaxlaw01_NumJoined.j3, if_true]
    refine Ev.bind hJ (Ev.bind hW ?_)
    have c1 := tt (show ((([] : List ByteArray).length : Nat) : Int) = 0 from rfl)
    simp only [c1, if_true]
    exact known_fin
  | false =>
    have hn : ¬ (l = [] ∨ l.map bytesOf = [[]]) := fun h => by have := hb.2 h; cases this
    have ew : (wordsL (jn false (l.map bytesOf))).map strOfNums = l := by
      rw [words_jn _ (clean_all hc) (fun h => hn (.inl (List.map_eq_nil_iff.1 h))) (fun h => hn (.inr h)), map_strs]
    rw [ew] at hW
    have c := ff (show ¬ (false = true) by decide)
    simp only [parallaxlaw01_NumJoined.j3, c, if_false]
    refine Ev.bind hJ (Ev.bind hW (Ev.bind (Same_ok l (by omega)) ?_))
    simp only [if_true]
    exact known_fin
theorem loops (l : List ByteArray) (hlen : l.length ≤ 3000) (ht : total l ≤ 3000) (hsz : ∀ j, j < l.length → (rdOf ByteArray.empty l j).size ≤ 3000) : ∀ (d i : Nat), i + d = l.length → clean l i → Ev (fun k => parallaxlaw01_NumJoined.l0 k l i) true := by
  intro d
  induction d with
  | zero =>
    intro i hd hc
    obtain rfl : i = l.length := by omega
    refine evs ?_
    have c1 := ff (show ¬ ((l.length : Nat) : Int) < (l.length : Int) by omega)
    simp only [parallaxlaw01_NumJoined.l0, c1, if_false]
    by_cases h0 : l.length = 0
    · have c2 := tt (show (l.length : Int) = 0 by omega)
      simp only [c2, if_true]
      exact j3_ok l hlen ht hc true ⟨fun _ => .inl (List.eq_nil_of_length_eq_zero h0), fun _ => rfl⟩
    · have c2 := ff (show ¬ (l.length : Int) = 0 by omega)
      simp only [c2, if_false]
      by_cases h1 : l.length = 1
      · have c3 := tt (show (l.length : Int) = 1 by omega)
        have c4 := tt (show 0 < (l.length : Int) by omega)
        obtain ⟨s, rfl⟩ := List.length_eq_one_iff.1 h1
        have er : rdOf ByteArray.empty [s] 0 = s := rfl
        simp only [c3, c4, if_true, er]
        refine j3_ok [s] hlen ht hc _ ?_
        rw [beq_iff_eq, toList_nil]
        simp
      · have c3 := ff (show ¬ (l.length : Int) = 1 by omega)
        simp only [c3, if_false]
        refine j3_ok l hlen ht hc false ⟨(fun h => by cases h), fun h => ?_⟩
        exfalso
        rcases h with h | h
        · subst h; exact h0 rfl
        · have := congrArg List.length h
          simp at this
          omega
  | succ d ih =>
    intro i hd hc
    have hi : i < l.length := by omega
    have c1 := tt (show (i : Int) < (l.length : Int) by omega)
    have c2 := tt (show (0 : Int) ≤ i by omega)
    have c3 : wrap64 ((i : Int) + 1) = ((i + 1 : Nat) : Int) := by rw [w64 (by omega) (by omega)]; rfl
    have hs := hsz i hi
    have inner : ∀ (e j : Nat), j + e = (rdOf ByteArray.empty l i).size → (∀ c ∈ (bytesOf (rdOf ByteArray.empty l i)).take j, c ≠ 32) → Ev (fun k => parallaxlaw01_NumJoined.l1 k l i j) true := by
      intro e
      induction e with
      | zero =>
        intro j hj hcl
        refine evs ?_
        have c4 := ff (show ¬ (j : Int) < ((rdOf ByteArray.empty l i).size : Int) by omega)
        simp only [parallaxlaw01_NumJoined.l1, c1, c2, c3, c4, if_true, if_false]
        refine ih (i + 1) (by omega) (fun m hm => ?_)
        rcases Nat.lt_or_ge m i with h | h
        · exact hc m h
        · obtain rfl : m = i := by omega
          rwa [List.take_of_length_le (by rw [bytesOf_length]; omega)] at hcl
      | succ e ihe =>
        intro j hj hcl
        have hjl : j < (bytesOf (rdOf ByteArray.empty l i)).length := by rw [bytesOf_length]; omega
        have c4 := tt (show (j : Int) < ((rdOf ByteArray.empty l i).size : Int) by omega)
        have c5 := tt (show (0 : Int) ≤ j by omega)
        have c6 : wrap64 ((j : Int) + 1) = ((j + 1 : Nat) : Int) := by rw [w64 (by omega) (by omega)]; rfl
        have hb := bt_cast (rdOf ByteArray.empty l i) j
        have htk : (bytesOf (rdOf ByteArray.empty l i)).take (j + 1) = (bytesOf (rdOf ByteArray.empty l i)).take j ++ [rd (bytesOf (rdOf ByteArray.empty l i)) j] := by
          rw [List.take_succ_eq_append_getElem hjl, rd_get hjl]
        generalize rd (bytesOf (rdOf ByteArray.empty l i)) j = c at hb htk
        refine evs ?_
        by_cases h : c = 32
        · have c7 := tt h
          simp only [parallaxlaw01_NumJoined.l1, c1, c2, c4, c5, c7, hb, if_true]
          exact known_fin
        · have c7 := ff h
          simp only [parallaxlaw01_NumJoined.l1, c1, c2, c4, c5, c6, c7, hb, if_true, if_false]
          refine ihe (j + 1) (by omega) ?_
          rw [htk]
          intro x hx
          rcases List.mem_append.1 hx with hx | hx
          · exact hcl x hx
          · simp at hx; subst hx; exact h
    refine evs ?_
    simp only [parallaxlaw01_NumJoined.l0, c1, if_true]
    exact inner (rdOf ByteArray.empty l i).size 0 (Nat.zero_add _) (by simp)
theorem total_each (l : List ByteArray) : l.length ≤ total l ∧ ∀ j, j < l.length → (rdOf ByteArray.empty l j).size ≤ total l := by
  have h1 : l.length ≤ total l ∧ ∀ s ∈ l, s.size ≤ total l := by
    induction l with
    | nil => exact ⟨Nat.le_refl _, fun _ h => by cases h⟩
    | cons s l ih =>
      simp only [List.length_cons, total]
      refine ⟨by omega, fun x hx => ?_⟩
      rcases List.mem_cons.1 hx with rfl | hx
      · omega
      · have := ih.2 x hx
        omega
  refine ⟨h1.1, fun j hj => ?_⟩
  rw [rdOf_get hj]
  exact h1.2 _ (List.getElem_mem _)
theorem NumJoined : parallaxlaw01_NumJoined.Pure := by
  intro l s hl hs
  refine Ev.rounds ?_
  unfold parallaxlaw01_NumJoined.f
  obtain ⟨b, hb, hb2⟩ := long_one s hs
  obtain ⟨b', hb', hb2'⟩ := long_ok l (by omega) hl.2
  have jt : Ev (fun k => parallaxlaw01_NumJoined.j0 k l s true) true := by
    refine evs ?_
    simp only [parallaxlaw01_NumJoined.j0, if_true]
    exact known_fin
  refine Ev.bind hb ?_
  cases b with
  | true =>
    simp only [if_true]
    exact jt
  | false =>
    have c := ff (show ¬ (false = true) by decide)
    simp only [c, if_false]
    refine Ev.bind hb' ?_
    cases b' with
    | true => exact jt
    | false =>
      have h1 := hb2 rfl
      have h2 := hb2' rfl
      obtain ⟨t1, t2⟩ := total_each l
      have hL := bytesOf_length s
      have hwl := words_len (bytesOf s)
      have hwt := words_tl (bytesOf s)
      have emb := map_bytes (words_byte s)
      have hJ := Join_ok ((wordsL (bytesOf s)).map strOfNums) (by simp only [List.length_map]; omega) (by rw [emb]; omega)
      rw [emb, jn_words, strOfNums_bytesOf] at hJ
      refine evs ?_
      simp only [parallaxlaw01_NumJoined.j0, c, if_false]
      refine Ev.bind (Words_ok s (by omega)) (Ev.bind hJ ?_)
      simp only [if_true]
      exact loops l (by omega) h2 (fun j hj => by have := t2 j hj; omega) l.length 0 (by omega) (fun j hj => absurd hj (by omega))

end Go.Proofs.Ytpkagkjldfbcfaa.Pure
