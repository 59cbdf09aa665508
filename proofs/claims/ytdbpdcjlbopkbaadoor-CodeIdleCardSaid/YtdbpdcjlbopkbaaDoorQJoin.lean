/- Words joined: what num.Join comes to. -/
import Derived.Test.YtdbpdcjlbopkbaaDoorPx2
import Derived.Test.YtdbpdcjlbopkbaaDoorQStr
-- use: QStr
namespace Go.Proofs.YtdbpdcjlbopkbaaDoor.Q
set_option linter.unusedVariables false
set_option linter.unusedSimpArgs false
open Go.RowKit Go.Proofs.YtdbpdcjlbopkbaaDoorW.PrintWords Go.Proofs.YtdbpdcjlbopkbaaDoorW.PrintLast Go.Proofs.YtdbpdcjlbopkbaaDoorW.PrintMore Go.Proofs.YtdbpdcjlbopkbaaDoor.P

/-- Words with a blank between any two; behind something: with one ahead. -/
def jn : Bool → List (List Int) → List Int
  | _, [] => []
  | false, w :: l => w ++ jn true l
  | true, w :: l => 32 :: (w ++ jn true l)
def tl : List (List Int) → Nat
  | [] => 0
  | w :: l => 1 + w.length + tl l
theorem jn_len : ∀ (b : Bool) (l : List (List Int)), (jn b l).length ≤ tl l
  | _, [] => by simp [jn]
  | false, w :: l => by have := jn_len true l; simp only [jn, tl, List.length_append]; omega
  | true, w :: l => by have := jn_len true l; simp only [jn, tl, List.length_append, List.length_cons]; omega
theorem bdrop_rd {l : List ByteArray} {i : Nat} (h : i < l.length) : l.drop i = rdOf ByteArray.empty l i :: l.drop (i + 1) := by
  rw [List.drop_eq_getElem_cons h]
  simp [rdOf, List.getD, h]
theorem Join_loop (l : List ByteArray) : ∀ (d i : Nat) (out : List Int), i + d = l.length → l.length ≤ 9000000000000000000 → (i = 0 → out = []) → out.length + tl ((l.drop i).map bytesOf) < 140737488355328 →
    Ev (fun k => num_Join.l0 k out l l.length i) (strOfNums (out ++ jn (decide (0 < i)) ((l.drop i).map bytesOf))) := by
  intro d
  induction d with
  | zero =>
    intro i out hd hlen h0 hsz
    rw [List.drop_of_length_le (by omega)]
    refine evs ?_
    have c1 := ff (show ¬ (i : Int) < (l.length : Int) by omega)
    simp only [num_Join.l0, c1, if_false, List.map_nil, jn, List.append_nil]
    exact Ev.now _
  | succ d ih =>
    intro i out hd hlen h0 hsz
    have hi : i < l.length := by omega
    have c1 := tt (show (i : Int) < (l.length : Int) by omega)
    have c2 := tt (show (0 : Int) ≤ i by omega)
    have c4 : wrap64 ((i : Int) + 1) = ((i + 1 : Nat) : Int) := by rw [w64 (by omega) (by omega)]; rfl
    rw [bdrop_rd hi] at hsz ⊢
    generalize hs : rdOf ByteArray.empty l i = s at hsz ⊢
    simp only [List.map_cons, tl, bytesOf_length] at hsz
    have hnext : decide (0 < i + 1) = true := by simp
    by_cases h : 0 < i
    · have c5 := tt (show (i : Int) > 0 by omega)
      have c6 := tt (show out.length < 140737488355328 by omega)
      have c7 := tt (show (out ++ [32]).length + s.size < 140737488355328 by simp only [List.length_append, List.length_cons, List.length_nil]; omega)
      have := ih (i + 1) (out ++ [32] ++ bytesOf s) (by omega) hlen (by omega) (by simp only [List.length_append, List.length_cons, List.length_nil, bytesOf_length]; omega)
      rw [hnext] at this
      have e : decide (0 < i) = true := decide_eq_true h
      rw [e]
      refine evs ?_
      simp only [num_Join.l0, c1, c2, c4, c5, c6, if_true, Option.bind_some, hs, c7]
      simp only [List.map_cons, jn]
      rw [show out ++ 32 :: (bytesOf s ++ jn true (List.map bytesOf (l.drop (i + 1)))) = out ++ [32] ++ bytesOf s ++ jn true (List.map bytesOf (l.drop (i + 1))) by simp]
      exact this
    · have hz : i = 0 := by omega
      have ho := h0 hz
      have c5 := ff (show ¬ (i : Int) > 0 by omega)
      have c7 := tt (show out.length + s.size < 140737488355328 by omega)
      have := ih (i + 1) (out ++ bytesOf s) (by omega) hlen (by omega) (by simp only [List.length_append, bytesOf_length]; omega)
      rw [hnext] at this
      have e : decide (0 < i) = false := decide_eq_false h
      rw [e]
      refine evs ?_
      simp only [num_Join.l0, c1, c2, c4, c5, if_true, if_false, hs, c7]
      simp only [List.map_cons, jn]
      rw [← List.append_assoc]
      exact this
theorem Join_ok (l : List ByteArray) (hlen : l.length ≤ 9000000000000000000) (hsz : tl (l.map bytesOf) < 140737488355328) : Ev (fun k => num_Join.f k l) (strOfNums (jn false (l.map bytesOf))) := by
  have := Join_loop l l.length 0 [] (by omega) hlen (fun _ => rfl) (by simpa using hsz)
  exact this
theorem jn_byte : ∀ (b : Bool) (l : List (List Int)), (∀ w ∈ l, ∀ c ∈ w, Byte c) → ∀ c ∈ jn b l, Byte c
  | _, [], _ => fun c hc => by simp [jn] at hc
  | false, w :: l, h => fun c hc => by
    simp only [jn, List.mem_append] at hc
    rcases hc with hc | hc
    · exact h w (by simp) c hc
    · exact jn_byte true l (fun w hw => h w (by simp [hw])) c hc
  | true, w :: l, h => fun c hc => by
    simp only [jn, List.mem_cons, List.mem_append] at hc
    rcases hc with hc | hc | hc
    · subst hc; exact ⟨by omega, by omega⟩
    · exact h w (by simp) c hc
    · exact jn_byte true l (fun w hw => h w (by simp [hw])) c hc
theorem bytes_byte {l : List ByteArray} : ∀ w ∈ l.map bytesOf, ∀ c ∈ w, Byte c := by
  intro w hw c hc
  obtain ⟨s, _, rfl⟩ := List.mem_map.1 hw
  exact bytesOf_byte hc
end Go.Proofs.YtdbpdcjlbopkbaaDoor.Q
