/- The plain texts, in one. -/
import Derived.Test.YtmbjogpphegoaaaDoorWAll
import Derived.Test.YtmbjogpphegoaaaDoorPx0
import Derived.IntWalk
import Derived.Test.YtmbjogpphegoaaaDoorPx17
import Derived.Test.YtmbjogpphegoaaaDoorWZip3
import Derived.KernelRfl
import Derived.Test.YtmbjogpphegoaaaDoorPx2
import Derived.Test.YtmbjogpphegoaaaDoorPx3
import Derived.Test.YtmbjogpphegoaaaDoorPx5
import Derived.Test.YtmbjogpphegoaaaDoorPx4
import Derived.Test.YtmbjogpphegoaaaDoorPx6
import Derived.Test.YtmbjogpphegoaaaDoorPx7
import Derived.Test.YtmbjogpphegoaaaDoorPx8
import Derived.Test.YtmbjogpphegoaaaDoorPx9
import Derived.Test.YtmbjogpphegoaaaDoorPx10
import Derived.Test.YtmbjogpphegoaaaDoorPx11
import Derived.Test.YtmbjogpphegoaaaDoorPx12
import Derived.Test.YtmbjogpphegoaaaDoorPx13
import Derived.Test.YtmbjogpphegoaaaDoorPx14
import Derived.Test.YtmbjogpphegoaaaDoorPx15
import Derived.Test.YtmbjogpphegoaaaDoorPx16
import Derived.Test.YtmbjogpphegoaaaDoorRows
import Derived.LaidLaws
import Derived.ChangeArms
import Derived.Lib.LaidTab
import Derived.SizedLaws
import Derived.WideShapes
section
/- What the pure proofs lean on: rounds, wrapped sums. -/
namespace Go.Proofs.YtmbjogpphegoaaaDoor.Q
set_option linter.unusedVariables false
set_option linter.unusedSimpArgs false
open Go.RowKit Go.Proofs.YtmbjogpphegoaaaDoorW.PrintWords Go.Proofs.YtmbjogpphegoaaaDoorW.PrintLast Go.Proofs.YtmbjogpphegoaaaDoorW.PrintMore Go.Proofs.YtmbjogpphegoaaaDoor.P

theorem evs {α : Type} {g : Nat → Option α} {r : α} (h : Ev (fun k => g (k + 1)) r) : Ev g r := Ev.step (fun _ => rfl) h

theorem tt {c : Prop} (h : c) : c = True := eq_true h
theorem ff {c : Prop} (h : ¬ c) : c = False := eq_false h
theorem w64 {n : Int} (h0 : -9223372036854775808 ≤ n) (h1 : n ≤ 9223372036854775807) : wrap64 n = n := by unfold wrap64; omega
theorem wsucc {a : Nat} (h : a + 1 ≤ 1000000000000) : wrap64 ((a : Int) + 1) = ((a + 1 : Nat) : Int) := by rw [w64 (by omega) (by omega)]; rfl
theorem w64_range (a : Int) : -9223372036854775808 ≤ wrap64 a ∧ wrap64 a ≤ 9223372036854775807 := by unfold wrap64; omega
theorem wf64 {a : Int} (h : (Lit.int .i64 a).wf = true) : -9223372036854775808 ≤ a ∧ a ≤ 9223372036854775807 := by
  simpa [Lit.wf, IntKind.min, IntKind.max, IntKind.bits, IntKind.signed] using h

end Go.Proofs.YtmbjogpphegoaaaDoor.Q
end
section
/- Texts as lists of byte values. -/
namespace Go.Proofs.YtmbjogpphegoaaaDoor.Q
set_option linter.unusedVariables false
set_option linter.unusedSimpArgs false
open Go.RowKit Go.Proofs.YtmbjogpphegoaaaDoorW.PrintWords Go.Proofs.YtmbjogpphegoaaaDoorW.PrintLast Go.Proofs.YtmbjogpphegoaaaDoorW.PrintMore Go.Proofs.YtmbjogpphegoaaaDoor.P

theorem data_inj {a b : ByteArray} (h : a.data.toList = b.data.toList) : a = b := by
  cases a; cases b; simp at h; simp [h]
theorem toNat_inj : ∀ {a b : List UInt8}, (a.map fun x => ((x.toNat : Nat) : Int)) = (b.map fun x => ((x.toNat : Nat) : Int)) → a = b
  | [], [], _ => rfl
  | [], _ :: _, h => by simp at h
  | _ :: _, [], h => by simp at h
  | x :: a, y :: b, h => by
    simp only [List.map_cons, List.cons.injEq] at h
    obtain ⟨h1, h2⟩ := h
    have : x = y := UInt8.toNat_inj.mp (by omega)
    rw [this, toNat_inj h2]
theorem bytesOf_inj {a b : ByteArray} (h : bytesOf a = bytesOf b) : a = b := data_inj (toNat_inj h)
def Byte (c : Int) : Prop := 0 ≤ c ∧ c ≤ 255
theorem bytesOf_byte {s : ByteArray} {c : Int} (h : c ∈ bytesOf s) : Byte c := by
  obtain ⟨x, _, rfl⟩ := List.mem_map.1 h
  have := x.toNat_lt
  exact ⟨by omega, by omega⟩
theorem bytesOf_strOfNums {l : List Int} (h : ∀ c ∈ l, Byte c) : bytesOf (strOfNums l) = l := by
  unfold bytesOf strOfNums
  simp only [List.map_map]
  rw [List.map_congr_left (g := id) (fun c hc => ?_), List.map_id]
  obtain ⟨h0, h1⟩ := h c hc
  simp only [Function.comp, id]
  rw [UInt8.toNat_ofNat', Nat.mod_eq_of_lt (by omega)]
  omega
theorem strOfNums_bytesOf (s : ByteArray) : strOfNums (bytesOf s) = s := bytesOf_inj (bytesOf_strOfNums (fun _ h => bytesOf_byte h))
theorem rd_get {l : List Int} {i : Nat} (h : i < l.length) : rd l i = l[i] := by simp [rd, List.getD, h]
end Go.Proofs.YtmbjogpphegoaaaDoor.Q
end
section
/- The reference's difference, opposite and size, in plain arithmetic. -/
namespace Go.Proofs.YtmbjogpphegoaaaDoor.Q
set_option linter.unusedVariables false
set_option linter.unusedSimpArgs false
open Go.RowKit Go.Proofs.YtmbjogpphegoaaaDoorW.PrintWords Go.Proofs.YtmbjogpphegoaaaDoorW.PrintLast Go.Proofs.YtmbjogpphegoaaaDoorW.PrintMore Go.Proofs.YtmbjogpphegoaaaDoor.P

theorem Ev.fin {α : Type} {g : Nat → Option α} {r : α} (h : Ev g r) : Ev (fun k => (g k).bind fun t => some t) r := Ev.bind h (Ev.now _)

end Go.Proofs.YtmbjogpphegoaaaDoor.Q
end
section
/- Texts of numbers: the digits, and that both programs lay the same. -/
namespace Go.Proofs.YtmbjogpphegoaaaDoor.Q
set_option linter.unusedVariables false
set_option linter.unusedSimpArgs false
open Go.RowKit Go.Proofs.YtmbjogpphegoaaaDoorW.PrintWords Go.Proofs.YtmbjogpphegoaaaDoorW.PrintLast Go.Proofs.YtmbjogpphegoaaaDoorW.PrintMore Go.Proofs.YtmbjogpphegoaaaDoor.P

/-- A digit's sign. -/
def Digit (c : Int) : Prop := 48 ≤ c ∧ c ≤ 57
/-- What digits are worth, behind some number. -/
def dv : List Int → Nat → Nat
  | [], u => u
  | c :: l, u => dv l (u * 10 + (c - 48).toNat)
theorem dv_append (a b : List Int) : ∀ u, dv (a ++ b) u = dv b (dv a u) := by
  induction a with
  | nil => intro u; rfl
  | cons c a ih => intro u; exact ih _
/-- A row of digits as one writes a number: the first one not 0, unless it is alone. -/
def Canon (l : List Int) : Prop := (∀ c ∈ l, Digit c) ∧ l ≠ [] ∧ (rd l 0 = 48 → l.length = 1)

theorem digs_canon : ∀ (k : Nat) (u : Nat) (acc : List Int), 1 ≤ k → u < 10 ^ k → ∃ ds, num_Text.digs k u acc = ds ++ acc ∧ Canon ds ∧ dv ds 0 = u ∧ ds.length ≤ k
  | 0, u, acc, h, _ => absurd h (by omega)
  | k + 1, u, acc, _, hu => by
    have hdig : Digit (48 + (u : Int) % 10) := ⟨by omega, by omega⟩
    rw [num_Text.digs_succ]
    by_cases h : (u : Int) / 10 = 0
    · rw [if_pos h]
      refine ⟨[48 + (u : Int) % 10], rfl, ⟨?_, by simp, fun _ => rfl⟩, ?_, by simp⟩
      · intro c hc
        simp at hc
        subst hc
        exact hdig
      · simp only [dv]; omega
    · rw [if_neg h]
      have hk : 1 ≤ k := by
        rcases Nat.eq_zero_or_pos k with e | e
        · subst e
          simp at hu
          omega
        · exact e
      obtain ⟨ds, e, ⟨c1, c2, c3⟩, hv, hl⟩ := digs_canon k (u / 10) ((48 + (u : Int) % 10) :: acc) hk (by rw [Nat.pow_succ] at hu; omega)
      have e2 : num_Text.digs k ((u : Int) / 10) ((48 + (u : Int) % 10) :: acc) = num_Text.digs k ((u / 10 : Nat) : Int) ((48 + (u : Int) % 10) :: acc) := by congr 1
      rw [e2, e]
      refine ⟨ds ++ [48 + (u : Int) % 10], by simp, ⟨?_, by simp, ?_⟩, ?_, by simp; omega⟩
      · intro c hc
        rcases List.mem_append.1 hc with h | h
        · exact c1 c h
        · simp at h
          subst h
          exact hdig
      · intro h0
        exfalso
        have hl0 : 0 < ds.length := List.length_pos_iff.2 c2
        have h48 : rd ds 0 = 48 := by
          have h1 : rd (ds ++ [48 + (u : Int) % 10]) ((0 : Nat) : Int) = rd ds ((0 : Nat) : Int) := by
            rw [rd_get (by simp), rd_get hl0, List.getElem_append_left hl0]
          exact h1.symm.trans h0
        have h1 := c3 h48
        obtain ⟨x, rfl⟩ := List.length_eq_one_iff.1 h1
        have : x = 48 := h48
        subst this
        simp [dv] at hv
        omega
      · rw [dv_append, hv]
        simp only [dv]
        omega

/-- A number's text, as a list of byte values. -/
def T (a : Int) : List Int := if a < 0 then 45 :: num_Text.digs 20 (num_Text.abs a) [] else num_Text.digs 20 (num_Text.abs a) []
theorem num_abs (a : Int) : num_Text.abs a = ((a.natAbs : Nat) : Int) := by unfold num_Text.abs; split <;> omega
theorem T_form (a : Int) (h0 : -9223372036854775808 ≤ a) (h1 : a ≤ 9223372036854775807) : ∃ ds, Canon ds ∧ dv ds 0 = a.natAbs ∧ ds.length ≤ 20 ∧ T a = if a < 0 then 45 :: ds else ds := by
  obtain ⟨ds, e, hc, hv, hl⟩ := digs_canon 20 a.natAbs [] (by omega) (by omega)
  refine ⟨ds, hc, hv, hl, ?_⟩
  unfold T
  rw [num_abs, e, List.append_nil]
theorem T_byte (a : Int) (h0 : -9223372036854775808 ≤ a) (h1 : a ≤ 9223372036854775807) : ∀ c ∈ T a, Byte c := by
  obtain ⟨ds, ⟨c1, _, _⟩, _, _, e⟩ := T_form a h0 h1
  intro c hc
  rw [e] at hc
  split at hc
  · rcases List.mem_cons.1 hc with rfl | h
    · exact ⟨by omega, by omega⟩
    · obtain ⟨x, y⟩ := c1 c h; exact ⟨by omega, by omega⟩
  · obtain ⟨x, y⟩ := c1 c hc; exact ⟨by omega, by omega⟩
theorem Text_eq (a : Int) (h0 : -9223372036854775808 ≤ a) (h1 : a ≤ 9223372036854775807) : num_Text.f a = some (strOfNums (T a)) := by
  unfold num_Text.f T
  rw [if_pos h0, if_pos h1]
  split <;> rfl
theorem T_len (a : Int) (h0 : -9223372036854775808 ≤ a) (h1 : a ≤ 9223372036854775807) : (T a).length ≤ 21 := by
  obtain ⟨ds, _, _, hl, e⟩ := T_form a h0 h1
  rw [e]
  split
  · simp; omega
  · omega

end Go.Proofs.YtmbjogpphegoaaaDoor.Q
end
section
/- Words joined: what num.Join comes to. -/
namespace Go.Proofs.YtmbjogpphegoaaaDoor.Q
set_option linter.unusedVariables false
set_option linter.unusedSimpArgs false
open Go.RowKit Go.Proofs.YtmbjogpphegoaaaDoorW.PrintWords Go.Proofs.YtmbjogpphegoaaaDoorW.PrintLast Go.Proofs.YtmbjogpphegoaaaDoorW.PrintMore Go.Proofs.YtmbjogpphegoaaaDoor.P

/-- Words with a blank between any two; behind something: with one ahead. -/
def jn : Bool → List (List Int) → List Int
  | _, [] => []
  | false, w :: l => w ++ jn true l
  | true, w :: l => 32 :: (w ++ jn true l)
def tl : List (List Int) → Nat
  | [] => 0
  | w :: l => 1 + w.length + tl l
theorem bdrop_rd {l : List ByteArray} {i : Nat} (h : i < l.length) : l.drop i = rdOf ByteArray.empty l i :: l.drop (i + 1) := by
  rw [List.drop_eq_getElem_cons h]
  simp [rdOf, List.getD, h]
theorem Join_loop (l : List ByteArray) : ∀ (d i : Nat) (out : List Int), i + d = l.length → l.length ≤ 9000000000000000000 → (i = 0 → out = []) → out.length + tl ((l.drop i).map bytesOf) < 140737488355328 →
    Ev (fun k => num_Join.l0 k out l l.length i) (strOfNums (out ++ jn (decide (0 < i)) ((l.drop i).map bytesOf))) := by
  intro d
  induction d with
  | zero =>
    intro i out hd hlen h0 hsz
    rw [List.drop_of_length_le (by omega)]
    refine evs ?_
    have c1 := ff (show ¬ (i : Int) < (l.length : Int) by omega)
    simp only [num_Join.l0, c1, if_false, List.map_nil, jn, List.append_nil]
    exact Ev.now _
  | succ d ih =>
    intro i out hd hlen h0 hsz
    have hi : i < l.length := by omega
    have c1 := tt (show (i : Int) < (l.length : Int) by omega)
    have c2 := tt (show (0 : Int) ≤ i by omega)
    have c4 : wrap64 ((i : Int) + 1) = ((i + 1 : Nat) : Int) := by rw [w64 (by omega) (by omega)]; rfl
    rw [bdrop_rd hi] at hsz ⊢
    generalize hs : rdOf ByteArray.empty l i = s at hsz ⊢
    simp only [List.map_cons, tl, bytesOf_length] at hsz
    have hnext : decide (0 < i + 1) = true := by simp
    by_cases h : 0 < i
    · have c5 := tt (show (i : Int) > 0 by omega)
      have c6 := tt (show out.length < 140737488355328 by omega)
      have c7 := tt (show (out ++ [32]).length + s.size < 140737488355328 by simp only [List.length_append, List.length_cons, List.length_nil]; omega)
      have := ih (i + 1) (out ++ [32] ++ bytesOf s) (by omega) hlen (by omega) (by simp only [List.length_append, List.length_cons, List.length_nil, bytesOf_length]; omega)
      rw [hnext] at this
      have e : decide (0 < i) = true := decide_eq_true h
      rw [e]
      refine evs ?_
      simp only [num_Join.l0, c1, c2, c4, c5, c6, if_true, Option.bind_some, hs, c7]
      simp only [List.map_cons, jn]
      rw [show out ++ 32 :: (bytesOf s ++ jn true (List.map bytesOf (l.drop (i + 1)))) = out ++ [32] ++ bytesOf s ++ jn true (List.map bytesOf (l.drop (i + 1))) by simp]
      exact this
    · have hz : i = 0 := by omega
      have ho := h0 hz
      have c5 := ff (show ¬ (i : Int) > 0 by omega)
      have c7 := tt (show out.length + s.size < 140737488355328 by omega)
      have := ih (i + 1) (out ++ bytesOf s) (by omega) hlen (by omega) (by simp only [List.length_append, bytesOf_length]; omega)
      rw [hnext] at this
      have e : decide (0 < i) = false := decide_eq_false h
      rw [e]
      refine evs ?_
      simp only [num_Join.l0, c1, c2, c4, c5, if_true, if_false, hs, c7]
      simp only [List.map_cons, jn]
      rw [← List.append_assoc]
      exact this
theorem Join_ok (l : List ByteArray) (hlen : l.length ≤ 9000000000000000000) (hsz : tl (l.map bytesOf) < 140737488355328) : Ev (fun k => num_Join.f k l) (strOfNums (jn false (l.map bytesOf))) := by
  have := Join_loop l l.length 0 [] (by omega) hlen (fun _ => rfl) (by simpa using hsz)
  exact this
end Go.Proofs.YtmbjogpphegoaaaDoor.Q
end
section
/- An instruction's line: both programs say the same; a line's instruction, too. -/
namespace Go.Proofs.YtmbjogpphegoaaaDoor.Q
set_option linter.unusedVariables false
set_option linter.unusedSimpArgs false
open Go.RowKit Go.Proofs.YtmbjogpphegoaaaDoorW.PrintWords Go.Proofs.YtmbjogpphegoaaaDoorW.PrintLast Go.Proofs.YtmbjogpphegoaaaDoorW.PrintMore Go.Proofs.YtmbjogpphegoaaaDoor.P

theorem two (l : List Int) (x : Int) (hl : ∀ c ∈ l, Byte c) (hn : l.length ≤ 5) (h0 : -9223372036854775808 ≤ x) (h1 : x ≤ 9223372036854775807) : Ev (fun k => num_Join.f k [strOfNums l, strOfNums (T x)]) (strOfNums (l ++ 32 :: T x)) := by
  have bl := bytesOf_strOfNums hl
  have bt := bytesOf_strOfNums (T_byte x h0 h1)
  have := T_len x h0 h1
  have h := Join_ok [strOfNums l, strOfNums (T x)] (by simp) (by simp only [List.map_cons, List.map_nil, bl, bt, tl]; omega)
  simpa [bl, bt, jn] using h
theorem three (l : List Int) (y x : Int) (hl : ∀ c ∈ l, Byte c) (hn : l.length ≤ 5) (h0 : -9223372036854775808 ≤ x) (h1 : x ≤ 9223372036854775807) (g0 : -9223372036854775808 ≤ y) (g1 : y ≤ 9223372036854775807) : Ev (fun k => num_Join.f k [strOfNums l, strOfNums (T y), strOfNums (T x)]) (strOfNums (l ++ 32 :: (T y ++ 32 :: T x))) := by
  have bl := bytesOf_strOfNums hl
  have bt := bytesOf_strOfNums (T_byte x h0 h1)
  have by_ := bytesOf_strOfNums (T_byte y g0 g1)
  have := T_len x h0 h1
  have := T_len y g0 g1
  have h := Join_ok [strOfNums l, strOfNums (T y), strOfNums (T x)] (by simp) (by simp only [List.map_cons, List.map_nil, bl, bt, by_, tl]; omega)
  simpa [bl, bt, by_, jn] using h
theorem one (l : List Int) (hl : ∀ c ∈ l, Byte c) (hn : l.length ≤ 5) : Ev (fun k => num_Join.f k [strOfNums l]) (strOfNums l) := by
  have bl := bytesOf_strOfNums hl
  have h := Join_ok [strOfNums l] (by simp) (by simp only [List.map_cons, List.map_nil, bl, tl]; omega)
  simpa [bl, jn] using h

/-! The table. -/
def NUMS : List Int := [0, 1, 1, 1, 2, 2, 2, 0, 0, 0, 0, 0, 0, 0, 0, 0, 0, 1, 1, 2, 1, 0, 0, 0, 2, 0]
/-- An operation's word, how many numbers its line has. -/
def wd (op : Int) : List Int := bytesOf (rdOf ByteArray.empty code_WORDS op)
def nm (op : Int) : Int := rd NUMS op
theorem ops {op : Int} (h0 : 1 ≤ op) (h1 : op ≤ 25) : op = 1 ∨ op = 2 ∨ op = 3 ∨ op = 4 ∨ op = 5 ∨ op = 6 ∨ op = 7 ∨ op = 8 ∨ op = 9 ∨ op = 10 ∨ op = 11 ∨ op = 12 ∨ op = 13 ∨ op = 14 ∨ op = 15 ∨ op = 16 ∨ op = 17 ∨ op = 18 ∨ op = 19 ∨ op = 20 ∨ op = 21 ∨ op = 22 ∨ op = 23 ∨ op = 24 ∨ op = 25 := by omega
theorem numbers_at {op : Int} (h0 : 1 ≤ op) (h1 : op ≤ 25) : code_numbers.f 1 op = some (nm op) := by
  rcases ops h0 h1 with rfl | rfl | rfl | rfl | rfl | rfl | rfl | rfl | rfl | rfl | rfl | rfl | rfl | rfl | rfl | rfl | rfl | rfl | rfl | rfl | rfl | rfl | rfl | rfl | rfl <;> kernel_rfl
theorem numbers_ok {op : Int} (h0 : 1 ≤ op) (h1 : op ≤ 25) : Ev (fun k => code_numbers.f k op) (nm op) := Ev.of (fun k => code_numbers.mono _ k) (numbers_at h0 h1)
theorem nm_or {op : Int} (h0 : 1 ≤ op) (h1 : op ≤ 25) : nm op = 0 ∨ nm op = 1 ∨ nm op = 2 := by
  rcases ops h0 h1 with rfl | rfl | rfl | rfl | rfl | rfl | rfl | rfl | rfl | rfl | rfl | rfl | rfl | rfl | rfl | rfl | rfl | rfl | rfl | rfl | rfl | rfl | rfl | rfl | rfl <;> decide
theorem wd_len {op : Int} (h0 : 1 ≤ op) (h1 : op ≤ 25) : (wd op).length ≤ 5 ∧ (wd op ≠ []) ∧ ∀ c ∈ wd op, c ≠ 32 := by
  rcases ops h0 h1 with rfl | rfl | rfl | rfl | rfl | rfl | rfl | rfl | rfl | rfl | rfl | rfl | rfl | rfl | rfl | rfl | rfl | rfl | rfl | rfl | rfl | rfl | rfl | rfl | rfl <;> exact ⟨by decide +kernel, by decide +kernel, by decide +kernel⟩
theorem wd_byte (op : Int) : ∀ c ∈ wd op, Byte c := fun _ h => bytesOf_byte h
theorem wd_str (op : Int) : strOfNums (wd op) = rdOf ByteArray.empty code_WORDS op := strOfNums_bytesOf _

/-- An instruction's line. -/
def TX (op n m : Int) : ByteArray × Int :=
  if op < 1 ∨ 25 < op then (⟨#[]⟩, 61) else if nm op < 1 ∧ n ≠ 0 ∨ nm op < 2 ∧ m ≠ 0 then (⟨#[]⟩, 61) else
    (strOfNums (if nm op < 1 then wd op else if nm op < 2 then wd op ++ 32 :: T n else wd op ++ 32 :: (T n ++ 32 :: T m)), 0)

theorem Text_ok (op n m : Int) (n0 : -9223372036854775808 ≤ n) (n1 : n ≤ 9223372036854775807) (m0 : -9223372036854775808 ≤ m) (m1 : m ≤ 9223372036854775807) : Ev (fun k => code_Text.f k op n m) (TX op n m) := by
  unfold code_Text.f TX
  by_cases h0 : op < 1
  · rw [if_pos (.inl h0)]; simp only [tt h0, if_true]; exact Ev.now _
  by_cases h1 : 25 < op
  · rw [if_pos (.inr h1)]; simp only [ff h0, tt (show op > 25 from h1), if_true, if_false]; exact Ev.now _
  rw [if_neg (by omega)]
  simp only [ff h0, ff (show ¬ op > 25 from h1), if_false]
  refine Ev.bind (numbers_ok (by omega) (by omega)) ?_
  obtain ⟨wl, _, _⟩ := wd_len (op := op) (by omega) (by omega)
  have wb := wd_byte op
  simp only [← wd_str op]
  rw [show num_Text.f n = some (strOfNums (T n)) from Text_eq n n0 n1, show num_Text.f m = some (strOfNums (T m)) from Text_eq m m0 m1]
  rcases nm_or (op := op) (by omega) (by omega) with e | e | e <;> rw [e]
  · by_cases hn : n = 0
    · by_cases hm : m = 0
      · rw [if_neg (by omega)]
        simp only [show (0 : Int) < 1 by decide, if_true, tt hn, tt hm]
        exact Ev.bind (one _ wb wl) (Ev.now _)
      · rw [if_pos (.inr ⟨by decide, hm⟩)]
        simp only [show (0 : Int) < 1 by decide, if_true, if_false, tt hn, ff hm]
        exact Ev.now _
    · rw [if_pos (.inl ⟨by decide, hn⟩)]
      simp only [show (0 : Int) < 1 by decide, if_true, if_false, ff hn]
      exact Ev.now _
  · simp only [ff (show ¬ (1 : Int) < 1 by decide), tt (show (1 : Int) < 2 by decide), if_true, if_false, false_and, false_or, true_and, Option.bind_some]
    by_cases hm : m = 0
    · rw [if_neg (by simpa using hm)]
      simp only [tt hm, if_true]
      exact Ev.bind (two _ _ wb wl n0 n1) (Ev.now _)
    · rw [if_pos hm]
      simp only [ff hm, if_false]
      exact Ev.now _
  · simp only [ff (show ¬ (2 : Int) < 1 by decide), ff (show ¬ (2 : Int) < 2 by decide), if_true, if_false, false_and, false_or, or_self, Option.bind_some]
    exact Ev.bind (three _ _ _ wb wl m0 m1 n0 n1) (Ev.now _)

theorem blank : (⟨#[32]⟩ : ByteArray) = strOfNums [32] := by decide
/-- The words of an instruction's line. -/
def WX (op n m : Int) : List (List Int) := if nm op < 1 then [wd op] else if nm op < 2 then [wd op, T n] else [wd op, T n, T m]
/-- Whether an instruction has a line. -/
def Fine (op n m : Int) : Prop := (1 ≤ op ∧ op ≤ 25) ∧ (nm op < 1 → n = 0) ∧ (nm op < 2 → m = 0)
theorem TX_fine {op n m : Int} (h : Fine op n m) : TX op n m = (strOfNums (jn false (WX op n m)), 0) := by
  obtain ⟨⟨h0, h1⟩, h2, h3⟩ := h
  unfold TX WX
  rw [if_neg (by omega), if_neg (by
    rintro (⟨a, b⟩ | ⟨a, b⟩)
    · exact b (h2 a)
    · exact b (h3 a))]
  split
  · simp [jn]
  · split <;> simp [jn]
theorem TX_not {op n m : Int} (h : ¬ Fine op n m) : TX op n m = (⟨#[]⟩, 61) := by
  unfold TX
  by_cases h0 : op < 1 ∨ 25 < op
  · rw [if_pos h0]
  rw [if_neg h0]
  by_cases h1 : nm op < 1 ∧ n ≠ 0 ∨ nm op < 2 ∧ m ≠ 0
  · rw [if_pos h1]
  refine absurd ⟨by omega, fun h2 => ?_, fun h2 => ?_⟩ h
  · by_cases e : n = 0
    · exact e
    · exact absurd (.inl ⟨h2, e⟩) h1
  · by_cases e : m = 0
    · exact e
    · exact absurd (.inr ⟨h2, e⟩) h1
instance (op n m : Int) : Decidable (Fine op n m) := by unfold Fine; exact inferInstance
end Go.Proofs.YtmbjogpphegoaaaDoor.Q
end
section
/- Heights of places that can be reached: a table that is whole is the only one; plain Lean. -/
namespace Go.Proofs.YtmbjogpphegoaaaDoor.Q
set_option linter.unusedVariables false
set_option linter.unusedSimpArgs false
open Go.RowKit Go.Proofs.YtmbjogpphegoaaaDoorW.PrintWords Go.Proofs.YtmbjogpphegoaaaDoorW.PrintLast Go.Proofs.YtmbjogpphegoaaaDoorW.PrintMore Go.Proofs.YtmbjogpphegoaaaDoor.P

theorem rd_set_eq (H : List Int) (p : Nat) (v : Int) (h : p < H.length) : rd (H.set p v) (p : Int) = v := by simp [rd, List.getD, h]
theorem rd_set_ne (H : List Int) (p q : Nat) (v : Int) (h : p ≠ q) : rd (H.set p v) (q : Int) = rd H (q : Int) := by simp [rd, List.getD, List.getElem?_set_ne h]
theorem rd_at {l : List Int} {i : Nat} (h : i < l.length) : rd l (i : Int) = l[i] := by simp [rd, List.getD, h]

/-- What a machine's places are: how many, which heights may stand at one, what comes of a height, which places come next. -/
structure Net where
  n : Nat
  ok : Nat → Int → Bool
  d : Nat → Int → Int
  nx : Nat → List Int
  pos : ∀ p h, p < n → 0 ≤ h → ok p h = true → 0 ≤ d p h
  fwd : ∀ p, p < n → ∀ q ∈ nx p, 0 ≤ q
namespace Net
inductive R (N : Net) : Nat → Int → Prop
  | zero : R N 0 0
  | step {p : Nat} {h : Int} {q : Nat} : R N p h → p < N.n → N.ok p h = true → (q : Int) ∈ N.nx p → R N q (N.d p h)
def Bad (N : Net) : Prop := ∃ p h, N.R p h ∧ (N.n ≤ p ∨ N.ok p h = false ∨ ∃ h', N.R p h' ∧ h' ≠ h)
/-- What follows a place is told. -/
def Done (N : Net) (H : List Int) (p : Nat) : Prop := N.ok p (rd H p) = true ∧ ∀ q ∈ N.nx p, q < (N.n : Int) ∧ 0 ≤ rd H q ∧ rd H q = N.d p (rd H p)
structure True_ (N : Net) (H : List Int) : Prop where
  len : H.length = N.n
  zero : rd H 0 = 0
  here : ∀ p, p < N.n → 0 ≤ rd H p → N.R p (rd H p)
  away : ∀ p, p < N.n → rd H p < 0 → rd H p = -1
def Whole (N : Net) (H : List Int) : Prop := ∀ p, p < N.n → 0 ≤ rd H p → N.Done H p

theorem reach {N : Net} (h0 : 0 < N.n) {H : List Int} (hT : N.True_ H) (hW : N.Whole H) {p : Nat} {h : Int} (hr : N.R p h) : p < N.n ∧ rd H p = h ∧ 0 ≤ h := by
  induction hr with
  | zero => exact ⟨h0, hT.zero, by decide⟩
  | step hr hp hok hq ih =>
    obtain ⟨i1, i2, i3⟩ := ih
    subst i2
    obtain ⟨_, hd⟩ := hW _ i1 i3
    obtain ⟨a, b, c⟩ := hd _ hq
    exact ⟨by omega, c, by rw [← c]; exact b⟩
theorem not_bad {N : Net} (h0 : 0 < N.n) {H : List Int} (hT : N.True_ H) (hW : N.Whole H) : ¬ N.Bad := by
  rintro ⟨p, h, hr, hb⟩
  obtain ⟨a, b, c⟩ := reach h0 hT hW hr
  subst b
  rcases hb with hb | hb | ⟨h', hr', hne⟩
  · omega
  · have := (hW p a c).1
    rw [hb] at this
    cases this
  · exact hne (reach h0 hT hW hr').2.1.symm
theorem list_ext_rd {A B : List Int} (hl : A.length = B.length) (h : ∀ p, p < A.length → rd A (p : Int) = rd B (p : Int)) : A = B := by
  apply List.ext_getElem hl
  intro i h1 h2
  have := h i h1
  rwa [rd_at h1, rd_at h2] at this
theorem unique {N : Net} (h0 : 0 < N.n) {A B : List Int} (hA : N.True_ A) (wA : N.Whole A) (hB : N.True_ B) (wB : N.Whole B) : A = B := by
  refine list_ext_rd (by rw [hA.len, hB.len]) (fun p hp => ?_)
  rw [hA.len] at hp
  by_cases h : 0 ≤ rd A p
  · exact ((reach h0 hB wB (hA.here p hp h)).2.1).symm
  · by_cases h' : 0 ≤ rd B p
    · have := reach h0 hA wA (hB.here p hp h')
      omega
    · rw [hA.away p hp (by omega), hB.away p hp (by omega)]

/-! A table grows. -/
theorem done_set {N : Net} {H : List Int} (hl : H.length = N.n) {p q : Nat} {v : Int} (hq : rd H q < 0) (hp : p < N.n) (hp0 : 0 ≤ rd H p) (hpos : ∀ p, p < N.n → ∀ q ∈ N.nx p, 0 ≤ q) (h : N.Done H p) : N.Done (H.set q v) p := by
  have e : rd (H.set q v) p = rd H p := rd_set_ne _ _ _ _ (by rintro rfl; omega)
  refine ⟨by rw [e]; exact h.1, fun x hx => ?_⟩
  obtain ⟨a, b, c⟩ := h.2 x hx
  have x0 := hpos p hp x hx
  obtain ⟨y, rfl⟩ : ∃ y : Nat, x = y := ⟨x.toNat, by omega⟩
  rw [e, rd_set_ne _ _ _ _ (by rintro rfl; omega)]
  exact ⟨a, b, c⟩
theorem true_set {N : Net} {H : List Int} (hT : N.True_ H) {q : Nat} {v : Int} (hq : rd H q < 0) (hqn : q < N.n) (hv : 0 ≤ v) (hr : N.R q v) : N.True_ (H.set q v) := by
  have hne : ∀ p : Nat, p ≠ q → rd (H.set q v) p = rd H p := fun p hp => rd_set_ne _ _ _ _ (fun h => hp h.symm)
  have heq : rd (H.set q v) q = v := rd_set_eq _ _ _ (by rw [hT.len]; exact hqn)
  refine ⟨by rw [List.length_set]; exact hT.len, ?_, fun p hp h => ?_, fun p hp h => ?_⟩
  · have h0 : q ≠ 0 := by
      rintro rfl
      have := hT.zero
      rw [show ((0 : Nat) : Int) = 0 from rfl] at hq
      omega
    rw [show (0 : Int) = ((0 : Nat) : Int) from rfl, hne 0 (by omega)]
    exact hT.zero
  · by_cases e : p = q
    · subst e; rw [heq]; exact hr
    · rw [hne p e] at h ⊢; exact hT.here p hp h
  · by_cases e : p = q
    · subst e; omega
    · rw [hne p e] at h ⊢; exact hT.away p hp h
theorem rd_set_ne' {H : List Int} {q p : Nat} {v : Int} (h : q ≠ p) : rd (H.set q v) (p : Int) = rd H (p : Int) := rd_set_ne _ _ _ _ h
/-- How many places have no height yet. -/
def left (H : List Int) : Nat := H.countP (fun x => decide (x < 0))
theorem left_set {H : List Int} {q : Nat} {v : Int} (hl : q < H.length) (hq : rd H q < 0) (hv : 0 ≤ v) : left (H.set q v) + 1 = left H := by
  rw [rd_at hl] at hq
  have hp : 0 < H.countP (fun x => decide (x < 0)) := List.countP_pos_iff.2 ⟨H[q], List.getElem_mem hl, by simpa using hq⟩
  unfold left
  rw [List.countP_set hl, if_pos (by simpa using hq), if_neg (by simp; omega)]
  omega
end Net
end Go.Proofs.YtmbjogpphegoaaaDoor.Q
end
section
/- The places of a code: what an instruction takes and leaves, what comes next; the program's table of heights. -/
namespace Go.Proofs.YtmbjogpphegoaaaDoor.Q
set_option linter.unusedVariables false
set_option linter.unusedSimpArgs false
open Go.RowKit Go.Proofs.YtmbjogpphegoaaaDoorW.PrintWords Go.Proofs.YtmbjogpphegoaaaDoorW.PrintLast Go.Proofs.YtmbjogpphegoaaaDoorW.PrintMore Go.Proofs.YtmbjogpphegoaaaDoor.P

abbrev Ins := S40
abbrev Cod := S35
abbrev rdI (l : List Ins) (i : Int) : Ins := rd_T40 l i
abbrev rdC (l : List Cod) (i : Int) : Cod := rd_T35 l i
theorem rdI_at (l : List Ins) (i : Nat) (h : i < l.length) : rdI l (i : Int) = l[i] := by simp [rdI, rd_T40, List.getD, h]
theorem rdC_at (l : List Cod) (i : Nat) (h : i < l.length) : rdC l (i : Int) = l[i] := by simp [rdC, rd_T35, List.getD, h]

def mv (l : List Cod) (x : Ins) : Int × Int :=
  if x.f0 = 19 then (x.f2, if (rdC l x.f1).f3 = true then 1 else 0) else if x.f0 = 20 then (x.f1, 0) else (rd code_STACK (x.f0 * 2), rd code_STACK (x.f0 * 2 + 1))
def nxt (x : Ins) (at_ : Nat) : List Int := if x.f0 = 17 then [x.f1] else if x.f0 = 18 then [(at_ : Int) + 1, x.f1] else if x.f0 = 20 then [] else [(at_ : Int) + 1]
theorem nxt_len (x : Ins) (at_ : Nat) : (nxt x at_).length ≤ 2 := by
  unfold nxt
  split
  · simp
  split
  · simp
  split <;> simp
def okH (l : List Cod) (x : Ins) (h : Int) : Bool := decide (¬ (h < (mv l x).1 ∨ 4096 < h ∨ (x.f0 = 20 ∧ h ≠ (mv l x).1) ∨ (x.f0 = 24 ∧ h ≠ 0)))
structure Valid (m : Nat) (n : Nat) (x : Ins) : Prop where
  op0 : 1 ≤ x.f0
  op1 : x.f0 ≤ 25
  call : x.f0 = 19 → 0 ≤ x.f1 ∧ x.f1 < (m : Int) ∧ 0 ≤ x.f2 ∧ x.f2 ≤ 8
  leave : x.f0 = 20 → 0 ≤ x.f1 ∧ x.f1 ≤ 1
  jump : x.f0 = 17 ∨ x.f0 = 18 → 0 ≤ x.f1 ∧ x.f1 < (n : Int)
theorem stack_all : ∀ x ∈ code_STACK, 0 ≤ x ∧ x ≤ 2 := by decide
theorem stack_in (i : Int) : 0 ≤ rd code_STACK i ∧ rd code_STACK i ≤ 2 := by
  unfold rd
  rw [List.getD_eq_getElem?_getD]
  cases h : code_STACK[i.toNat]? with
  | none => simp
  | some x => exact stack_all x (List.mem_of_getElem? h)
theorem mv_in {m n : Nat} (l : List Cod) {x : Ins} (h : Valid m n x) : 0 ≤ (mv l x).1 ∧ (mv l x).1 ≤ 8 ∧ 0 ≤ (mv l x).2 ∧ (mv l x).2 ≤ 2 := by
  unfold mv
  split
  · rename_i e
    have := h.call e
    refine ⟨this.2.2.1, this.2.2.2, ?_, ?_⟩ <;> (simp only []; split <;> omega)
  · split
    · rename_i e
      have := h.leave e
      exact ⟨this.1, by simp only []; omega, by simp only []; omega, by simp only []; omega⟩
    · have a := stack_in (x.f0 * 2)
      have b := stack_in (x.f0 * 2 + 1)
      exact ⟨a.1, by simp only []; omega, b.1, b.2⟩
theorem okH_iff {l : List Cod} {x : Ins} {h : Int} : okH l x h = true ↔ ¬ (h < (mv l x).1 ∨ 4096 < h ∨ (x.f0 = 20 ∧ h ≠ (mv l x).1) ∨ (x.f0 = 24 ∧ h ≠ 0)) := by simp only [okH, decide_eq_true_eq]
theorem nxt_in {m n : Nat} {x : Ins} (h : Valid m n x) (at_ : Nat) : ∀ q ∈ nxt x at_, 0 ≤ q ∧ (q < (n : Int) ∨ q = at_ + 1) := by
  unfold nxt
  intro q hq
  split at hq
  · rename_i e
    simp at hq
    have := h.jump (.inl e)
    omega
  · split at hq
    · rename_i e
      simp at hq
      have := h.jump (.inr e)
      omega
    · split at hq
      · cases hq
      · simp at hq
        omega
def net (l : List Cod) (ins : List Ins) (hv : ∀ p, p < ins.length → Valid l.length ins.length (rdI ins p)) : Net where
  n := ins.length
  ok := fun p h => okH l (rdI ins p) h
  d := fun p h => h - (mv l (rdI ins p)).1 + (mv l (rdI ins p)).2
  nx := fun p => nxt (rdI ins p) p
  pos := fun p h hp h0 hk => by
    have := okH_iff.1 hk
    have := mv_in l (hv p hp)
    omega
  fwd := fun p hp q hq => (nxt_in (hv p hp) p q hq).1

theorem moves_at {n : Nat} (l : List Cod) {x : Ins} (h : Valid l.length n x) : code_checker_moves.f l x.f0 x.f1 x.f2 = some (mv l x) := by
  unfold code_checker_moves.f mv
  by_cases h1 : x.f0 = 19
  · obtain ⟨a, b, c, d⟩ := h.call h1
    rw [if_pos h1, if_pos h1, if_pos a, if_pos b]
    split <;> rfl
  · rw [if_neg h1, if_neg h1]
    by_cases h2 : x.f0 = 20
    · rw [if_pos h2, if_pos h2]
    · have := h.op0
      have := h.op1
      rw [if_neg h2, if_neg h2, if_pos (by omega), if_pos (by omega)]
theorem next_at (x : Ins) (at_ : Nat) (h : at_ ≤ 100000000) : code_next.f x.f0 x.f1 x.f2 at_ = some (nxt x at_) := by
  have e : wrap64 ((at_ : Int) + 1) = (at_ : Int) + 1 := w64 (by omega) (by omega)
  unfold code_next.f nxt
  rw [e]
  split
  · rfl
  split
  · rfl
  split
  · rfl
  · rfl
theorem step_wrap {h a b : Int} (h0 : 0 ≤ h) (h1 : h ≤ 5000) (a0 : 0 ≤ a) (a1 : a ≤ 8) (b0 : 0 ≤ b) (b1 : b ≤ 2) : wrap64 (wrap64 (h - a) + b) = h - a + b := by
  rw [w64 (n := h - a) (by omega) (by omega), w64 (by omega) (by omega)]
end Go.Proofs.YtmbjogpphegoaaaDoor.Q
end
section
/- Whether an instruction may be: both programs say the same. -/
namespace Go.Proofs.YtmbjogpphegoaaaDoor.Q
set_option linter.unusedVariables false
set_option linter.unusedSimpArgs false
open Go.RowKit Go.Proofs.YtmbjogpphegoaaaDoorW.PrintWords Go.Proofs.YtmbjogpphegoaaaDoorW.PrintLast Go.Proofs.YtmbjogpphegoaaaDoorW.PrintMore Go.Proofs.YtmbjogpphegoaaaDoor.P

def Within (cells n m : Int) : Prop := 0 ≤ n ∧ 1 ≤ m ∧ n ≤ cells ∧ m ≤ cells - n
instance (cells n m : Int) : Decidable (Within cells n m) := by unfold Within; exact inferInstance
theorem some_decide {P : Prop} [Decidable P] {e : Option Bool} (h1 : P → e = some true) (h2 : ¬ P → e = some false) : e = some (decide P) := by
  by_cases h : P
  · rw [h1 h, decide_eq_true h]
  · rw [h2 h, decide_eq_false h]
theorem within_at (l : List Cod) (n m : Int) (ins : List Ins) (cells p : Int) (ans : Bool) (c0 : 0 ≤ cells) (c1 : cells ≤ 65536) : code_checker_within.f l n m ins cells p ans = some (decide (Within cells n m)) := by
  unfold code_checker_within.f Within
  refine some_decide (fun ⟨a, b, c, d⟩ => ?_) (fun h => ?_)
  · rw [if_pos a, if_pos b, if_pos c, w64 (by omega) (by omega), decide_eq_true (by omega)]
  · by_cases a : n ≥ 0
    · rw [if_pos a]
      by_cases b : m ≥ 1
      · rw [if_pos b]
        by_cases c : n ≤ cells
        · rw [if_pos c, w64 (by omega) (by omega), decide_eq_false (by omega)]
        · rw [if_neg c]
      · rw [if_neg b]
    · rw [if_neg a]
/-- What is asked of an instruction beyond its line. -/
def MayRest (l : List Cod) (n : Int) (cells : Int) (ans : Bool) (op f1 f2 : Int) : Bool :=
  if op = 2 ∨ op = 3 then decide (Within cells f1 1) else if op = 4 ∨ op = 5 ∨ op = 6 then decide (f2 ≤ 64 ∧ Within cells f1 f2) else if op = 17 ∨ op = 18 then decide (0 ≤ f1 ∧ f1 < n) else
  if op = 19 then decide (0 ≤ f1 ∧ f1 < (l.length : Int) ∧ 0 ≤ f2 ∧ f2 ≤ 8 ∧ f2 = (rdC l f1).f2) else if op = 20 then decide ((f1 = 0 ∧ ans = false) ∨ (f1 = 1 ∧ ans = true)) else if op = 24 then decide (0 ≤ f1 ∧ 1 ≤ f2 ∧ f2 ≤ 3) else true
section
variable (l : List Cod) (ins : List Ins) (cells p : Int) (ans : Bool)
theorem may_j2 (k : Nat) (op f1 f2 : Int) (b : Bool) (hb : b = decide (op = 17 ∨ op = 18)) (ho : ¬ (op = 2 ∨ op = 3)) (ho2 : ¬ (op = 4 ∨ op = 5 ∨ op = 6)) : code_checker_may.j2 (k + 1) op b l ins cells p ans op f1 f2 = some (MayRest l ins.length cells ans op f1 f2) := by
  simp only [code_checker_may.j2]
  unfold MayRest
  rw [if_neg ho, if_neg ho2]
  by_cases h : op = 17 ∨ op = 18
  · rw [if_pos h, if_pos (by rw [hb, decide_eq_true h])]
    by_cases h2 : f1 ≥ 0
    · rw [if_pos h2]; congr 1; simp only [decide_eq_decide]; omega
    · rw [if_neg h2, decide_eq_false (by omega)]
  rw [if_neg h, if_neg (by rw [hb, decide_eq_false h]; decide)]
  by_cases h : op = 19
  · rw [if_pos h, if_pos h]
    by_cases h1 : f1 ≥ 0
    · rw [if_pos h1]
      by_cases h2 : f1 < (l.length : Int)
      · rw [if_pos h2]
        by_cases h3 : f2 ≥ 0
        · rw [if_pos h3]
          by_cases h4 : f2 ≤ 8
          · rw [if_pos h4, if_pos h1]
            by_cases h5 : f2 = (rdC l f1).f2
            · rw [decide_eq_true ⟨h1, h2, h3, h4, h5⟩]
              exact congrArg some (beq_iff_eq.2 h5)
            · rw [decide_eq_false (fun h => h5 h.2.2.2.2)]
              exact congrArg some (beq_eq_false_iff_ne.2 h5)
          · rw [if_neg h4, decide_eq_false (fun h => h4 h.2.2.2.1)]
        · rw [if_neg h3, decide_eq_false (fun h => h3 h.2.2.1)]
      · rw [if_neg h2, decide_eq_false (fun h => h2 h.2.1)]
    · rw [if_neg h1, decide_eq_false (fun h => h1 h.1)]
  rw [if_neg h, if_neg h]
  by_cases h : op = 20
  · rw [if_pos h, if_pos h]
    by_cases h1 : f1 = 0
    · subst h1
      cases ans <;> rfl
    · rw [if_neg h1]
      by_cases h2 : f1 = 1
      · subst h2
        cases ans <;> rfl
      · rw [if_neg h2, decide_eq_false (by omega)]
  rw [if_neg h, if_neg h]
  by_cases h : op = 24
  · rw [if_pos h, if_pos h]
    by_cases h1 : f1 ≥ 0
    · rw [if_pos h1]
      by_cases h2 : f2 ≥ 1
      · rw [if_pos h2]; congr 1; simp only [decide_eq_decide]; omega
      · rw [if_neg h2, decide_eq_false (by omega)]
    · rw [if_neg h1, decide_eq_false (by omega)]
  rw [if_neg h, if_neg h]
theorem beq_dec (a b : Int) : (a == b) = decide (a = b) := by
  by_cases h : a = b
  · rw [decide_eq_true h]; exact beq_iff_eq.2 h
  · rw [decide_eq_false h]; exact beq_eq_false_iff_ne.2 h
theorem may_j1 (k : Nat) (op f1 f2 : Int) (b : Bool) (hb : b = decide (op = 4 ∨ op = 5 ∨ op = 6)) (ho : ¬ (op = 2 ∨ op = 3)) (c0 : 0 ≤ cells) (c1 : cells ≤ 65536) : code_checker_may.j1 (k + 2) op b l ins cells p ans op f1 f2 = some (MayRest l ins.length cells ans op f1 f2) := by
  simp only [code_checker_may.j1, within_at l _ _ ins cells p ans c0 c1, Option.bind_some]
  by_cases h : op = 4 ∨ op = 5 ∨ op = 6
  · rw [if_pos (by rw [hb, decide_eq_true h])]
    unfold MayRest
    rw [if_neg ho, if_pos h]
    by_cases h2 : f2 ≤ 64
    · rw [if_pos h2]; congr 1; simp only [decide_eq_decide]; exact ⟨fun h => ⟨h2, h⟩, fun h => h.2⟩
    · rw [if_neg h2, decide_eq_false (fun h => h2 h.1)]
  · rw [if_neg (by rw [hb, decide_eq_false h]; decide)]
    by_cases h7 : op = 17
    · rw [if_pos h7]; exact may_j2 l ins cells p ans k op f1 f2 _ (by rw [beq_dec]; simp [h7]) ho h
    · rw [if_neg h7]; exact may_j2 l ins cells p ans k op f1 f2 _ (by rw [beq_dec]; simp [h7]) ho h
theorem may_j0 (k : Nat) (op f1 f2 : Int) (b : Bool) (hb : b = decide (op = 2 ∨ op = 3)) (c0 : 0 ≤ cells) (c1 : cells ≤ 65536) : code_checker_may.j0 (k + 3) op b l ins cells p ans op f1 f2 = some (MayRest l ins.length cells ans op f1 f2) := by
  simp only [code_checker_may.j0, within_at l _ _ ins cells p ans c0 c1, Option.bind_some]
  by_cases h : op = 2 ∨ op = 3
  · rw [if_pos (by rw [hb, decide_eq_true h])]
    unfold MayRest
    rw [if_pos h]
  · rw [if_neg (by rw [hb, decide_eq_false h]; decide)]
    by_cases h4 : op = 4
    · rw [if_pos h4]; exact may_j1 l ins cells p ans k op f1 f2 _ (by rw [beq_dec]; simp [h4]) h c0 c1
    rw [if_neg h4]
    by_cases h5 : op = 5
    · rw [if_pos h5]; exact may_j1 l ins cells p ans k op f1 f2 _ (by rw [beq_dec]; simp [h5]) h c0 c1
    rw [if_neg h5]
    exact may_j1 l ins cells p ans k op f1 f2 _ (by rw [beq_dec]; simp [h4, h5]) h c0 c1
/-- Whether an instruction may be. -/
def May (op f1 f2 : Int) : Prop := Fine op f1 f2 ∧ MayRest l ins.length cells ans op f1 f2 = true
instance (op f1 f2 : Int) : Decidable (May l ins cells ans op f1 f2) := by unfold May; exact inferInstance
theorem ev3 {g : Nat → Option Bool} {r : Bool} (h : ∀ k, g (k + 3) = some r) : Ev g r := ⟨3, fun k hk => by
  obtain ⟨m, rfl⟩ : ∃ m, k = m + 3 := ⟨k - 3, by omega⟩
  exact h m⟩
theorem TX_two (op n m : Int) : (TX op n m).2 = 0 ↔ Fine op n m := by
  by_cases h : Fine op n m
  · rw [TX_fine h]; exact ⟨fun _ => h, fun _ => rfl⟩
  · rw [TX_not h]; exact ⟨fun h => absurd h (by decide), fun h' => absurd h' h⟩
theorem may_ok (op f1 f2 : Int) (n0 : -9223372036854775808 ≤ f1) (n1 : f1 ≤ 9223372036854775807) (m0 : -9223372036854775808 ≤ f2) (m1 : f2 ≤ 9223372036854775807) (c0 : 0 ≤ cells) (c1 : cells ≤ 65536) :
    Ev (fun k => code_checker_may.f k l op f1 f2 ins cells p ans) (decide (May l ins cells ans op f1 f2)) := by
  unfold code_checker_may.f
  refine Ev.bind (Text_ok op f1 f2 n0 n1 m0 m1) ?_
  by_cases hf : Fine op f1 f2
  · have e : decide (May l ins cells ans op f1 f2) = MayRest l ins.length cells ans op f1 f2 := by
      cases h : MayRest l ins.length cells ans op f1 f2 with
      | true => exact decide_eq_true ⟨hf, h⟩
      | false => exact decide_eq_false (fun h9 => by rw [h9.2] at h; cases h)
    rw [e]
    simp only [tt ((TX_two op f1 f2).2 hf), if_true]
    by_cases h2 : op = 2
    · simp only [tt h2, if_true]
      exact ev3 (fun k => may_j0 l ins cells p ans k op f1 f2 _ (by rw [beq_dec]; simp [h2]) c0 c1)
    · simp only [ff h2, if_false]
      exact ev3 (fun k => may_j0 l ins cells p ans k op f1 f2 _ (by rw [beq_dec]; simp [h2]) c0 c1)
  · rw [decide_eq_false (fun h => hf h.1)]
    simp only [ff (fun h => hf ((TX_two op f1 f2).1 h)), if_false]
    exact Ev.now _
theorem may_valid {x : Ins} (h : May l ins cells ans x.f0 x.f1 x.f2) : Valid l.length ins.length x := by
  obtain ⟨⟨⟨h0, h1⟩, _, _⟩, hr⟩ := h
  refine ⟨h0, h1, fun e => ?_, fun e => ?_, fun e => ?_⟩
  · simp only [MayRest, e] at hr
    simp at hr
    omega
  · simp only [MayRest, e] at hr
    simp at hr
    omega
  · rcases e with e | e
    · simp only [MayRest, e] at hr
      simp at hr
      omega
    · simp only [MayRest, e] at hr
      simp at hr
      omega
end
end Go.Proofs.YtmbjogpphegoaaaDoor.Q
end
section
/- The program's way with heights: places wait, one after the other is taken. -/
namespace Go.Proofs.YtmbjogpphegoaaaDoor.Q
set_option linter.unusedVariables false
set_option linter.unusedSimpArgs false
open Go.RowKit Go.Proofs.YtmbjogpphegoaaaDoorW.PrintWords Go.Proofs.YtmbjogpphegoaaaDoorW.PrintLast Go.Proofs.YtmbjogpphegoaaaDoorW.PrintMore Go.Proofs.YtmbjogpphegoaaaDoor.P

/-- What an answer says of a net. -/
def Tells (N : Net) (r : Bool × List Int) : Prop := (r.1 = true ∧ N.True_ r.2 ∧ N.Whole r.2) ∨ (r.1 = false ∧ N.Bad)

section
variable (l : List Cod) (ins : List Ins) (a b : Int) (c : Bool) (hv : ∀ p, p < ins.length → Valid l.length ins.length (rdI ins p))
/-- What holds while places wait. -/
structure Waits (N : Net) (W : List Int) (H : List Int) : Prop where
  tr : N.True_ H
  inn : ∀ w ∈ W, ∃ p : Nat, w = p ∧ p < N.n ∧ 0 ≤ rd H p
  cov : ∀ p, p < N.n → 0 ≤ rd H p → (p : Int) ∈ W ∨ N.Done H p

theorem bad_far {N : Net} {p q : Nat} {h : Int} (hr : N.R p h) (hp : p < N.n) (hk : N.ok p h = true) (hq : (q : Int) ∈ N.nx p) (hf : N.n ≤ q) : N.Bad := ⟨q, _, .step hr hp hk hq, .inl hf⟩
theorem bad_two {N : Net} {p q : Nat} {h g : Int} (hr : N.R p h) (hp : p < N.n) (hk : N.ok p h = true) (hq : (q : Int) ∈ N.nx p) (hg : N.R q g) (hne : g ≠ N.d p h) : N.Bad := ⟨q, _, .step hr hp hk hq, .inr (.inr ⟨g, hg, hne⟩)⟩
theorem bad_here {N : Net} {p : Nat} {h : Int} (hr : N.R p h) (hk : N.ok p h = false) : N.Bad := ⟨p, h, hr, .inr (.inl hk)⟩

/-- The places that come next of one, one after the other. -/
theorem inner (at_ : Nat) (hat : at_ < ins.length) (h : Int) (h0 : 0 ≤ h) (hk : (net l ins hv).ok at_ h = true) (hr : (net l ins hv).R at_ h) (m : Nat) (hm : m ≤ 70000)
    (out : ∀ W H, Waits (net l ins hv) W H → W.length + Net.left H ≤ m → ∃ r, Ev (fun k => code_checker_heights.l1 k W l ins a b c H) r ∧ Tells (net l ins hv) r) :
    ∀ (d j : Nat) (W H : List Int), j + d = (nxt (rdI ins at_) at_).length → (net l ins hv).True_ H → rd H at_ = h → W.length + Net.left H ≤ m → (∀ w ∈ W, ∃ p : Nat, w = p ∧ p < ins.length ∧ 0 ≤ rd H p) →
      (∀ p, p < ins.length → 0 ≤ rd H p → (p : Int) ∈ W ∨ p = at_ ∨ (net l ins hv).Done H p) →
      (∀ i, (hi : i < (nxt (rdI ins at_) at_).length) → i < j → ((nxt (rdI ins at_) at_)[i]) < (ins.length : Int) ∧ 0 ≤ rd H ((nxt (rdI ins at_) at_)[i]) ∧ rd H ((nxt (rdI ins at_) at_)[i]) = (net l ins hv).d at_ h) →
      ∃ r, Ev (fun k => code_checker_heights.l2 k W h (mv l (rdI ins at_)).1 (mv l (rdI ins at_)).2 (nxt (rdI ins at_) at_) ((nxt (rdI ins at_) at_).length : Int) (j : Int) l ins a b c H) r ∧ Tells (net l ins hv) r := by
  have hmv := mv_in l (hv at_ hat)
  have hh := okH_iff.1 hk
  have hd : (net l ins hv).d at_ h = h - (mv l (rdI ins at_)).1 + (mv l (rdI ins at_)).2 := rfl
  have hw := step_wrap h0 (by omega : h ≤ 5000) hmv.1 hmv.2.1 hmv.2.2.1 hmv.2.2.2
  have hdp : 0 ≤ (net l ins hv).d at_ h := (net l ins hv).pos at_ h hat h0 hk
  have hqs : (nxt (rdI ins at_) at_).length ≤ 2 := nxt_len _ _
  have hq0 := fun q hq => nxt_in (hv at_ hat) at_ q hq
  have hnx : (net l ins hv).nx at_ = nxt (rdI ins at_) at_ := rfl
  intro d
  induction d with
  | zero =>
    intro j W H hj hT hH hW hi hc hpre
    obtain rfl : j = (nxt (rdI ins at_) at_).length := by omega
    obtain ⟨r, h1, h2⟩ := out W H ⟨hT, hi, fun p hp hp0 => by
      rcases hc p hp hp0 with h | rfl | h
      · exact .inl h
      · right
        refine ⟨by rw [hH]; exact hk, fun q hq => ?_⟩
        obtain ⟨i, hi, rfl⟩ := List.getElem_of_mem hq
        obtain ⟨x, y, z⟩ := hpre i hi hi
        exact ⟨x, y, by rw [hH]; exact z⟩
      · exact .inr h⟩ hW
    refine ⟨r, ?_, h2⟩
    refine evs ?_
    have c1 := ff (Int.lt_irrefl ((nxt (rdI ins at_) at_).length : Int))
    simp only [code_checker_heights.l2, c1, if_false]
    exact h1
  | succ d ih =>
    intro j W H hj hT hH hW hi hc hpre
    have hlt : j < (nxt (rdI ins at_) at_).length := by omega
    have hmem : (nxt (rdI ins at_) at_)[j] ∈ nxt (rdI ins at_) at_ := List.getElem_mem hlt
    have hpj : ∀ i (hi : i < (nxt (rdI ins at_) at_).length), i < j + 1 → i < j ∨ i = j := fun i _ h => by omega
    have c1 := tt (show (j : Int) < ((nxt (rdI ins at_) at_).length : Int) by omega)
    have c2 := tt (show (0 : Int) ≤ (j : Int) by omega)
    have b1 : j + 1 ≤ 1000000000000 := by omega
    have e1 := rd_at (l := nxt (rdI ins at_) at_) hlt
    obtain ⟨g0, g1⟩ := hq0 _ hmem
    obtain ⟨q, hq⟩ : ∃ q : Nat, (nxt (rdI ins at_) at_)[j] = q := ⟨((nxt (rdI ins at_) at_)[j]).toNat, by omega⟩
    rw [hq] at e1 g0 g1 hmem
    have hlen := hT.len
    have hN : (net l ins hv).n = ins.length := rfl
    rw [hN] at hlen
    by_cases f1 : (q : Int) ≥ (H.length : Int)
    · refine ⟨(false, H), ?_, .inr ⟨rfl, bad_far hr hat hk hmem (by rw [hN]; omega)⟩⟩
      refine evs ?_
      simp only [code_checker_heights.l2, c1, c2, if_true, e1, tt f1]
      exact Ev.now _
    have d1 := ff f1
    have d2 := tt (show (0 : Int) ≤ (q : Int) by omega)
    have d3 := tt (show (q : Int) < (H.length : Int) by omega)
    by_cases f2 : rd H (q : Int) < 0
    · have hne : q ≠ at_ := by rintro rfl; omega
      have hR : (net l ins hv).R q ((net l ins hv).d at_ h) := .step hr hat hk hmem
      have hT' := Net.true_set hT (v := (net l ins hv).d at_ h) f2 (by rw [hN]; omega) hdp hR
      have hl' := Net.left_set (H := H) (q := q) (v := (net l ins hv).d at_ h) (by omega) f2 hdp
      have hat' : rd (H.set q ((net l ins hv).d at_ h)) at_ = h := by rw [Net.rd_set_ne' hne]; exact hH
      have hmono : ∀ p : Nat, 0 ≤ rd H p → rd (H.set q ((net l ins hv).d at_ h)) p = rd H p := fun p hp => rd_set_ne _ _ _ _ (by rintro rfl; omega)
      have hhere : rd (H.set q ((net l ins hv).d at_ h)) q = (net l ins hv).d at_ h := rd_set_eq _ _ _ (by omega)
      obtain ⟨r, h1, h2⟩ := ih (j + 1) (W ++ [(q : Int)]) (H.set q ((net l ins hv).d at_ h)) (by omega) hT' hat' (by simp only [List.length_append, List.length_cons, List.length_nil]; omega)
        (fun w hw => by
          rcases List.mem_append.1 hw with hw | hw
          · obtain ⟨p, rfl, x, y⟩ := hi w hw
            exact ⟨p, rfl, x, by rw [hmono p y]; exact y⟩
          · simp at hw
            exact ⟨q, hw, by omega, by rw [hhere]; exact hdp⟩)
        (fun p hp hp0 => by
          by_cases e : p = q
          · left; subst e; simp
          · rw [rd_set_ne _ _ _ _ (fun h => e h.symm)] at hp0
            rcases hc p hp hp0 with h | h | h
            · left; simp [h]
            · exact .inr (.inl h)
            · exact .inr (.inr (Net.done_set (by rw [hN]; exact hlen) f2 hp hp0 (net l ins hv).fwd h)))
        (fun i hi' hij => by
          rcases hpj i hi' hij with h | rfl
          · obtain ⟨x, y, z⟩ := hpre i hi' h
            obtain ⟨g, _⟩ := hq0 _ (List.getElem_mem hi')
            obtain ⟨u, hu⟩ : ∃ u : Nat, (nxt (rdI ins at_) at_)[i] = u := ⟨((nxt (rdI ins at_) at_)[i]).toNat, by omega⟩
            rw [hu] at x y z ⊢
            rw [hmono u y]
            exact ⟨x, y, z⟩
          · rw [hq, hhere]
            exact ⟨by omega, hdp, rfl⟩)
      refine ⟨r, ?_, h2⟩
      refine evs ?_
      have d4 := tt (show W.length < 17592186044416 by omega)
      simp only [code_checker_heights.l2, c1, c2, if_true, e1, d1, if_false, d2, d3, tt f2, d4, hw, wsucc b1, Int.toNat_natCast]
      exact h1
    · have hR : (net l ins hv).R q (rd H q) := hT.here q (by rw [hN]; omega) (by omega)
      by_cases f3 : rd H (q : Int) = (net l ins hv).d at_ h
      · obtain ⟨r, h1, h2⟩ := ih (j + 1) W H (by omega) hT hH hW hi hc (fun i hi' hij => by
          rcases hpj i hi' hij with h | rfl
          · exact hpre i hi' h
          · rw [hq]
            exact ⟨by omega, by omega, f3⟩)
        refine ⟨r, ?_, h2⟩
        refine evs ?_
        simp only [code_checker_heights.l2, c1, c2, if_true, e1, d1, if_false, d2, d3, ff f2, hw, wsucc b1, tt (hd ▸ f3)]
        exact h1
      · refine ⟨(false, H), ?_, .inr ⟨rfl, bad_two hr hat hk hmem hR f3⟩⟩
        refine evs ?_
        simp only [code_checker_heights.l2, c1, c2, if_true, e1, d1, if_false, d2, d3, ff f2, hw, ff (hd ▸ f3)]
        exact Ev.now _

theorem outer (hn : ins.length ≤ 65536) : ∀ (m : Nat) (W H : List Int), m ≤ 70000 → Waits (net l ins hv) W H → W.length + Net.left H ≤ m → ∃ r, Ev (fun k => code_checker_heights.l1 k W l ins a b c H) r ∧ Tells (net l ins hv) r := by
  intro m
  induction m with
  | zero =>
    intro W H _ hS hm
    obtain rfl : W = [] := List.length_eq_zero_iff.1 (by omega)
    refine ⟨(true, H), ?_, .inl ⟨rfl, hS.tr, fun p hp h0 => (hS.cov p hp h0).resolve_left (by simp)⟩⟩
    refine evs ?_
    have c1 := ff (show ¬ (([] : List Int).length : Int) > 0 by simp)
    simp only [code_checker_heights.l1, c1, if_false]
    exact Ev.now _
  | succ m ih =>
    intro W H hm7 hS hm
    rcases List.eq_nil_or_concat W with rfl | ⟨V, w, rfl⟩
    · refine ⟨(true, H), ?_, .inl ⟨rfl, hS.tr, fun p hp h0 => (hS.cov p hp h0).resolve_left (by simp)⟩⟩
      refine evs ?_
      have c1 := ff (show ¬ (([] : List Int).length : Int) > 0 by simp)
      simp only [code_checker_heights.l1, c1, if_false]
      exact Ev.now _
    · obtain ⟨at_, rfl, hat, hat0⟩ := hS.inn w (by simp)
      have hN : (net l ins hv).n = ins.length := rfl
      rw [hN] at hat
      have hlen := hS.tr.len
      rw [hN] at hlen
      rw [List.concat_eq_append] at hS hm ⊢
      have hVl : (V ++ [(at_ : Int)]).length = V.length + 1 := by simp
      rw [hVl] at hm
      have e1 : wrap64 (((V ++ [(at_ : Int)]).length : Int) - 1) = ((V.length : Nat) : Int) := by rw [hVl, w64 (by omega) (by omega)]; omega
      have e2 : rd (V ++ [(at_ : Int)]) ((V.length : Nat) : Int) = (at_ : Int) := by rw [rd_at (by simp)]; simp
      have e3 : (V ++ [(at_ : Int)]).take V.length = V := by simp
      have c1 := tt (show ((V ++ [(at_ : Int)]).length : Int) > 0 by rw [hVl]; omega)
      have c2 := tt (show (0 : Int) ≤ ((V.length : Nat) : Int) by omega)
      have c3 := tt (show ((V.length : Nat) : Int) < ((V ++ [(at_ : Int)]).length : Int) by rw [hVl]; omega)
      have c4 := tt (show ((V.length : Nat) : Int) ≤ ((V ++ [(at_ : Int)]).length : Int) by rw [hVl]; omega)
      have c5 := tt (show (0 : Int) ≤ (at_ : Int) by omega)
      have c6 := tt (show (at_ : Int) < (ins.length : Int) by omega)
      have c7 := tt (show (at_ : Int) < (H.length : Int) by omega)
      have hV := hv at_ hat
      have hmv := moves_at l hV
      have hnx := next_at (rdI ins at_) at_ (by omega)
      have hR := hS.tr.here at_ hat hat0
      have fin : ∃ r, Ev (fun k => code_checker_heights.j2 k V at_ (rd H at_) (mv l (rdI ins at_)).1 (mv l (rdI ins at_)).2 (!okH l (rdI ins at_) (rd H at_)) l ins a b c H (rdI ins at_).f0 (rdI ins at_).f1 (rdI ins at_).f2) r ∧ Tells (net l ins hv) r := by
        by_cases hk : okH l (rdI ins at_) (rd H at_) = true
        · obtain ⟨r, h1, h2⟩ := inner l ins a b c hv at_ hat (rd H at_) hat0 hk hR m (by omega) (fun W' H' h1 h2 => ih W' H' (by omega) h1 h2) (nxt (rdI ins at_) at_).length 0 V H (by omega) hS.tr rfl (by omega)
            (fun x hx => hS.inn x (by simp [hx]))
            (fun p hp hp0 => by
              rcases hS.cov p hp hp0 with h | h
              · rcases List.mem_append.1 h with h | h
                · exact .inl h
                · simp at h; exact .inr (.inl (by omega))
              · exact .inr (.inr h))
            (fun i _ h => by omega)
          refine ⟨r, ?_, h2⟩
          refine evs ?_
          have d1 := ff (show ¬ ((!okH l (rdI ins at_) (rd H at_)) = true) by rw [hk]; decide)
          simp only [code_checker_heights.j2, d1, if_false, hnx, Option.bind_some]
          exact h1
        · have hk' : okH l (rdI ins at_) (rd H at_) = false := by simpa using hk
          refine ⟨(false, H), ?_, .inr ⟨rfl, bad_here hR hk'⟩⟩
          refine evs ?_
          have d1 := tt (show ((!okH l (rdI ins at_) (rd H at_)) = true) by rw [hk']; decide)
          simp only [code_checker_heights.j2, d1, if_true]
          exact Ev.now _
      obtain ⟨r, h1, h2⟩ := fin
      refine ⟨r, ?_, h2⟩
      refine evs ?_
      simp only [code_checker_heights.l1, e1, e2, c1, c2, c3, c4, c5, c6, c7, if_true, Int.toNat_natCast, e3, Option.bind_some]
      rw [show code_checker_moves.f l (rdI ins at_).f0 (rdI ins at_).f1 (rdI ins at_).f2 = some (mv l (rdI ins at_)) from hmv]
      simp only [Option.bind_some]
      have hb : ∀ (P : Prop) [Decidable P] (B : Bool), (P → B = true) → (¬ P → B = false) → B = decide P := fun P _ B h1 h2 => by
        by_cases h : P
        · rw [h1 h, decide_eq_true h]
        · rw [h2 h, decide_eq_false h]
      by_cases g1 : rd H at_ < (mv l (rdI ins at_)).1
      · rw [show (!okH l (rdI ins at_) (rd H at_)) = true by simp [okH, g1]] at h1
        simp only [tt g1, if_true]
        exact h1
      by_cases g2 : rd H at_ > 4096
      · rw [show (!okH l (rdI ins at_) (rd H at_)) = true by simp [okH, g1]; omega] at h1
        simp only [ff g1, tt g2, if_true, if_false]
        exact h1
      by_cases g3 : (rdI ins at_).f0 = 20
      · by_cases g4 : rd H at_ = (mv l (rdI ins at_)).1
        · rw [show (!okH l (rdI ins at_) (rd H at_)) = false by simp [okH, g3, g4]; omega] at h1
          simp only [ff g1, ff g2, tt g3, tt g4, ff (show ¬ (rdI ins at_).f0 = 24 by omega), if_true, if_false]
          exact h1
        · rw [show (!okH l (rdI ins at_) (rd H at_)) = true by simp [okH, g1, g3, g4]] at h1
          simp only [ff g1, ff g2, tt g3, ff g4, if_true, if_false]
          exact h1
      · by_cases g4 : (rdI ins at_).f0 = 24
        · by_cases g5 : rd H at_ = 0
          · rw [show (!okH l (rdI ins at_) (rd H at_)) = (rd H at_ != 0) by simp [okH, g1, g3, g4, g5]; omega] at h1
            simp only [ff g1, ff g2, ff g3, tt g4, if_true, if_false]
            exact h1
          · rw [show (!okH l (rdI ins at_) (rd H at_)) = (rd H at_ != 0) by simp [okH, g1, g3, g4, g5]] at h1
            simp only [ff g1, ff g2, ff g3, tt g4, if_true, if_false]
            exact h1
        · rw [show (!okH l (rdI ins at_) (rd H at_)) = false by simp [okH, g3, g4]; omega] at h1
          simp only [ff g1, ff g2, ff g3, ff g4, if_true, if_false]
          exact h1
end
end Go.Proofs.YtmbjogpphegoaaaDoor.Q
end
section
/- The reference's way with heights: round by round. -/
namespace Go.Proofs.YtmbjogpphegoaaaDoor.Q
set_option linter.unusedVariables false
set_option linter.unusedSimpArgs false
open Go.RowKit Go.Proofs.YtmbjogpphegoaaaDoorW.PrintWords Go.Proofs.YtmbjogpphegoaaaDoorW.PrintLast Go.Proofs.YtmbjogpphegoaaaDoorW.PrintMore Go.Proofs.YtmbjogpphegoaaaDoor.P

section
variable (l : List Cod) (ins : List Ins) (a b : Int) (c : Bool) (hv : ∀ p, p < ins.length → Valid l.length ins.length (rdI ins p))

/-- What holds in a round, ahead of place i; 'more' tells whether a height was told in it. -/
structure Round (N : Net) (m : Nat) (more : Bool) (i : Nat) (H : List Int) : Prop where
  tr : N.True_ H
  le : Net.left H ≤ m
  lt : more = true → Net.left H + 1 ≤ m
  done : more = false → ∀ p, p < i → p < N.n → 0 ≤ rd H p → N.Done H p

end
end Go.Proofs.YtmbjogpphegoaaaDoor.Q
end
section
/- The heights of a code, and whether codes are sound: both programs say the same. -/
namespace Go.Proofs.YtmbjogpphegoaaaDoor.Q
set_option linter.unusedVariables false
set_option linter.unusedSimpArgs false
open Go.RowKit Go.Proofs.YtmbjogpphegoaaaDoorW.PrintWords Go.Proofs.YtmbjogpphegoaaaDoorW.PrintLast Go.Proofs.YtmbjogpphegoaaaDoorW.PrintMore Go.Proofs.YtmbjogpphegoaaaDoor.P

def FitI (ins : List Ins) : Prop := ∀ y ∈ ins, (Lit.int .i64 y.f0).wf = true ∧ ((Lit.int .i64 y.f1).wf = true ∧ (Lit.int .i64 y.f2).wf = true)
/-- What is asked of a code of its own. -/
def Sized (x : Cod) : Prop := 1 ≤ x.f0.length ∧ x.f0.length ≤ 65536 ∧ 0 ≤ x.f1 ∧ x.f1 ≤ 65536 ∧ 0 ≤ x.f2 ∧ x.f2 ≤ 8 ∧ x.f2 ≤ x.f1
def Shape (l : List Cod) (x : Cod) : Prop := Sized x ∧ ∀ y ∈ x.f0, May l x.f0 x.f1 x.f3 y.f0 y.f1 y.f2
theorem shape_valid {l : List Cod} {x : Cod} (h : Shape l x) : ∀ p, p < x.f0.length → Valid l.length x.f0.length (rdI x.f0 p) := fun p hp => by
  rw [rdI_at _ _ hp]
  exact may_valid l x.f0 x.f1 x.f3 (h.2 _ (List.getElem_mem hp))
def HTells (l : List Cod) (x : Cod) (r : List Int × Bool) : Prop :=
  (r.2 = true ∧ ∃ h : Shape l x, (net l x.f0 (shape_valid h)).True_ r.1 ∧ (net l x.f0 (shape_valid h)).Whole r.1) ∨ (r = ([], false) ∧ (¬ Shape l x ∨ ∃ h : Shape l x, (net l x.f0 (shape_valid h)).Bad))
theorem tells_same {l : List Cod} {x : Cod} {r s : List Int × Bool} (hr : HTells l x r) (hs : HTells l x s) : r = s := by
  rcases hr with ⟨r2, h, rT, rW⟩ | ⟨rfl, hr⟩
  · have h0 : 0 < (net l x.f0 (shape_valid h)).n := h.1.1
    rcases hs with ⟨s2, _, sT, sW⟩ | ⟨rfl, hs⟩
    · exact Prod.ext (Net.unique h0 rT rW sT sW) (r2.trans s2.symm)
    · rcases hs with hs | ⟨_, hs⟩
      · exact absurd h hs
      · exact absurd hs (Net.not_bad h0 rT rW)
  · rcases hs with ⟨s2, h, sT, sW⟩ | ⟨rfl, hs⟩
    · have h0 : 0 < (net l x.f0 (shape_valid h)).n := h.1.1
      rcases hr with hr | ⟨_, hr⟩
      · exact absurd h hr
      · exact absurd hr (Net.not_bad h0 sT sW)
    · rfl

/-! The first table. -/
def first (n : Nat) : List Int := (List.replicate n (-1 : Int)).set 0 0
theorem first_rd {n p : Nat} (hp : p < n) : rd (first n) (p : Int) = if p = 0 then 0 else -1 := by
  have hl : (first n).length = n := by simp [first]
  rw [rd_at (by omega)]
  unfold first
  rw [List.getElem_set]
  by_cases h : p = 0
  · subst h; rw [if_pos rfl, if_pos rfl]
  · rw [if_neg (fun h' => h h'.symm), if_neg h, List.getElem_replicate]
theorem first_true (N : Net) (h0 : 0 < N.n) : N.True_ (first N.n) := by
  refine ⟨by simp [first], ?_, fun p hp h => ?_, fun p hp h => ?_⟩
  · have := first_rd (n := N.n) (p := 0) h0
    rw [if_pos rfl] at this
    exact this
  · rw [first_rd hp] at h ⊢
    by_cases e : p = 0
    · subst e; rw [if_pos rfl]; exact .zero
    · rw [if_neg e] at h; omega
  · rw [first_rd hp] at h ⊢
    by_cases e : p = 0
    · rw [if_pos e] at h; omega
    · rw [if_neg e]
section
variable (l : List Cod) (ins : List Ins) (a b : Int) (c : Bool)
theorem init_loop (hn : ins.length ≤ 65536) (h1 : 1 ≤ ins.length) (r : Bool × List Int) (hr : Ev (fun k => code_checker_heights.l1 k [0] l ins a b c (first ins.length)) r) : ∀ (d i : Nat), i + d = ins.length →
    Ev (fun k => code_checker_heights.l0 k (ins.length : Int) (i : Int) l ins a b c (List.replicate i (-1))) r := by
  intro d
  induction d with
  | zero =>
    intro i hi
    obtain rfl : i = ins.length := by omega
    refine evs ?_
    have c1 := ff (Int.lt_irrefl (ins.length : Int))
    have c2 := tt (show (0 : Int) < ((List.replicate ins.length (-1 : Int)).length : Int) by rw [List.length_replicate]; omega)
    simp only [code_checker_heights.l0, c1, if_false, c2, if_true]
    exact hr
  | succ d ih =>
    intro i hi
    refine evs ?_
    have c1 := tt (show (i : Int) < (ins.length : Int) by omega)
    have c2 := tt (show (List.replicate i (-1 : Int)).length < 17592186044416 by rw [List.length_replicate]; omega)
    have b1 : i + 1 ≤ 1000000000000 := by omega
    simp only [code_checker_heights.l0, c1, c2, if_true, wsucc b1]
    rw [← List.replicate_succ']
    exact ih (i + 1) (by omega)
theorem left_le (H : List Int) : Net.left H ≤ H.length := List.countP_le_length
theorem checker_heights (hv : ∀ p, p < ins.length → Valid l.length ins.length (rdI ins p)) (hn : ins.length ≤ 65536) (h1 : 1 ≤ ins.length) : ∃ r, Ev (fun k => code_checker_heights.f k l ins a b c) r ∧ Tells (net l ins hv) r := by
  have hl : (first ins.length).length = ins.length := by simp [first]
  obtain ⟨r, h, ht⟩ := outer l ins a b c hv hn (1 + ins.length) [0] (first ins.length) (by omega) ⟨first_true (net l ins hv) h1, fun w hw => by
      simp at hw
      refine ⟨0, hw, h1, ?_⟩
      have := first_rd (n := ins.length) (p := 0) h1
      rw [this, if_pos rfl]
      decide,
    fun p hp h0 => by
      rw [show rd (first ins.length) (p : Int) = _ from first_rd hp] at h0
      by_cases e : p = 0
      · left; simp [e]
      · rw [if_neg e] at h0; omega⟩ (by have := left_le (first ins.length); simp only [List.length_cons, List.length_nil]; omega)
  exact ⟨r, init_loop l ins a b c hn h1 r h ins.length 0 (by omega), ht⟩
end
/-- Whether each instruction may be. -/
def allMay (l : List Cod) (x : Cod) (ys : List Ins) : Bool := ys.all fun y => decide (May l x.f0 x.f1 x.f3 y.f0 y.f1 y.f2)
theorem all_shape {l : List Cod} {x : Cod} (hs : Sized x) : allMay l x x.f0 = true ↔ Shape l x := by
  unfold allMay Shape
  simp only [List.all_eq_true, decide_eq_true_eq]
  exact ⟨fun h => ⟨hs, h⟩, fun h => h.2⟩
section
variable (l : List Cod) (x : Cod) (hf : FitI x.f0) (hs : Sized x)
theorem own_loop (hf : FitI x.f0) (hs : Sized x) (r : Bool × List Int) (hr : Ev (fun k => code_checker_heights.f k l x.f0 x.f1 x.f2 x.f3) r) : ∀ (d i : Nat), i + d = x.f0.length →
    Ev (fun k => code_checker_own.l0 k x.f0 (x.f0.length : Int) (i : Int) l x.f0 x.f1 x.f2 x.f3) (if allMay l x (x.f0.drop i) = true then r else (false, [])) := by
  intro d
  induction d with
  | zero =>
    intro i hi
    obtain rfl : i = x.f0.length := by omega
    rw [List.drop_length]
    refine evs ?_
    have c1 := ff (Int.lt_irrefl (x.f0.length : Int))
    simp only [code_checker_own.l0, c1, if_false]
    exact Ev.bind hr (Ev.now _)
  | succ d ih =>
    intro i hi
    have hlt : i < x.f0.length := by omega
    have c1 := tt (show (i : Int) < (x.f0.length : Int) by omega)
    have c2 := tt (show (0 : Int) ≤ (i : Int) by omega)
    have b1 : i + 1 ≤ 1000000000000 := by have := hs.2.1; omega
    obtain ⟨_, y1, y2⟩ := hf _ (List.getElem_mem hlt)
    obtain ⟨n0, n1⟩ := wf64 y1
    obtain ⟨m0, m1⟩ := wf64 y2
    rw [List.drop_eq_getElem_cons hlt]
    have g := rdI_at x.f0 i hlt
    have := ih (i + 1) (by omega)
    refine evs ?_
    simp only [code_checker_own.l0, c1, c2, if_true, wsucc b1]
    rw [show rd_T40 x.f0 (i : Int) = x.f0[i] from g]
    refine Ev.bind (may_ok l x.f0 x.f1 x.f2 x.f3 _ _ _ n0 n1 m0 m1 hs.2.2.1 hs.2.2.2.1) ?_
    unfold allMay
    rw [List.all_cons]
    cases h : decide (May l x.f0 x.f1 x.f3 (x.f0[i]).f0 (x.f0[i]).f1 (x.f0[i]).f2) with
    | true =>
      simp only [if_true, Bool.true_and]
      exact this
    | false =>
      have c3 := ff (show ¬ (false = true) by decide)
      simp only [c3, if_false, Bool.false_and]
      exact Ev.now _
theorem own_j0 (r : Bool × List Int) (bad : Bool) (h : Ev (fun k => code_checker_own.l0 k x.f0 (x.f0.length : Int) 0 l x.f0 x.f1 x.f2 x.f3) r) :
    Ev (fun k => code_checker_own.j0 k bad l x.f0 x.f1 x.f2 x.f3 x.f0 x.f1 x.f2 x.f3) (if bad = true then (false, []) else r) := by
  refine evs ?_
  cases bad with
  | true => simp only [code_checker_own.j0, if_true]; exact Ev.now _
  | false =>
    have c3 := ff (show ¬ (false = true) by decide)
    simp only [code_checker_own.j0, c3, if_false]; exact h
theorem own_bad : Ev (fun k => code_checker_own.j0 k true l x.f0 x.f1 x.f2 x.f3 x.f0 x.f1 x.f2 x.f3) (false, []) := by
  refine evs ?_
  simp only [code_checker_own.j0, if_true]; exact Ev.now _
theorem own_ok (hf : FitI x.f0) : ∃ r, Ev (fun k => code_checker_own.f k l x.f0 x.f1 x.f2 x.f3) r ∧ ((r.1 = true ∧ ∃ h : Shape l x, (net l x.f0 (shape_valid h)).True_ r.2 ∧ (net l x.f0 (shape_valid h)).Whole r.2) ∨ (r.1 = false ∧ (¬ Shape l x ∨ ∃ h : Shape l x, (net l x.f0 (shape_valid h)).Bad))) := by
  unfold code_checker_own.f
  by_cases hs : Sized x
  · obtain ⟨s0, s1, s2, s3, s4, s5, s6⟩ := id hs
    have d1 := ff (show ¬ (x.f0.length : Int) < 1 by omega)
    have d2 := ff (show ¬ (x.f0.length : Int) > 65536 by omega)
    have d3 := ff (show ¬ x.f1 < 0 by omega)
    have d4 := ff (show ¬ x.f1 > 65536 by omega)
    have d5 := ff (show ¬ x.f2 < 0 by omega)
    have d6 := ff (show ¬ x.f2 > 8 by omega)
    have d7 : decide (x.f2 > x.f1) = false := decide_eq_false (by omega)
    simp only [d1, d2, d3, d4, d5, d6, if_false, d7]
    by_cases hm : allMay l x x.f0 = true
    · have hsh := (all_shape hs).1 hm
      obtain ⟨r, hr, ht⟩ := checker_heights l x.f0 x.f1 x.f2 x.f3 (shape_valid hsh) s1 s0
      have h1 := own_loop l x hf hs r hr x.f0.length 0 (by omega)
      rw [List.drop_zero, if_pos hm] at h1
      have h2 := own_j0 l x r false h1
      refine ⟨r, h2, ?_⟩
      rcases ht with ⟨a, b, c⟩ | ⟨a, b⟩
      · exact .inl ⟨a, hsh, b, c⟩
      · exact .inr ⟨a, .inr ⟨hsh, b⟩⟩
    · have hnot : ¬ Shape l x := fun h => hm ((all_shape hs).2 h)
      have h1 : Ev (fun k => code_checker_own.l0 k x.f0 (x.f0.length : Int) 0 l x.f0 x.f1 x.f2 x.f3) (false, []) := by
        have hstop : ∀ (d i : Nat), i + d = x.f0.length → allMay l x (x.f0.drop i) = false → Ev (fun k => code_checker_own.l0 k x.f0 (x.f0.length : Int) (i : Int) l x.f0 x.f1 x.f2 x.f3) (false, []) := by
          intro d
          induction d with
          | zero =>
            intro i hi hfa
            obtain rfl : i = x.f0.length := by omega
            rw [List.drop_length] at hfa
            cases hfa
          | succ d ih =>
            intro i hi hfa
            have hlt : i < x.f0.length := by omega
            have c1 := tt (show (i : Int) < (x.f0.length : Int) by omega)
            have c2 := tt (show (0 : Int) ≤ (i : Int) by omega)
            have b1 : i + 1 ≤ 1000000000000 := by omega
            obtain ⟨_, y1, y2⟩ := hf _ (List.getElem_mem hlt)
            obtain ⟨n0, n1⟩ := wf64 y1
            obtain ⟨m0, m1⟩ := wf64 y2
            rw [List.drop_eq_getElem_cons hlt] at hfa
            have g := rdI_at x.f0 i hlt
            refine evs ?_
            simp only [code_checker_own.l0, c1, c2, if_true, wsucc b1]
            rw [show rd_T40 x.f0 (i : Int) = x.f0[i] from g]
            refine Ev.bind (may_ok l x.f0 x.f1 x.f2 x.f3 _ _ _ n0 n1 m0 m1 s2 s3) ?_
            unfold allMay at hfa
            rw [List.all_cons] at hfa
            cases h : decide (May l x.f0 x.f1 x.f3 (x.f0[i]).f0 (x.f0[i]).f1 (x.f0[i]).f2) with
            | true =>
              rw [h, Bool.true_and] at hfa
              simp only [if_true]
              exact ih (i + 1) (by omega) hfa
            | false =>
              have c3 := ff (show ¬ (false = true) by decide)
              simp only [c3, if_false]
              exact Ev.now _
        exact hstop x.f0.length 0 (by omega) (by rw [List.drop_zero]; simpa using hm)
      exact ⟨(false, []), own_j0 l x (false, []) false h1, .inr ⟨rfl, .inl hnot⟩⟩
  · refine ⟨(false, []), ?_, .inr ⟨rfl, .inl (fun h => hs h.1)⟩⟩
    have hb := own_bad l x
    by_cases d1 : (x.f0.length : Int) < 1
    · simp only [tt d1, if_true]; exact hb
    by_cases d2 : (x.f0.length : Int) > 65536
    · simp only [ff d1, if_false, tt d2, if_true]; exact hb
    by_cases d3 : x.f1 < 0
    · simp only [ff d1, ff d2, if_false, tt d3, if_true]; exact hb
    by_cases d4 : x.f1 > 65536
    · simp only [ff d1, ff d2, ff d3, if_false, tt d4, if_true]; exact hb
    by_cases d5 : x.f2 < 0
    · simp only [ff d1, ff d2, ff d3, ff d4, if_false, tt d5, if_true]; exact hb
    by_cases d6 : x.f2 > 8
    · simp only [ff d1, ff d2, ff d3, ff d4, ff d5, if_false, tt d6, if_true]; exact hb
    have d7 : decide (x.f2 > x.f1) = true := decide_eq_true (by
      by_cases h : x.f2 ≤ x.f1
      · exact absurd ⟨by omega, by omega, by omega, by omega, by omega, by omega, h⟩ hs
      · omega)
    simp only [ff d1, ff d2, ff d3, ff d4, ff d5, ff d6, if_false, d7]; exact hb
end
def FitC (l : List Cod) : Prop := ∀ x ∈ l, FitI x.f0
theorem fit_at {l : List Cod} (hf : FitC l) (k : Nat) (hk : k < l.length) : FitI (rdC l k).f0 := by
  rw [rdC_at _ _ hk]
  exact hf _ (List.getElem_mem hk)
theorem Heights_ok (l : List Cod) (hf : FitC l) (k : Nat) (hk : k < l.length) : ∃ r, Ev (fun n => code_Heights.f n l k) r ∧ HTells l (rdC l k) r := by
  obtain ⟨r, hr, ht⟩ := own_ok l (rdC l k) (fit_at hf k hk)
  have d1 := ff (show ¬ (k : Int) < 0 by omega)
  have d2 : decide ((k : Int) ≥ (l.length : Int)) = false := decide_eq_false (by omega)
  have d3 := tt (show (0 : Int) ≤ (k : Int) by omega)
  have d4 := tt (show (k : Int) < (l.length : Int) by omega)
  have c3 := ff (show ¬ (false = true) by decide)
  unfold code_Heights.f
  simp only [d1, if_false, d2]
  rcases ht with ⟨a, h, b, c⟩ | ⟨a, b⟩
  · refine ⟨(r.2, true), ?_, .inl ⟨rfl, h, b, c⟩⟩
    refine evs ?_
    simp only [code_Heights.j0, c3, if_false, d3, d4, if_true]
    refine Ev.bind hr ?_
    simp only [tt a, if_true]
    exact Ev.now _
  · refine ⟨([], false), ?_, .inr ⟨rfl, b⟩⟩
    refine evs ?_
    simp only [code_Heights.j0, c3, if_false, d3, d4, if_true]
    refine Ev.bind hr ?_
    simp only [ff (show ¬ r.1 = true by rw [a]; decide), if_false]
    exact Ev.now _
/-- Whether codes are sound. -/
def SoundP (l : List Cod) (m : Int) : Prop := (1 ≤ l.length ∧ l.length ≤ 40 ∧ 0 ≤ m ∧ m < (l.length : Int) ∧ (rdC l m).f2 = 0 ∧ (rdC l m).f3 = false) ∧ ∀ k, k < l.length → ∃ t, HTells l (rdC l k) t ∧ t.2 = true
/-- How many instructions codes have: the count ends. -/
theorem Size_ok (l : List Cod) (hl : l.length ≤ 10000000000000) (hb : ∀ x ∈ l, x.f0.length ≤ 1000000000000000) (most : Int) (hm : most ≤ 1000000) : ∃ r, Ev (fun k => parallaxref08_Size.f k l most) r := by
  have loop : ∀ (d i : Nat) (n : Int), i + d = l.length → -1 ≤ n → n ≤ 2000000000000000 → ∃ r, Ev (fun k => parallaxref08_Size.l0 k l most n i) r := by
    intro d
    induction d with
    | zero =>
      intro i n hi h0 h1
      obtain rfl : i = l.length := by omega
      refine ⟨n, evs ?_⟩
      have c1 := ff (Int.lt_irrefl (l.length : Int))
      simp only [parallaxref08_Size.l0, c1, if_false]; exact Ev.now _
    | succ d ih =>
      intro i n hi h0 h1
      have c1 := tt (show (i : Int) < (l.length : Int) by omega)
      have c2 := tt (show (0 : Int) ≤ (i : Int) by omega)
      by_cases h : n ≤ most
      · have g := rdC_at l i (by omega)
        have hx := hb _ (List.getElem_mem (show i < l.length by omega))
        have e : wrap64 (wrap64 (n + 1) + ((rd_T35 l (i : Int)).f0.length : Int)) = n + 1 + (((l[i]'(by omega)).f0.length : Nat) : Int) := by
          rw [show rd_T35 l (i : Int) = l[i] from g, w64 (n := n + 1) (by omega) (by omega), w64 (by omega) (by omega)]
        have e2 : wrap64 ((i : Int) + 1) = ((i + 1 : Nat) : Int) := by rw [w64 (by omega) (by omega)]; rfl
        obtain ⟨r, hr⟩ := ih (i + 1) (n + 1 + (((l[i]'(by omega)).f0.length : Nat) : Int)) (by omega) (by omega) (by omega)
        refine ⟨r, evs ?_⟩
        simp only [parallaxref08_Size.l0, c1, if_true, tt h, c2, e, e2]
        exact hr
      · refine ⟨n, evs ?_⟩
        simp only [parallaxref08_Size.l0, c1, if_true, ff h, if_false]; exact Ev.now _
  exact loop l.length 0 0 (by omega) (by omega) (by omega)
theorem sound_loop1 (l : List Cod) (hf : FitC l) (hl : l.length ≤ 1000) : ∀ (d i : Nat), i + d = l.length → ∃ r, Ev (fun n => code_Sound.l0 n l (l.length : Int) (i : Int)) r ∧ (r = true ↔ ∀ k, i ≤ k → k < l.length → ∃ t, HTells l (rdC l k) t ∧ t.2 = true) := by
  intro d
  induction d with
  | zero =>
    intro i hi
    obtain rfl : i = l.length := by omega
    have c1 := ff (Int.lt_irrefl (l.length : Int))
    refine ⟨true, evs ?_, fun _ k h1 h2 => by omega, fun _ => rfl⟩
    simp only [code_Sound.l0, c1, if_false]; exact Ev.now _
  | succ d ih =>
    intro i hi
    obtain ⟨t, h1, h3⟩ := Heights_ok l hf i (by omega)
    have c1 := tt (show (i : Int) < (l.length : Int) by omega)
    have b1 : i + 1 ≤ 1000000000000 := by omega
    obtain ⟨r, r1, r3⟩ := ih (i + 1) (by omega)
    by_cases ht : t.2 = true
    · refine ⟨r, evs ?_, ?_⟩
      · simp only [code_Sound.l0, c1, if_true, wsucc b1]
        refine Ev.bind h1 ?_
        simp only [tt ht, if_true]; exact r1
      · rw [r3]
        refine ⟨fun h k h1 h2 => ?_, fun h k h1 h2 => h k (by omega) h2⟩
        by_cases e : k = i
        · subst e; exact ⟨t, h3, ht⟩
        · exact h k (by omega) h2
    · refine ⟨false, evs ?_, (fun h => by cases h), fun h => ?_⟩
      · simp only [code_Sound.l0, c1, if_true]
        refine Ev.bind h1 ?_
        simp only [ff ht, if_false]; exact Ev.now _
      · obtain ⟨u, hu, hu2⟩ := h i (by omega) (by omega)
        rw [tells_same h3 hu] at ht
        exact absurd hu2 ht
/-- The program's own word. -/
theorem Sound_ok (l : List Cod) (hf : FitC l) (m : Int) : ∃ r, Ev (fun n => code_Sound.f n l m) r ∧ (r = true ↔ SoundP l m) := by
  have cb : ∀ l, Ev (fun n => code_Sound.j0 n l true) false := fun l => evs (by simp only [code_Sound.j0, if_true]; exact Ev.now _)
  unfold code_Sound.f
  by_cases d1 : l.length = 0
  · refine ⟨false, ?_, (fun h => by cases h), fun h => by have := h.1.1; omega⟩
    simp only [tt (show (l.length : Int) < 1 by omega), if_true]; exact cb l
  have e1 := ff (show ¬ (l.length : Int) < 1 by omega)
  by_cases d2 : (l.length : Int) > 40
  · refine ⟨false, ?_, (fun h => by cases h), fun h => by have := h.1.2.1; omega⟩
    simp only [e1, if_false, tt d2, if_true]; exact cb l
  by_cases d3 : m < 0
  · refine ⟨false, ?_, (fun h => by cases h), fun h => by have := h.1.2.2.1; omega⟩
    simp only [e1, if_false, ff d2, tt d3, if_true]; exact cb l
  by_cases d4 : m ≥ (l.length : Int)
  · refine ⟨false, ?_, (fun h => by cases h), fun h => by have := h.1.2.2.2.1; omega⟩
    simp only [e1, if_false, ff d2, ff d3, tt d4, if_true]; exact cb l
  have e5 := tt (show 0 ≤ m by omega)
  have e6 := tt (show m < (l.length : Int) by omega)
  by_cases d5 : (rd_T35 l m).f2 = 0
  · cases d6 : (rd_T35 l m).f3 with
    | true =>
      refine ⟨false, ?_, (fun h => by cases h), fun h => by have h9 := h.1.2.2.2.2.2; rw [show (rdC l m).f3 = true from d6] at h9; cases h9⟩
      simp only [e1, if_false, ff d2, ff d3, ff d4, e5, e6, tt d5, if_true, d6]; exact cb l
    | false =>
      have c3 := ff (show ¬ (false = true) by decide)
      obtain ⟨r, r1, r3⟩ := sound_loop1 l hf (by omega) l.length 0 (by omega)
      refine ⟨r, ?_, ?_⟩
      · simp only [e1, if_false, ff d2, ff d3, ff d4, e5, e6, tt d5, if_true, d6]
        refine evs ?_
        simp only [code_Sound.j0, c3, if_false]; exact r1
      · rw [r3]
        exact ⟨fun h => ⟨⟨by omega, by omega, by omega, by omega, d5, d6⟩, fun k hk => h k (by omega) hk⟩, fun h k _ hk => h.2 k hk⟩
  · refine ⟨false, ?_, (fun h => by cases h), fun h => absurd h.1.2.2.2.2.1 d5⟩
    simp only [e1, if_false, ff d2, ff d3, ff d4, e5, e6, ff d5, if_true]; exact cb l
end Go.Proofs.YtmbjogpphegoaaaDoor.Q
end
section
/- A change in a code: so many places are taken out, at most one is put in; heights stay: plain Lean. -/
namespace Go.Proofs.YtmbjogpphegoaaaDoor.Q
set_option linter.unusedVariables false
set_option linter.unusedSimpArgs false
open Go.RowKit Go.Proofs.YtmbjogpphegoaaaDoorW.PrintWords Go.Proofs.YtmbjogpphegoaaaDoorW.PrintLast Go.Proofs.YtmbjogpphegoaaaDoorW.PrintMore Go.Proofs.YtmbjogpphegoaaaDoor.P

/-- Where a place is, when n instructions from p on went, and m stand there. -/
def phi (p n m : Nat) (q : Int) : Int := if q ≤ (p : Int) then q else if q < ((p + n : Nat) : Int) then (p : Int) else q - (n : Int) + (m : Int)
def isJ (x : Ins) : Prop := x.f0 = 17 ∨ x.f0 = 18
instance (x : Ins) : Decidable (isJ x) := by unfold isJ; exact inferInstance
def mvI (p n m : Nat) (x : Ins) : Ins := if isJ x then ⟨x.f0, phi p n m x.f1, x.f2⟩ else x
theorem mvI_f0 (p n m : Nat) (x : Ins) : (mvI p n m x).f0 = x.f0 := by unfold mvI; split <;> rfl
theorem mvI_f2 (p n m : Nat) (x : Ins) : (mvI p n m x).f2 = x.f2 := by unfold mvI; split <;> rfl
theorem mvI_f1 {p n m : Nat} {x : Ins} (h : ¬ isJ x) : (mvI p n m x).f1 = x.f1 := by unfold mvI; rw [if_neg h]
theorem mvI_f1j {p n m : Nat} {x : Ins} (h : isJ x) : (mvI p n m x).f1 = phi p n m x.f1 := by unfold mvI; rw [if_pos h]
def doneL (ins : List Ins) (p n : Nat) (put : List Ins) : List Ins := (ins.take p ++ put ++ ins.drop (p + n)).map (mvI p n put.length)
theorem mv_mvI (l : List Cod) (p n m : Nat) (x : Ins) : mv l (mvI p n m x) = mv l x := by
  unfold mv
  rw [mvI_f0, mvI_f2]
  by_cases h : isJ x
  · have h1 : ¬ x.f0 = 19 := by rcases h with h | h <;> omega
    have h2 : ¬ x.f0 = 20 := by rcases h with h | h <;> omega
    rw [if_neg h1, if_neg h1, if_neg h2, if_neg h2]
  · rw [mvI_f1 h]
theorem okH_mvI (l : List Cod) (p n m : Nat) (x : Ins) (h : Int) : okH l (mvI p n m x) h = okH l x h := by
  unfold okH
  rw [mv_mvI, mvI_f0]
section
variable {ins put : List Ins} {p n : Nat} (hp : p + n ≤ ins.length)
theorem done_len (hp : p + n ≤ ins.length) : (doneL ins p n put).length = ins.length - n + put.length := by
  simp only [doneL, List.length_map, List.length_append, List.length_take, List.length_drop]
  omega
theorem done_lo (hp : p + n ≤ ins.length) {q : Nat} (h : q < p) : rdI (doneL ins p n put) q = mvI p n put.length (rdI ins q) := by
  rw [rdI_at _ _ (by rw [done_len hp]; omega), rdI_at _ _ (by omega)]
  unfold doneL
  rw [List.getElem_map, List.getElem_append_left (by simp; omega), List.getElem_append_left (by simp; omega), List.getElem_take]
theorem done_hi (hp : p + n ≤ ins.length) {q : Nat} (h0 : p + put.length ≤ q) (h : q < ins.length - n + put.length) : rdI (doneL ins p n put) q = mvI p n put.length (rdI ins ((q - put.length + n : Nat) : Int)) := by
  rw [rdI_at _ _ (by rw [done_len hp]; omega), rdI_at _ _ (by omega)]
  unfold doneL
  rw [List.getElem_map, List.getElem_append_right (by simp; omega), List.getElem_drop]
  congr 2
  simp only [List.length_append, List.length_take]
  omega
theorem done_mid (hp : p + n ≤ ins.length) {x : Ins} : rdI (doneL ins p n [x]) p = mvI p n 1 x := by
  rw [rdI_at _ _ (by rw [done_len hp]; simp; omega)]
  unfold doneL
  rw [List.getElem_map, List.getElem_append_left (by simp; omega), List.getElem_append_right (by simp; omega)]
  simp
end
theorem phi_lo {p n m : Nat} {q : Int} (h : q ≤ (p : Int)) : phi p n m q = q := by unfold phi; rw [if_pos h]
theorem phi_hi {p n m : Nat} {q : Nat} (hn : 1 ≤ n) (h : p + n ≤ q) : phi p n m (q : Int) = ((q - n + m : Nat) : Int) := by
  unfold phi
  rw [if_neg (by omega), if_neg (by omega)]
  omega

/-- What is asked of a change, so that heights stay. -/
structure Keeps (N : Net) (l : List Cod) (p n : Nat) (put : List Ins) : Prop where
  one : 1 ≤ n
  fit : p + n ≤ N.n
  few : put.length ≤ 1
  mid : ∀ (a : Nat) (h : Int) (b : Nat), N.R a h → (b : Int) ∈ N.nx a → a < p ∨ p + n ≤ a → b ≤ p ∨ p + n ≤ b
  thru : put = [] → ∀ h, N.R p h → N.R (p + n) h
  there : ∀ x, put = [x] → ∀ h, N.R p h → okH l x h = true ∧ ∀ q ∈ nxt (mvI p n 1 x) p, ∃ b : Nat, q = phi p n 1 b ∧ N.R b (h - (mv l x).1 + (mv l x).2) ∧ (b ≤ p ∨ p + n ≤ b)
section
variable {l : List Cod} {ins : List Ins} {hv : ∀ p, p < ins.length → Valid l.length ins.length (rdI ins p)} {p n : Nat} {put : List Ins}
def Img (N : Net) (p n m : Nat) (q : Nat) (h : Int) : Prop := (q < p ∧ N.R q h) ∨ (p + m ≤ q ∧ N.R (q - m + n) h) ∨ (m = 1 ∧ q = p ∧ N.R p h)
theorem img_of (K : Keeps (net l ins hv) l p n put) {b : Nat} {h : Int} (hr : (net l ins hv).R b h) (hb : b ≤ p ∨ p + n ≤ b) {q : Nat} (hq : (q : Int) = phi p n put.length b) : Img (net l ins hv) p n put.length q h := by
  have h1 := K.one
  have h3 := K.few
  rcases hb with hb | hb
  · rw [phi_lo (by omega)] at hq
    obtain rfl : q = b := by omega
    by_cases e : q < p
    · exact .inl ⟨e, hr⟩
    · obtain rfl : q = p := by omega
      by_cases e2 : put.length = 1
      · exact .inr (.inr ⟨e2, rfl, hr⟩)
      · have e3 : put = [] := List.length_eq_zero_iff.1 (by omega)
        have := K.thru e3 h hr
        subst e3
        exact .inr (.inl ⟨by simp, by simpa using this⟩)
  · rw [phi_hi h1 hb] at hq
    obtain rfl : q = b - n + put.length := by omega
    exact .inr (.inl ⟨by omega, by rw [show b - n + put.length - put.length + n = b by omega]; exact hr⟩)
theorem good_in {N : Net} (hg : ¬ N.Bad) {q : Nat} {h : Int} (hr : N.R q h) : q < N.n ∧ N.ok q h = true := by
  refine ⟨?_, ?_⟩
  · by_cases e : q < N.n
    · exact e
    · exact absurd ⟨q, h, hr, .inl (by omega)⟩ hg
  · cases e : N.ok q h with
    | true => rfl
    | false => exact absurd ⟨q, h, hr, .inr (.inl e)⟩ hg
theorem good_one {N : Net} (hg : ¬ N.Bad) {q : Nat} {h h' : Int} (hr : N.R q h) (hr' : N.R q h') : h' = h := by
  by_cases e : h' = h
  · exact e
  · exact absurd ⟨q, h, hr, .inr (.inr ⟨h', hr', e⟩)⟩ hg
theorem nxt_phi (x : Ins) {a q : Nat} {p n m : Nat} (hj : isJ x → phi p n m x.f1 = phi p n m x.f1) (b' : Int) (hfall : ((q : Int) + 1) = phi p n m ((a : Int) + 1)) (h : b' ∈ nxt (mvI p n m x) q) : ∃ b ∈ nxt x a, b' = phi p n m b := by
  unfold nxt at h ⊢
  rw [mvI_f0] at h
  by_cases e : x.f0 = 17
  · rw [if_pos e] at h ⊢
    rw [mvI_f1j (.inl e)] at h
    simp at h
    exact ⟨x.f1, by simp, h⟩
  rw [if_neg e] at h ⊢
  by_cases e2 : x.f0 = 18
  · rw [if_pos e2] at h ⊢
    rw [mvI_f1j (.inr e2)] at h
    simp at h
    rcases h with h | h
    · exact ⟨(a : Int) + 1, by simp, by rw [h]; exact hfall⟩
    · exact ⟨x.f1, by simp, h⟩
  rw [if_neg e2] at h ⊢
  by_cases e3 : x.f0 = 20
  · rw [if_pos e3] at h; cases h
  rw [if_neg e3] at h ⊢
  simp at h
  exact ⟨(a : Int) + 1, by simp, by rw [h]; exact hfall⟩
theorem done_img (hg : ¬ (net l ins hv).Bad) (K : Keeps (net l ins hv) l p n put) (hv' : ∀ q, q < (doneL ins p n put).length → Valid l.length (doneL ins p n put).length (rdI (doneL ins p n put) q)) {q : Nat} {h : Int}
    (hr : (net l (doneL ins p n put) hv').R q h) : Img (net l ins hv) p n put.length q h := by
  have hN : (net l ins hv).n = ins.length := rfl
  have hfit := K.fit
  rw [hN] at hfit
  have h1 := K.one
  have h3 := K.few
  induction hr with
  | zero => exact img_of K .zero (.inl (by omega)) (by rw [phi_lo (by omega)])
  | @step q h q2 hr hq hk hq2 ih =>
    have hq' : q < ins.length - n + put.length := by rw [← done_len hfit]; exact hq
    have hd : (net l (doneL ins p n put) hv').d q h = h - (mv l (rdI (doneL ins p n put) q)).1 + (mv l (rdI (doneL ins p n put) q)).2 := rfl
    have hx : (q2 : Int) ∈ nxt (rdI (doneL ins p n put) q) q := hq2
    rcases ih with ⟨e, hR⟩ | ⟨e, hR⟩ | ⟨e, rfl, hR⟩
    · rw [done_lo hfit e, mv_mvI] at hd
      rw [done_lo hfit e] at hx
      obtain ⟨b, hb, hb2⟩ := nxt_phi (a := q) (rdI ins q) (fun _ => rfl) _ (by rw [phi_lo (by omega)]) hx
      obtain ⟨i1, i2⟩ := good_in hg hR
      have b0 := (nxt_in (hv q i1) q b hb).1
      obtain ⟨c, rfl⟩ : ∃ c : Nat, b = c := ⟨b.toNat, by omega⟩
      rw [hd]
      exact img_of K (.step hR i1 i2 hb) (K.mid q h c hR hb (.inl e)) hb2
    · rw [done_hi hfit e hq', mv_mvI] at hd
      rw [done_hi hfit e hq'] at hx
      obtain ⟨b, hb, hb2⟩ := nxt_phi (a := q - put.length + n) (rdI ins ((q - put.length + n : Nat) : Int)) (fun _ => rfl) _ (by
        have := phi_hi (p := p) (m := put.length) (q := q - put.length + n + 1) h1 (by omega)
        rw [show ((q - put.length + n : Nat) : Int) + 1 = ((q - put.length + n + 1 : Nat) : Int) by omega, this]
        omega) hx
      obtain ⟨i1, i2⟩ := good_in hg hR
      have b0 := (nxt_in (hv _ i1) (q - put.length + n) b hb).1
      obtain ⟨c, rfl⟩ : ∃ c : Nat, b = c := ⟨b.toNat, by omega⟩
      rw [hd]
      exact img_of K (.step hR i1 i2 hb) (K.mid _ h c hR hb (.inr (by omega))) hb2
    · obtain ⟨x, rfl⟩ : ∃ x, put = [x] := List.length_eq_one_iff.1 e
      rw [done_mid hfit, mv_mvI] at hd
      rw [done_mid hfit] at hx
      obtain ⟨_, hn⟩ := K.there x rfl h hR
      obtain ⟨b, hb, hb2, hb3⟩ := hn _ hx
      rw [hd]
      exact img_of K hb2 hb3 hb
/-- Heights stay right. -/
theorem done_good (hg : ¬ (net l ins hv).Bad) (K : Keeps (net l ins hv) l p n put) (hv' : ∀ q, q < (doneL ins p n put).length → Valid l.length (doneL ins p n put).length (rdI (doneL ins p n put) q)) : ¬ (net l (doneL ins p n put) hv').Bad := by
  have hN : (net l ins hv).n = ins.length := rfl
  have hN' : (net l (doneL ins p n put) hv').n = (doneL ins p n put).length := rfl
  have hfit := K.fit
  rw [hN] at hfit
  have h1 := K.one
  have h3 := K.few
  rintro ⟨q, h, hr, hb⟩
  have hi := done_img hg K hv' hr
  have hin : q < ins.length - n + put.length := by
    rcases hi with ⟨e, hR⟩ | ⟨e, hR⟩ | ⟨e, rfl, hR⟩
    · omega
    · have := (good_in hg hR).1
      rw [hN] at this
      omega
    · omega
  rcases hb with hb | hb | ⟨h', hr', hne⟩
  · rw [hN', done_len hfit] at hb; omega
  · have hok : (net l (doneL ins p n put) hv').ok q h = okH l (rdI (doneL ins p n put) q) h := rfl
    rw [hok] at hb
    rcases hi with ⟨e, hR⟩ | ⟨e, hR⟩ | ⟨e, rfl, hR⟩
    · rw [done_lo hfit e, okH_mvI] at hb
      have := (good_in hg hR).2
      rw [show (net l ins hv).ok q h = okH l (rdI ins q) h from rfl, hb] at this
      cases this
    · rw [done_hi hfit e hin, okH_mvI] at hb
      have := (good_in hg hR).2
      rw [show (net l ins hv).ok (q - put.length + n) h = okH l (rdI ins ((q - put.length + n : Nat) : Int)) h from rfl, hb] at this
      cases this
    · obtain ⟨x, rfl⟩ : ∃ x, put = [x] := List.length_eq_one_iff.1 e
      rw [done_mid hfit, okH_mvI] at hb
      have := (K.there x rfl h hR).1
      rw [hb] at this
      cases this
  · have hi' := done_img hg K hv' hr'
    apply hne
    rcases hi with ⟨e, hR⟩ | ⟨e, hR⟩ | ⟨e, e2, hR⟩ <;> rcases hi' with ⟨f, hR'⟩ | ⟨f, hR'⟩ | ⟨f, f2, hR'⟩
    · exact good_one hg hR hR'
    · omega
    · omega
    · omega
    · exact good_one hg hR hR'
    · omega
    · omega
    · omega
    · exact good_one hg hR hR'
end
end Go.Proofs.YtmbjogpphegoaaaDoor.Q
end
section
/- The rules of layer 10, each by itself: heights stay, instructions may be, and there is less: plain Lean. -/
namespace Go.Proofs.YtmbjogpphegoaaaDoor.Q
set_option linter.unusedVariables false
set_option linter.unusedSimpArgs false
open Go.RowKit Go.Proofs.YtmbjogpphegoaaaDoorW.PrintWords Go.Proofs.YtmbjogpphegoaaaDoorW.PrintLast Go.Proofs.YtmbjogpphegoaaaDoorW.PrintMore Go.Proofs.YtmbjogpphegoaaaDoor.P

/-- A place that can be reached. -/
def At (N : Net) (p : Nat) : Prop := ∃ h, N.R p h
/-- A jump that can be reached leads there. -/
def Tgt (N : Net) (ins : List Ins) (q : Nat) : Prop := ∃ a, At N a ∧ a < ins.length ∧ isJ (rdI ins a) ∧ (rdI ins a).f1 = (q : Int)
def Wf (n : Int) : Prop := (Lit.int .i64 n).wf = true

/-- What two instructions are turned into. -/
inductive Pair (i j : Ins) : List Ins → Prop
  | neg (n : Int) : i.f0 = 1 → (j.f0 = 15 ∨ j.f0 = 16) → Wf n → Pair i j [⟨1, n, 0⟩]
  | idle : (i.f0 = 1 ∨ i.f0 = 2) → (j.f0 = 25 ∨ (7 ≤ j.f0 ∧ j.f0 ≤ 10) ∨ j.f0 = 3 ∨ j.f0 = 18 ∨ j.f0 = 23) → Pair i j []
  | jump : i.f0 = 1 → j.f0 = 18 → Pair i j [⟨17, j.f1, 0⟩]
  | clear : i.f0 = 6 → j.f0 = 6 → j.f1 = i.f1 + i.f2 → i.f2 + j.f2 ≤ 64 → Pair i j [⟨6, i.f1, i.f2 + j.f2⟩]
/-- What is done at a place. -/
inductive Fit (R T : Nat → Prop) (ins : List Ins) (p : Nat) : Nat → List Ins → Prop
  | gone : ¬ R p → Fit R T ins p 1 []
  | next : R p → (rdI ins p).f0 = 17 → (rdI ins p).f1 = (p : Int) + 1 → Fit R T ins p 1 []
  | zero : R p → (rdI ins p).f0 = 18 → (rdI ins p).f1 = (p : Int) + 1 → Fit R T ins p 1 [⟨25, 0, 0⟩]
  | far : R p → isJ (rdI ins p) → (rdI ins (rdI ins p).f1).f0 = 17 → (rdI ins p).f1 < (rdI ins (rdI ins p).f1).f1 → Fit R T ins p 1 [⟨(rdI ins p).f0, (rdI ins (rdI ins p).f1).f1, (rdI ins p).f2⟩]
  | pair (put : List Ins) : R p → p + 2 ≤ ins.length → ¬ T (p + 1) → Pair (rdI ins p) (rdI ins ((p + 1 : Nat) : Int)) put → Fit R T ins p 2 put
  | three (n : Int) : R p → p + 3 ≤ ins.length → ¬ T (p + 1) → ¬ T (p + 2) → (rdI ins p).f0 = 1 → (rdI ins ((p + 1 : Nat) : Int)).f0 = 1 → 7 ≤ (rdI ins ((p + 2 : Nat) : Int)).f0 → (rdI ins ((p + 2 : Nat) : Int)).f0 ≤ 14 → Wf n → Fit R T ins p 3 [⟨1, n, 0⟩]

theorem mv_st (l : List Cod) {x : Ins} {c : Int} (h : x.f0 = c) (h1 : c ≠ 19) (h2 : c ≠ 20) : mv l x = (rd code_STACK (c * 2), rd code_STACK (c * 2 + 1)) := by
  unfold mv
  rw [h, if_neg h1, if_neg h2]
theorem mv_up (l : List Cod) {x : Ins} (h : x.f0 = 1 ∨ x.f0 = 2) : mv l x = (0, 1) := by
  rcases h with h | h
  · rw [mv_st l h (by decide) (by decide)]; rfl
  · rw [mv_st l h (by decide) (by decide)]; rfl
theorem mv_jump (l : List Cod) {x : Ins} (h : x.f0 = 17) : mv l x = (0, 0) := by rw [mv_st l h (by decide) (by decide)]; rfl
theorem mv_clear (l : List Cod) {x : Ins} (h : x.f0 = 6) : mv l x = (0, 0) := by rw [mv_st l h (by decide) (by decide)]; rfl
theorem mv_zero (l : List Cod) {x : Ins} (h : x.f0 = 18) : mv l x = (1, 0) := by rw [mv_st l h (by decide) (by decide)]; rfl
theorem mv_drop (l : List Cod) {x : Ins} (h : x.f0 = 25) : mv l x = (1, 0) := by rw [mv_st l h (by decide) (by decide)]; rfl
theorem mv_turn (l : List Cod) {x : Ins} (h : x.f0 = 15 ∨ x.f0 = 16) : mv l x = (1, 1) := by
  rcases h with h | h
  · rw [mv_st l h (by decide) (by decide)]; rfl
  · rw [mv_st l h (by decide) (by decide)]; rfl
theorem mv_two (l : List Cod) {x : Ins} (h0 : 7 ≤ x.f0) (h1 : x.f0 ≤ 14) : mv l x = (2, 1) := by
  have : x.f0 = 7 ∨ x.f0 = 8 ∨ x.f0 = 9 ∨ x.f0 = 10 ∨ x.f0 = 11 ∨ x.f0 = 12 ∨ x.f0 = 13 ∨ x.f0 = 14 := by omega
  rcases this with h | h | h | h | h | h | h | h <;> (rw [mv_st l h (by decide) (by decide)]; rfl)
theorem mv_idle (l : List Cod) {x : Ins} (h : x.f0 = 25 ∨ (7 ≤ x.f0 ∧ x.f0 ≤ 10) ∨ x.f0 = 3 ∨ x.f0 = 18 ∨ x.f0 = 23) : (mv l x).1 = (mv l x).2 + 1 := by
  rcases h with h | ⟨h0, h1⟩ | h | h | h
  · rw [mv_drop l h]; rfl
  · rw [mv_two l h0 (by omega)]; rfl
  · rw [mv_st l h (by decide) (by decide)]; rfl
  · rw [mv_zero l h]; rfl
  · rw [mv_st l h (by decide) (by decide)]; rfl
theorem nxt_fall {x : Ins} (h1 : x.f0 ≠ 17) (h2 : x.f0 ≠ 20) (a : Nat) : ((a + 1 : Nat) : Int) ∈ nxt x a := by
  unfold nxt
  rw [if_neg h1]
  by_cases h : x.f0 = 18
  · rw [if_pos h]; simp
  · rw [if_neg h, if_neg h2]; simp
theorem nxt_jump {x : Ins} (h : isJ x) (a : Nat) {q : Nat} (hq : x.f1 = (q : Int)) : (q : Int) ∈ nxt x a := by
  unfold nxt
  rcases h with h | h
  · rw [if_pos h, hq]; simp
  · rw [if_neg (by omega), if_pos h, hq]; simp
theorem nxt_cases {x : Ins} {a : Nat} {b : Int} (h : b ∈ nxt x a) : (b = (a : Int) + 1 ∧ x.f0 ≠ 17) ∨ (isJ x ∧ b = x.f1) := by
  unfold nxt at h
  by_cases e : x.f0 = 17
  · rw [if_pos e] at h; simp at h; exact .inr ⟨.inl e, h⟩
  rw [if_neg e] at h
  by_cases e2 : x.f0 = 18
  · rw [if_pos e2] at h; simp at h
    rcases h with h | h
    · exact .inl ⟨h, e⟩
    · exact .inr ⟨.inr e2, h⟩
  rw [if_neg e2] at h
  by_cases e3 : x.f0 = 20
  · rw [if_pos e3] at h; cases h
  rw [if_neg e3] at h; simp at h; exact .inl ⟨h, e⟩
theorem nxt_one {x : Ins} (h1 : ¬ isJ x) (h2 : x.f0 ≠ 20) (a : Nat) {b : Int} (h : b ∈ nxt x a) : b = (a : Int) + 1 := by
  rcases nxt_cases h with ⟨h, _⟩ | ⟨h, _⟩
  · exact h
  · exact absurd h h1
section
variable {l : List Cod} {ins : List Ins} {hv : ∀ p, p < ins.length → Valid l.length ins.length (rdI ins p)} {p n : Nat} {put : List Ins}
theorem go (hg : ¬ (net l ins hv).Bad) {a : Nat} {h : Int} (hr : (net l ins hv).R a h) {q : Nat} (hq : (q : Int) ∈ nxt (rdI ins a) a) : (net l ins hv).R q (h - (mv l (rdI ins a)).1 + (mv l (rdI ins a)).2) :=
  .step hr (good_in hg hr).1 (good_in hg hr).2 hq
theorem at_in (hg : ¬ (net l ins hv).Bad) {a : Nat} {h : Int} (hr : (net l ins hv).R a h) : a < ins.length := (good_in hg hr).1
theorem at_ok (hg : ¬ (net l ins hv).Bad) {a : Nat} {h : Int} (hr : (net l ins hv).R a h) : okH l (rdI ins a) h = true := (good_in hg hr).2
theorem mid_of (hg : ¬ (net l ins hv).Bad) (ht : ∀ q, p < q → q < p + n → ¬ Tgt (net l ins hv) ins q) : ∀ (a : Nat) (h : Int) (b : Nat), (net l ins hv).R a h → (b : Int) ∈ (net l ins hv).nx a → a < p ∨ p + n ≤ a → b ≤ p ∨ p + n ≤ b := by
  intro a h b hr hb ha
  rcases nxt_cases hb with ⟨e, _⟩ | ⟨j, e⟩
  · omega
  · by_cases e1 : b ≤ p
    · exact .inl e1
    by_cases e2 : p + n ≤ b
    · exact .inr e2
    exact absurd ⟨a, ⟨h, hr⟩, at_in hg hr, j, e.symm⟩ (ht b (by omega) (by omega))
theorem okH_of {x : Ins} {h : Int} (h0 : (mv l x).1 ≤ h) (h1 : h ≤ 4096) (h2 : x.f0 ≠ 20) (h3 : x.f0 ≠ 24) : okH l x h = true := by
  rw [okH_iff]
  rintro (a | a | ⟨a, _⟩ | ⟨a, _⟩)
  · omega
  · omega
  · exact h2 a
  · exact h3 a
theorem ok_lo {x : Ins} {h : Int} (hk : okH l x h = true) : (mv l x).1 ≤ h ∧ h ≤ 4096 := by
  have := okH_iff.1 hk
  omega
theorem isJ_not {x : Ins} {c : Int} (h : x.f0 = c) (h1 : c ≠ 17) (h2 : c ≠ 18) : ¬ isJ x := by
  rintro (e | e) <;> omega
/-- What fits keeps the heights. -/
theorem fit_keeps (hg : ¬ (net l ins hv).Bad) (hp : p < ins.length) (F : Fit (At (net l ins hv)) (Tgt (net l ins hv) ins) ins p n put) : Keeps (net l ins hv) l p n put := by
  have hN : (net l ins hv).n = ins.length := rfl
  cases F with
  | gone hR =>
    exact ⟨by decide, by rw [hN]; omega, by simp, mid_of hg (fun q _ _ => by omega), fun _ h hr => absurd ⟨h, hr⟩ hR, fun x hx => by simp at hx⟩
  | next hR h0 h1 =>
    refine ⟨by decide, by rw [hN]; omega, by simp, mid_of hg (fun q _ _ => by omega), fun _ h hr => ?_, fun x hx => by simp at hx⟩
    have := go hg hr (q := p + 1) (nxt_jump (.inl h0) _ (by rw [h1]; omega))
    rw [mv_jump l h0] at this
    simpa using this
  | zero hR h0 h1 =>
    refine ⟨by decide, by rw [hN]; omega, by simp, mid_of hg (fun q _ _ => by omega), (fun e => by cases e), fun x hx h hr => ?_⟩
    obtain rfl : (⟨25, 0, 0⟩ : Ins) = x := by simpa using hx
    have k := ok_lo (at_ok hg hr)
    rw [mv_zero l h0] at k
    have r := go hg hr (q := p + 1) (nxt_jump (.inr h0) _ (by rw [h1]; omega))
    rw [mv_zero l h0] at r
    refine ⟨okH_of (by rw [mv_drop l rfl]; exact k.1) k.2 (by decide) (by decide), fun q hq => ?_⟩
    have := nxt_one (by rw [show mvI p 1 1 (⟨25, 0, 0⟩ : Ins) = ⟨25, 0, 0⟩ from rfl]; exact isJ_not rfl (by decide) (by decide)) (by rw [mvI_f0]; decide) p hq
    refine ⟨p + 1, ?_, ?_, .inr (by omega)⟩
    · rw [this, phi_hi (by decide) (by omega)]; omega
    · rw [mv_drop l rfl]; exact r
  | far hR hj h0 h1 =>
    refine ⟨by decide, by rw [hN]; omega, by simp, mid_of hg (fun q _ _ => by omega), (fun e => by cases e), fun x hx h hr => ?_⟩
    obtain rfl := (List.cons.inj hx).1
    have k := at_ok hg hr
    have v := (hv p hp).jump hj
    obtain ⟨q1, hq1⟩ : ∃ q1 : Nat, (rdI ins p).f1 = q1 := ⟨((rdI ins p).f1).toNat, by omega⟩
    have r1 := go hg hr (nxt_jump hj p hq1)
    rw [hq1] at h0 h1
    have v2 := (hv q1 (by omega)).jump (.inl h0)
    obtain ⟨q2, hq2⟩ : ∃ q2 : Nat, (rdI ins q1).f1 = q2 := ⟨((rdI ins q1).f1).toNat, by omega⟩
    have r2 := go hg r1 (nxt_jump (.inl h0) q1 hq2)
    rw [mv_jump l h0] at r2
    have em : ∀ a : Int, mv l (⟨(rdI ins p).f0, a, (rdI ins p).f2⟩ : Ins) = mv l (rdI ins p) := by
      intro a
      unfold mv
      rcases hj with hj | hj
      · simp only [hj]; rfl
      · simp only [hj]; rfl
    refine ⟨?_, fun q hq => ?_⟩
    · unfold okH at k ⊢
      rw [em]; exact k
    · rw [em]
      have ef : ∀ a : Nat, phi p 1 1 (a : Int) = (a : Int) := by
        intro a
        unfold phi
        split
        · rfl
        · split
          · omega
          · omega
      rcases nxt_cases hq with ⟨e, e9⟩ | ⟨j, e⟩
      · rw [mvI_f0] at e9
        have hz : (rdI ins p).f0 = 18 := hj.resolve_left e9
        have r := go hg hr (nxt_fall (by omega) (by omega) p)
        exact ⟨p + 1, by rw [e, ef]; omega, r, .inr (by omega)⟩
      · rw [mvI_f1j (by rcases hj with hj | hj; exact .inl hj; exact .inr hj)] at e
        rw [show (⟨(rdI ins p).f0, (rdI ins (rdI ins p).f1).f1, (rdI ins p).f2⟩ : Ins).f1 = (q2 : Int) by rw [hq1]; exact hq2] at e
        exact ⟨q2, e, by simpa using r2, by omega⟩
  | pair put hR hl hT P =>
    have hmid := mid_of (p := p) (n := 2) hg (fun q h1 h2 => by obtain rfl : q = p + 1 := (by omega); exact hT)
    cases P with
    | neg m hi hj hw =>
      refine ⟨by decide, by rw [hN]; omega, by simp, hmid, (fun e => by cases e), fun x hx h hr => ?_⟩
      obtain rfl := (List.cons.inj hx).1
      have r1 := go hg hr (nxt_fall (by omega) (by omega) p)
      rw [mv_up l (.inl hi)] at r1
      have r2 := go hg r1 (nxt_fall (by omega) (by omega) (p + 1))
      rw [mv_turn l hj] at r2
      have k := ok_lo (at_ok hg hr)
      rw [mv_up l (.inl hi)] at k
      refine ⟨okH_of (by rw [mv_up l (.inl rfl)]; exact k.1) k.2 (by simp) (by simp), fun q hq => ?_⟩
      have := nxt_one (by rintro (e | e) <;> (rw [mvI_f0] at e; simp at e)) (by rw [mvI_f0]; simp) p hq
      refine ⟨p + 2, ?_, ?_, .inr (by omega)⟩
      · rw [this, phi_hi (by decide) (by omega)]; omega
      · rw [mv_up l (.inl rfl)]
        simpa using r2
    | idle hi hj =>
      refine ⟨by decide, by rw [hN]; omega, by simp, hmid, fun _ h hr => ?_, fun x hx => by simp at hx⟩
      have r1 := go hg hr (nxt_fall (by omega) (by omega) p)
      rw [mv_up l hi] at r1
      have r2 := go hg r1 (nxt_fall (by omega) (by omega) (p + 1))
      have m := mv_idle l hj
      rw [show h - (0, 1).1 + (0, 1).2 - (mv l (rdI ins ((p + 1 : Nat) : Int))).1 + (mv l (rdI ins ((p + 1 : Nat) : Int))).2 = h by simp only []; omega] at r2
      exact r2
    | jump hi hj =>
      refine ⟨by decide, by rw [hN]; omega, by simp, hmid, (fun e => by cases e), fun x hx h hr => ?_⟩
      obtain rfl := (List.cons.inj hx).1
      have r1 := go hg hr (nxt_fall (by omega) (by omega) p)
      rw [mv_up l (.inl hi)] at r1
      have v := (hv (p + 1) (by omega)).jump (.inr hj)
      obtain ⟨q1, hq1⟩ : ∃ q1 : Nat, (rdI ins ((p + 1 : Nat) : Int)).f1 = q1 := ⟨((rdI ins ((p + 1 : Nat) : Int)).f1).toNat, by omega⟩
      have r2 := go hg r1 (nxt_jump (.inr hj) (p + 1) hq1)
      rw [mv_zero l hj] at r2
      have k := ok_lo (at_ok hg hr)
      rw [mv_up l (.inl hi)] at k
      refine ⟨okH_of (by rw [mv_jump l rfl]; exact k.1) k.2 (by simp) (by simp), fun q hq => ?_⟩
      have e : q = phi p 2 1 (rdI ins ((p + 1 : Nat) : Int)).f1 := by
        unfold nxt at hq
        rw [mvI_f0, if_pos rfl, mvI_f1j (.inl rfl)] at hq
        simpa using hq
      refine ⟨q1, by rw [e, hq1], ?_, ?_⟩
      · rw [mv_jump l rfl]
        simpa using r2
      · have : q1 ≠ p + 1 := fun e => hT ⟨p + 1, ⟨_, r1⟩, by omega, .inr hj, by rw [hq1, e]⟩
        omega
    | clear hi hj h1 h2 =>
      refine ⟨by decide, by rw [hN]; omega, by simp, hmid, (fun e => by cases e), fun x hx h hr => ?_⟩
      obtain rfl := (List.cons.inj hx).1
      have r1 := go hg hr (nxt_fall (by omega) (by omega) p)
      rw [mv_clear l hi] at r1
      have r2 := go hg r1 (nxt_fall (by omega) (by omega) (p + 1))
      rw [mv_clear l hj] at r2
      have k := ok_lo (at_ok hg hr)
      rw [mv_clear l hi] at k
      refine ⟨okH_of (by rw [mv_clear l rfl]; exact k.1) k.2 (by simp) (by simp), fun q hq => ?_⟩
      have := nxt_one (by rintro (e | e) <;> (rw [mvI_f0] at e; simp at e)) (by rw [mvI_f0]; simp) p hq
      refine ⟨p + 2, ?_, ?_, .inr (by omega)⟩
      · rw [this, phi_hi (by decide) (by omega)]; omega
      · rw [mv_clear l rfl]
        simpa using r2
  | three m hR hl hT hT2 hi hj hk0 hk1 hw =>
    refine ⟨by decide, by rw [hN]; omega, by simp, mid_of (p := p) (n := 3) hg (fun q h1 h2 => by
      rcases (show q = p + 1 ∨ q = p + 2 by omega) with rfl | rfl
      · exact hT
      · exact hT2), (fun e => by cases e), fun x hx h hr => ?_⟩
    obtain rfl := (List.cons.inj hx).1
    have r1 := go hg hr (nxt_fall (by omega) (by omega) p)
    rw [mv_up l (.inl hi)] at r1
    have r2 := go hg r1 (q := p + 2) (nxt_fall (by omega) (by omega) (p + 1))
    rw [mv_up l (.inl hj)] at r2
    have r3 := go hg r2 (q := p + 3) (nxt_fall (by omega) (by omega) (p + 2))
    rw [mv_two l hk0 hk1] at r3
    have k := ok_lo (at_ok hg hr)
    rw [mv_up l (.inl hi)] at k
    refine ⟨okH_of (by rw [mv_up l (.inl rfl)]; exact k.1) k.2 (by simp) (by simp), fun q hq => ?_⟩
    have := nxt_one (by rintro (e | e) <;> (rw [mvI_f0] at e; simp at e)) (by rw [mvI_f0]; simp) p hq
    refine ⟨p + 3, ?_, ?_, .inr (by omega)⟩
    · rw [this, phi_hi (by decide) (by omega)]; omega
    · rw [mv_up l (.inl rfl)]
      rw [show h - (0, 1).1 + (0, 1).2 = h - (0, 1).1 + (0, 1).2 - (0, 1).1 + (0, 1).2 - (2, 1).1 + (2, 1).2 by simp only []; omega]
      exact r3
end
end Go.Proofs.YtmbjogpphegoaaaDoor.Q
end
section
/- The program's look at a code: what can be reached, and where reached jumps lead. -/
namespace Go.Proofs.YtmbjogpphegoaaaDoor.Q
set_option linter.unusedVariables false
set_option linter.unusedSimpArgs false
open Go.RowKit Go.Proofs.YtmbjogpphegoaaaDoorW.PrintWords Go.Proofs.YtmbjogpphegoaaaDoorW.PrintLast Go.Proofs.YtmbjogpphegoaaaDoorW.PrintMore Go.Proofs.YtmbjogpphegoaaaDoor.P

abbrev fl (l : List Bool) (i : Int) : Bool := rdOf false l i
theorem fl_set_eq (H : List Bool) (p : Nat) (h : p < H.length) : fl (H.set p true) (p : Int) = true := by simp [fl, rdOf, List.getD, h]
theorem fl_set_ne (H : List Bool) (p q : Nat) (h : p ≠ q) : fl (H.set p true) (q : Int) = fl H (q : Int) := by simp [fl, rdOf, List.getD, List.getElem?_set_ne h]
theorem fl_at {l : List Bool} {i : Nat} (h : i < l.length) : fl l (i : Int) = l[i] := by simp [fl, rdOf, List.getD, h]
theorem fl_set (H : List Bool) (p q : Nat) (h : p < H.length) : fl (H.set p true) (q : Int) = true ↔ (q = p ∨ fl H (q : Int) = true) := by
  by_cases e : p = q
  · subst e; simp [fl_set_eq H p h]
  · rw [fl_set_ne H p q e]
    exact ⟨.inr, fun h => h.resolve_left (fun h => e h.symm)⟩
/-- How many places were not looked at. -/
def dark (H : List Bool) : Nat := H.countP (fun x => !x)
theorem dark_set {H : List Bool} {q : Nat} (hl : q < H.length) (hq : fl H q = false) : dark (H.set q true) + 1 = dark H := by
  rw [fl_at hl] at hq
  have hp : 0 < H.countP (fun x => !x) := List.countP_pos_iff.2 ⟨H[q], List.getElem_mem hl, by simp [hq]⟩
  unfold dark
  rw [List.countP_set hl, if_pos (by simp [hq]), if_neg (by simp)]
  omega
theorem jumps_at (x : Ins) : peep_jumps.f x.f0 x.f1 x.f2 = some (decide (isJ x)) := by
  unfold peep_jumps.f
  by_cases h : x.f0 = 17
  · rw [if_pos h, decide_eq_true (show isJ x from .inl h)]
  · rw [if_neg h]
    by_cases h2 : x.f0 = 18
    · rw [decide_eq_true (show isJ x from .inr h2), beq_iff_eq.mpr h2]
    · rw [decide_eq_false (show ¬ isJ x by rintro (e | e); exact h e; exact h2 e), beq_eq_false_iff_ne.mpr h2]
theorem pfollow_at (ins : List Ins) (p : Nat) (hp : p < ins.length) (hl : ins.length ≤ 100000) (r t : List Bool) : peep_sight_follow.f ins p r t = some (nxt (rdI ins p) p) := by
  have e : wrap64 ((p : Int) + 1) = (p : Int) + 1 := w64 (by omega) (by omega)
  unfold peep_sight_follow.f nxt
  rw [if_pos (by omega), if_pos (by omega), e]
  by_cases h1 : (rdI ins p).f0 = 20
  · rw [if_pos h1, if_neg (by omega), if_neg (by omega), if_pos h1]
  rw [if_neg h1]
  by_cases h2 : (rdI ins p).f0 = 17
  · rw [if_pos h2, if_pos h2]
  rw [if_neg h2, if_neg h2]
  by_cases h3 : (rdI ins p).f0 = 18
  · rw [if_pos h3, if_pos h3]
  · rw [if_neg h3, if_neg h3, if_neg h1]
/-- What the two rows say. -/
structure Seen (N : Net) (ins : List Ins) (r : List Bool × List Bool) : Prop where
  rl : r.1.length = ins.length
  tl : r.2.length = ins.length
  re : ∀ p : Nat, p < ins.length → (fl r.1 p = true ↔ At N p)
  ta : ∀ q : Nat, q < ins.length → (fl r.2 q = true ↔ Tgt N ins q)
section
variable {l : List Cod} {ins : List Ins} {hv : ∀ p, p < ins.length → Valid l.length ins.length (rdI ins p)}
structure Looks (l : List Cod) (ins : List Ins) (hv : ∀ p, p < ins.length → Valid l.length ins.length (rdI ins p)) (W : List Int) (re ta : List Bool) : Prop where
  rl : re.length = ins.length
  tl : ta.length = ins.length
  win : ∀ w ∈ W, ∃ p : Nat, w = p ∧ At (net l ins hv) p
  rin : ∀ p : Nat, p < ins.length → fl re p = true → At (net l ins hv) p
  zero : (0 : Int) ∈ W ∨ fl re 0 = true
  cov : ∀ p : Nat, p < ins.length → fl re p = true → ∀ q : Nat, (q : Int) ∈ nxt (rdI ins p) p → (q : Int) ∈ W ∨ fl re q = true
  ta : ∀ q : Nat, q < ins.length → (fl ta q = true ↔ ∃ a : Nat, a < ins.length ∧ fl re a = true ∧ isJ (rdI ins a) ∧ (rdI ins a).f1 = (q : Int))
theorem look_loop (hg : ¬ (net l ins hv).Bad) (hn : ins.length ≤ 65536) : ∀ (m : Nat) (W : List Int) (re ta : List Bool), W.length + 2 * dark re ≤ m → m ≤ 300000 → Looks l ins hv W re ta → ∃ r, Ev (fun k => peep_look.l0 k ins W ins re ta) r ∧ Seen (net l ins hv) ins r := by
  have stop : ∀ (re ta : List Bool), Looks l ins hv [] re ta → ∃ r, Ev (fun k => peep_look.l0 k ins [] ins re ta) r ∧ Seen (net l ins hv) ins r := by
    intro re ta S
    have all : ∀ p h, (net l ins hv).R p h → fl re p = true := by
      intro p h hr
      induction hr with
      | zero => exact S.zero.resolve_left (by simp)
      | step hr hp hk hq ih => exact (S.cov _ hp ih _ hq).resolve_left (by simp)
    refine ⟨(re, ta), evs ?_, S.rl, S.tl, fun p hp => ⟨S.rin p hp, fun ⟨h, hr⟩ => all p h hr⟩, fun q hq => ?_⟩
    · have c1 := ff (show ¬ (([] : List Int).length : Int) > 0 by simp)
      simp only [peep_look.l0, c1, if_false]
      exact Ev.now _
    · rw [S.ta q hq]
      constructor
      · rintro ⟨a, h1, h2, h3, h4⟩; exact ⟨a, S.rin a h1 h2, h1, h3, h4⟩
      · rintro ⟨a, ⟨h, hr⟩, h1, h3, h4⟩; exact ⟨a, h1, all a h hr, h3, h4⟩
  intro m
  induction m with
  | zero =>
    intro W re ta hm _ S
    obtain rfl : W = [] := List.length_eq_zero_iff.1 (by omega)
    exact stop re ta S
  | succ m ih =>
    intro W re ta hm hm3 S
    rcases List.eq_nil_or_concat W with rfl | ⟨V, w, rfl⟩
    · exact stop re ta S
    rw [List.concat_eq_append] at S hm ⊢
    obtain ⟨p, rfl, hat⟩ := S.win w (by simp)
    obtain ⟨h, hr⟩ := id hat
    have hp := at_in hg hr
    have hrl := S.rl
    have htl := S.tl
    have hVl : (V ++ [(p : Int)]).length = V.length + 1 := by simp
    rw [hVl] at hm
    have e1 : wrap64 (((V ++ [(p : Int)]).length : Int) - 1) = ((V.length : Nat) : Int) := by rw [hVl, w64 (by omega) (by omega)]; omega
    have e2 : rd (V ++ [(p : Int)]) ((V.length : Nat) : Int) = (p : Int) := by rw [rd_at (by simp)]; simp
    have e3 : (V ++ [(p : Int)]).take V.length = V := by simp
    have c1 := tt (show ((V ++ [(p : Int)]).length : Int) > 0 by rw [hVl]; omega)
    have c2 := tt (show (0 : Int) ≤ ((V.length : Nat) : Int) by omega)
    have c3 := tt (show ((V.length : Nat) : Int) < ((V ++ [(p : Int)]).length : Int) by rw [hVl]; omega)
    have c4 := tt (show ((V.length : Nat) : Int) ≤ ((V ++ [(p : Int)]).length : Int) by rw [hVl]; omega)
    have c5 := tt (show (0 : Int) ≤ (p : Int) by omega)
    have c6 := tt (show (p : Int) < (re.length : Int) by omega)
    have c7 := tt (show (p : Int) < (ins.length : Int) by omega)
    have c3f := ff (show ¬ (false = true) by decide)
    cases hf : fl re p with
    | true =>
      have hf' : rdOf false re (p : Int) = true := hf
      obtain ⟨r, h1, h2⟩ := ih V re ta (by omega) (by omega) ⟨S.rl, S.tl, fun w hw => S.win w (by simp [hw]), S.rin, by
          rcases S.zero with h | h
          · simp at h
            rcases h with h | h
            · exact .inl h
            · obtain rfl : p = 0 := by omega
              exact .inr hf
          · exact .inr h, fun a ha hre q hq => by
          rcases S.cov a ha hre q hq with h | h
          · simp at h
            rcases h with h | h
            · exact .inl h
            · obtain rfl : q = p := by omega
              exact .inr hf
          · exact .inr h, S.ta⟩
      refine ⟨r, evs ?_, h2⟩
      simp only [peep_look.l0, e1, e2, c1, c2, c3, c4, c5, c6, if_true, Int.toNat_natCast, e3, Option.bind_some, hf']
      exact h1
    | false =>
      have hf' : rdOf false re (p : Int) = false := hf
      have hk := hv p hp
      have hN : (nxt (rdI ins p) p).length ≤ 2 := nxt_len _ _
      have hd := dark_set (H := re) (q := p) (by omega) hf
      have hin : ∀ w ∈ nxt (rdI ins p) p, ∃ q : Nat, w = q ∧ At (net l ins hv) q := by
        intro w hw
        have := (nxt_in hk p w hw).1
        obtain ⟨q, rfl⟩ : ∃ q : Nat, w = q := ⟨w.toNat, by omega⟩
        exact ⟨q, rfl, _, go hg hr hw⟩
      have base : ∀ ta' : List Bool, ta'.length = ins.length → (∀ q : Nat, q < ins.length → (fl ta' q = true ↔ (fl ta q = true ∨ (isJ (rdI ins p) ∧ (rdI ins p).f1 = (q : Int))))) → Looks l ins hv (V ++ nxt (rdI ins p) p) (re.set p true) ta' := by
        intro ta' hl hta
        refine ⟨by rw [List.length_set]; exact hrl, hl, fun w hw => ?_, fun q hq hre => ?_, ?_, fun a ha hre q hq => ?_, fun q hq => ?_⟩
        · rcases List.mem_append.1 hw with hw | hw
          · exact S.win w (by simp [hw])
          · exact hin w hw
        · rcases (fl_set re p q (by omega)).1 hre with rfl | h
          · exact hat
          · exact S.rin q hq h
        · rcases S.zero with h | h
          · simp at h
            rcases h with h | h
            · exact .inl (by simp [h])
            · obtain rfl : p = 0 := by omega
              exact .inr (fl_set_eq re 0 (by omega))
          · exact .inr ((fl_set re p 0 (by omega)).2 (.inr h))
        · rcases (fl_set re p a (by omega)).1 hre with rfl | h
          · exact .inl (by simp [hq])
          · rcases S.cov a ha h q hq with h | h
            · simp at h
              rcases h with h | h
              · exact .inl (by simp [h])
              · obtain rfl : q = p := by omega
                exact .inr (fl_set_eq re q (by omega))
            · exact .inr ((fl_set re p q (by omega)).2 (.inr h))
        · rw [hta q hq, S.ta q hq]
          constructor
          · rintro (⟨a, h1, h2, h3, h4⟩ | ⟨h3, h4⟩)
            · exact ⟨a, h1, (fl_set re p a (by omega)).2 (.inr h2), h3, h4⟩
            · exact ⟨p, hp, fl_set_eq re p (by omega), h3, h4⟩
          · rintro ⟨a, h1, h2, h3, h4⟩
            rcases (fl_set re p a (by omega)).1 h2 with rfl | h2
            · exact .inr ⟨h3, h4⟩
            · exact .inl ⟨a, h1, h2, h3, h4⟩
      have hj := jumps_at (rdI ins p)
      have hfo := fun ta' => pfollow_at ins p hp (by omega) (re.set p true) ta'
      have d1 := tt (show V.length + (nxt (rdI ins p) p).length < 17592186044416 by omega)
      by_cases hJ : isJ (rdI ins p)
      · have v := hk.jump hJ
        obtain ⟨t, ht⟩ : ∃ t : Nat, (rdI ins p).f1 = t := ⟨((rdI ins p).f1).toNat, by omega⟩
        obtain ⟨r, h1, h2⟩ := ih (V ++ nxt (rdI ins p) p) (re.set p true) (ta.set t true) (by rw [List.length_append]; omega) (by omega) (base _ (by rw [List.length_set]; exact htl) (fun q hq => by
          rw [fl_set ta t q (by omega)]
          constructor
          · rintro (rfl | h)
            · exact .inr ⟨hJ, ht⟩
            · exact .inl h
          · rintro (h | ⟨_, h⟩)
            · exact .inr h
            · exact .inl (by omega)))
        refine ⟨r, evs ?_, h2⟩
        have d2 := tt (show (0 : Int) ≤ (t : Int) by omega)
        have d3 := tt (show (t : Int) < (ta.length : Int) by omega)
        rw [decide_eq_true hJ] at hj
        simp only [peep_look.l0, e1, e2, c1, c2, c3, c4, c5, c6, c7, if_true, Int.toNat_natCast, e3, Option.bind_some, hf', c3f, if_false]
        rw [show peep_jumps.f (rd_T40 ins (p : Int)).f0 (rd_T40 ins (p : Int)).f1 (rd_T40 ins (p : Int)).f2 = some true from hj]
        rw [show (rd_T40 ins (p : Int)).f1 = (t : Int) from ht]
        simp only [Option.bind_some, if_true, d2, d3, Int.toNat_natCast, hfo, d1]
        exact h1
      · obtain ⟨r, h1, h2⟩ := ih (V ++ nxt (rdI ins p) p) (re.set p true) ta (by rw [List.length_append]; omega) (by omega) (base _ htl (fun q hq => ⟨.inl, fun h => h.resolve_right (fun h => hJ h.1)⟩))
        refine ⟨r, evs ?_, h2⟩
        rw [decide_eq_false hJ] at hj
        simp only [peep_look.l0, e1, e2, c1, c2, c3, c4, c5, c6, c7, if_true, Int.toNat_natCast, e3, Option.bind_some, hf', c3f, if_false]
        rw [show peep_jumps.f (rd_T40 ins (p : Int)).f0 (rd_T40 ins (p : Int)).f1 (rd_T40 ins (p : Int)).f2 = some false from hj]
        simp only [Option.bind_some, c3f, if_false, hfo, d1, if_true]
        exact h1
theorem look_ok (hg : ¬ (net l ins hv).Bad) (hn : ins.length ≤ 65536) (h1 : 1 ≤ ins.length) : ∃ r, Ev (fun k => peep_look.f k ins) r ∧ Seen (net l ins hv) ins r := by
  have hrep : ∀ q : Nat, fl (List.replicate ins.length false) q = false := fun q => by
    simp only [fl, rdOf, Int.toNat_natCast, List.getD_eq_getElem?_getD, List.getElem?_replicate]
    split <;> rfl
  have hd : dark (List.replicate ins.length false) = ins.length := by simp [dark, List.countP_replicate]
  obtain ⟨r, h2, h3⟩ := look_loop hg hn (1 + 2 * ins.length) [0] (List.replicate ins.length false) (List.replicate ins.length false) (by rw [hd]; simp) (by omega)
    ⟨List.length_replicate, List.length_replicate, (fun w hw => by simp at hw; exact ⟨0, hw, 0, .zero⟩), (fun p _ h => by rw [hrep] at h; cases h), .inl (by simp), (fun p _ h => by rw [hrep] at h; cases h), fun q hq => ⟨(fun h => by rw [hrep] at h; cases h), (fun ⟨a, _, h, _⟩ => by rw [hrep] at h; cases h)⟩⟩
  refine ⟨r, ?_, h3⟩
  unfold peep_look.f
  have c1 := tt (show (0 : Int) ≤ (ins.length : Int) by omega)
  have c2 := tt (show ins.length ≤ 281474976710656 by omega)
  simp only [c1, Int.toNat_natCast, c2, if_true]
  exact h2
end
end Go.Proofs.YtmbjogpphegoaaaDoor.Q
end
section
/- The rules of layer 10: what is put may be, and there is less behind: plain Lean. -/
namespace Go.Proofs.YtmbjogpphegoaaaDoor.Q
set_option linter.unusedVariables false
set_option linter.unusedSimpArgs false
open Go.RowKit Go.Proofs.YtmbjogpphegoaaaDoorW.PrintWords Go.Proofs.YtmbjogpphegoaaaDoorW.PrintLast Go.Proofs.YtmbjogpphegoaaaDoorW.PrintMore Go.Proofs.YtmbjogpphegoaaaDoor.P

theorem phi_le {p n m : Nat} (hm : m ≤ 1) (h1 : 1 ≤ n) {L q : Int} : (L - n + m) - phi p n m q ≤ L - q ∨ (L - n + m) - phi p n m q ≤ L - q := by
  unfold phi
  split
  · left; omega
  · split
    · left; omega
    · left; omega
def wt (L : Int) (x : Ins) : Nat := if isJ x then 2 + (L - x.f1).toNat else 1
def wts (L : Int) (ins : List Ins) : Nat := (ins.map (wt L)).sum
def mu (ins : List Ins) : Nat := wts ins.length ins
theorem wts_append (L : Int) (a b : List Ins) : wts L (a ++ b) = wts L a + wts L b := by simp [wts]
theorem isJ_mvI (p n m : Nat) (x : Ins) : isJ (mvI p n m x) ↔ isJ x := by unfold isJ; rw [mvI_f0]
theorem wt_mvI {p n m : Nat} (hm : m ≤ 1) (h1 : 1 ≤ n) (L : Int) (x : Ins) : wt (L - n + m) (mvI p n m x) ≤ wt L x := by
  unfold wt
  by_cases h : isJ x
  · rw [if_pos h, if_pos ((isJ_mvI ..).2 h), mvI_f1j h]
    have := phi_le (p := p) hm h1 (L := L) (q := x.f1)
    omega
  · rw [if_neg h, if_neg (fun e => h ((isJ_mvI ..).1 e))]
    omega
theorem wts_mvI {p n m : Nat} (hm : m ≤ 1) (h1 : 1 ≤ n) (L : Int) (xs : List Ins) : wts (L - n + m) (xs.map (mvI p n m)) ≤ wts L xs := by
  induction xs with
  | nil => simp [wts]
  | cons x xs ih =>
    have := wt_mvI (p := p) hm h1 L x
    simp only [wts, List.map_cons, List.sum_cons] at ih ⊢
    omega
theorem mu_done {ins put : List Ins} {p n : Nat} (hm : put.length ≤ 1) (h1 : 1 ≤ n) (hp : p + n ≤ ins.length)
    (hG : wts ((ins.length : Int) - n + put.length) (put.map (mvI p n put.length)) < wts ins.length ((ins.drop p).take n)) : mu (doneL ins p n put) < mu ins := by
  have e : ins = ins.take p ++ ((ins.drop p).take n ++ ins.drop (p + n)) := by
    rw [show ins.drop (p + n) = (ins.drop p).drop n by rw [List.drop_drop], List.take_append_drop, List.take_append_drop]
  have hl : ((doneL ins p n put).length : Int) = (ins.length : Int) - n + put.length := by rw [done_len hp]; omega
  have s1 : mu ins = wts ins.length (ins.take p) + (wts ins.length ((ins.drop p).take n) + wts ins.length (ins.drop (p + n))) := by
    rw [← wts_append, ← wts_append, ← e]; rfl
  have s2 : mu (doneL ins p n put) = wts ((ins.length : Int) - n + put.length) ((ins.take p).map (mvI p n put.length)) + wts ((ins.length : Int) - n + put.length) (put.map (mvI p n put.length)) + wts ((ins.length : Int) - n + put.length) ((ins.drop (p + n)).map (mvI p n put.length)) := by
    unfold mu
    rw [hl]
    unfold doneL
    rw [List.map_append, List.map_append, wts_append, wts_append]
  have a := wts_mvI (p := p) hm h1 ins.length (ins.take p)
  have b := wts_mvI (p := p) hm h1 ins.length (ins.drop (p + n))
  omega
theorem take_one {ins : List Ins} {p : Nat} (h : p < ins.length) : (ins.drop p).take 1 = [rdI ins p] := by
  rw [List.drop_eq_getElem_cons h, rdI_at _ _ h]; rfl
theorem take_two {ins : List Ins} {p : Nat} (h : p + 2 ≤ ins.length) : (ins.drop p).take 2 = [rdI ins p, rdI ins ((p + 1 : Nat) : Int)] := by
  rw [List.drop_eq_getElem_cons (by omega), List.drop_eq_getElem_cons (by omega), rdI_at _ _ (by omega), rdI_at _ _ (by omega)]; rfl
theorem take_three {ins : List Ins} {p : Nat} (h : p + 3 ≤ ins.length) : (ins.drop p).take 3 = [rdI ins p, rdI ins ((p + 1 : Nat) : Int), rdI ins ((p + 2 : Nat) : Int)] := by
  rw [List.drop_eq_getElem_cons (by omega), List.drop_eq_getElem_cons (by omega), List.drop_eq_getElem_cons (by omega), rdI_at _ _ (by omega), rdI_at _ _ (by omega), rdI_at _ _ (by omega)]; rfl
theorem wt_pos (L : Int) (x : Ins) : 1 ≤ wt L x := by unfold wt; split <;> omega
theorem wt_not {L : Int} {x : Ins} (h : ¬ isJ x) : wt L x = 1 := by unfold wt; rw [if_neg h]
theorem wt_is {L : Int} {x : Ins} (h : isJ x) : wt L x = 2 + (L - x.f1).toNat := by unfold wt; rw [if_pos h]
section
variable {l : List Cod} {ins : List Ins} {hv : ∀ p, p < ins.length → Valid l.length ins.length (rdI ins p)} {p n : Nat} {put : List Ins} {R T : Nat → Prop}
theorem push_not (n : Int) : ¬ isJ (⟨1, n, 0⟩ : Ins) := isJ_not (c := 1) rfl (by decide) (by decide)
/-- There is less. -/
theorem fit_less (hv : ∀ p, p < ins.length → Valid l.length ins.length (rdI ins p)) (hp : p < ins.length) (F : Fit R T ins p n put) : mu (doneL ins p n put) < mu ins := by
  have one (L L' : Int) (x : Ins) (p n m : Nat) : wts L [x] = wt L x := by simp [wts]
  cases F with
  | gone hR => exact mu_done (by simp) (by decide) (by omega) (by rw [take_one hp]; have := wt_pos ins.length (rdI ins p); simp [wts]; omega)
  | next hR h0 h1 => exact mu_done (by simp) (by decide) (by omega) (by rw [take_one hp]; have := wt_pos ins.length (rdI ins p); simp [wts]; omega)
  | zero hR h0 h1 =>
    refine mu_done (by simp) (by decide) (by omega) ?_
    rw [take_one hp]
    simp only [List.map_cons, List.map_nil, wts, List.sum_cons, List.sum_nil]
    rw [wt_is (x := rdI ins p) (.inr h0), wt_not (fun e => isJ_not (x := (⟨25, 0, 0⟩ : Ins)) rfl (by decide) (by decide) ((isJ_mvI ..).1 e))]
    omega
  | far hR hj h0 h1 =>
    refine mu_done (by simp) (by decide) (by omega) ?_
    rw [take_one hp]
    simp only [List.map_cons, List.map_nil, wts, List.sum_cons, List.sum_nil]
    have j2 : isJ (⟨(rdI ins p).f0, (rdI ins (rdI ins p).f1).f1, (rdI ins p).f2⟩ : Ins) := hj
    rw [wt_is hj, wt_is ((isJ_mvI ..).2 j2), mvI_f1j j2]
    have := (hv p hp).jump hj
    have e : phi p 1 1 (rdI ins (rdI ins p).f1).f1 = (rdI ins (rdI ins p).f1).f1 := by
      unfold phi
      split
      · rfl
      · split <;> omega
    simp only [List.length_cons, List.length_nil, Nat.zero_add]
    rw [e]
    omega
  | pair put hR hl hT P =>
    have hlt := take_two hl
    have w1 := wt_pos ins.length (rdI ins p)
    have w2 := wt_pos ins.length (rdI ins ((p + 1 : Nat) : Int))
    cases P with
    | neg m hi hj hw =>
      refine mu_done (by simp) (by decide) (by omega) ?_
      rw [hlt]
      simp only [List.map_cons, List.map_nil, wts, List.sum_cons, List.sum_nil]
      rw [wt_not (fun e => push_not _ ((isJ_mvI ..).1 e))]
      omega
    | idle hi hj =>
      refine mu_done (by simp) (by decide) (by omega) ?_
      rw [hlt]
      simp only [List.map_cons, List.map_nil, wts, List.sum_cons, List.sum_nil]
      omega
    | jump hi hj =>
      refine mu_done (by simp) (by decide) (by omega) ?_
      rw [hlt]
      simp only [List.map_cons, List.map_nil, wts, List.sum_cons, List.sum_nil]
      have a := wt_mvI (p := p) (n := 2) (m := 1) (by decide) (by decide) ins.length (⟨17, (rdI ins ((p + 1 : Nat) : Int)).f1, 0⟩ : Ins)
      have b : wt ins.length (⟨17, (rdI ins ((p + 1 : Nat) : Int)).f1, 0⟩ : Ins) = wt ins.length (rdI ins ((p + 1 : Nat) : Int)) := by rw [wt_is (.inl rfl), wt_is (x := rdI ins ((p + 1 : Nat) : Int)) (.inr hj)]
      simp only [List.length_cons, List.length_nil, Nat.zero_add]
      omega
    | clear hi hj h1 h2 =>
      refine mu_done (by simp) (by decide) (by omega) ?_
      rw [hlt]
      simp only [List.map_cons, List.map_nil, wts, List.sum_cons, List.sum_nil]
      rw [wt_not (fun e => isJ_not (c := 6) (x := (⟨6, (rdI ins p).f1, (rdI ins p).f2 + (rdI ins ((p + 1 : Nat) : Int)).f2⟩ : Ins)) rfl (by decide) (by decide) ((isJ_mvI ..).1 e))]
      omega
  | three m hR hl hT hT2 hi hj hk0 hk1 hw =>
    refine mu_done (by simp) (by decide) (by omega) ?_
    rw [take_three hl]
    have w1 := wt_pos ins.length (rdI ins p)
    have w2 := wt_pos ins.length (rdI ins ((p + 1 : Nat) : Int))
    simp only [List.map_cons, List.map_nil, wts, List.sum_cons, List.sum_nil]
    rw [wt_not (fun e => push_not _ ((isJ_mvI ..).1 e))]
    omega
theorem fit_n (hp : p < ins.length) (F : Fit R T ins p n put) : 1 ≤ n ∧ n ≤ 3 ∧ p + n ≤ ins.length ∧ put.length ≤ 1 ∧ put.length ≤ n := by
  cases F with
  | gone => exact ⟨by decide, by decide, by omega, by simp, by simp⟩
  | next => exact ⟨by decide, by decide, by omega, by simp, by simp⟩
  | zero => exact ⟨by decide, by decide, by omega, by simp, by simp⟩
  | far => exact ⟨by decide, by decide, by omega, by simp, by simp⟩
  | pair put hR hl hT P => cases P <;> exact ⟨by decide, by decide, by omega, by simp, by simp⟩
  | three => exact ⟨by decide, by decide, by omega, by simp, by simp⟩
/-- Where jumps lead stays within. -/
theorem fit_to (hg : ¬ (net l ins hv).Bad) (hp : p < ins.length) (hf : ∀ q, q < p → At (net l ins hv) q) (F : Fit (At (net l ins hv)) (Tgt (net l ins hv) ins) ins p n put) :
    (∀ q : Nat, q < ins.length → (q < p ∨ p + n ≤ q) → isJ (rdI ins q) → 0 ≤ phi p n put.length (rdI ins q).f1 ∧ phi p n put.length (rdI ins q).f1 < (ins.length : Int) - n + put.length) := by
  obtain ⟨n1, n3, hpn, pl, pn⟩ := fit_n hp F
  have K := fit_keeps hg hp F
  intro q hq hqo hj
  have v := (hv q hq).jump hj
  by_cases hm : put.length = 1
  · unfold phi
    split
    · omega
    · split
      · omega
      · omega
  · have hm0 : put = [] := List.length_eq_zero_iff.1 (by omega)
    by_cases hR : At (net l ins hv) p
    · obtain ⟨h, hr⟩ := hR
      have := at_in hg (K.thru hm0 h hr)
      unfold phi
      split
      · omega
      · split
        · omega
        · omega
    · have hn1 : n = 1 := by
        cases F with
        | gone => rfl
        | next hR' => exact absurd hR' hR
        | pair put hR' => exact absurd hR' hR
        | _ => simp at hm0
      subst hn1
      have hne : (rdI ins q).f1 ≠ (p : Int) ∨ p + 1 < ins.length := by
        by_cases h : p + 1 < ins.length
        · exact .inr h
        · left
          intro e
          obtain ⟨h, hr⟩ := hf q (by omega)
          exact hR ⟨_, go hg hr (nxt_jump hj q e)⟩
      unfold phi
      split
      · rcases hne with h | h <;> omega
      · split
        · omega
        · omega
end
section
variable (l : List Cod) (ins : List Ins) (cells : Int) (ans : Bool)
theorem may_len {ins ins' : List Ins} {op f1 f2 : Int} (h : ¬ (op = 17 ∨ op = 18)) (hm : May l ins cells ans op f1 f2) : May l ins' cells ans op f1 f2 := by
  refine ⟨hm.1, ?_⟩
  have := hm.2
  unfold MayRest at this ⊢
  rw [if_neg h] at this ⊢
  exact this
theorem may_jump {ins ins' : List Ins} {op f1 f2 g1 : Int} (h : op = 17 ∨ op = 18) (hm : May l ins cells ans op f1 f2) (h0 : 0 ≤ g1) (h1 : g1 < (ins'.length : Int)) : May l ins' cells ans op g1 f2 := by
  refine ⟨⟨hm.1.1, fun hn => ?_, hm.1.2.2⟩, ?_⟩
  · exfalso
    rcases h with rfl | rfl
    · exact absurd hn (by decide)
    · exact absurd hn (by decide)
  · unfold MayRest
    rw [if_neg (by omega), if_neg (by omega), if_pos h]
    exact decide_eq_true ⟨h0, h1⟩
theorem may_push (n : Int) : May l ins cells ans 1 n 0 := by
  refine ⟨⟨by decide, fun h => absurd h (by decide), fun _ => rfl⟩, ?_⟩
  unfold MayRest
  rw [if_neg (by decide), if_neg (by decide), if_neg (by decide), if_neg (by decide), if_neg (by decide), if_neg (by decide)]
theorem may_drop : May l ins cells ans 25 0 0 := by
  refine ⟨⟨by decide, fun h => rfl, fun _ => rfl⟩, ?_⟩
  unfold MayRest
  rw [if_neg (by decide), if_neg (by decide), if_neg (by decide), if_neg (by decide), if_neg (by decide), if_neg (by decide)]
theorem may_goto {f1 : Int} (h0 : 0 ≤ f1) (h1 : f1 < (ins.length : Int)) : May l ins cells ans 17 f1 0 := by
  refine ⟨⟨by decide, fun h => absurd h (by decide), fun _ => rfl⟩, ?_⟩
  unfold MayRest
  rw [if_neg (by decide), if_neg (by decide), if_pos (by decide)]
  exact decide_eq_true ⟨h0, h1⟩
theorem may_cells {f1 f2 : Int} (hm : May l ins cells ans 6 f1 f2) : f2 ≤ 64 ∧ Within cells f1 f2 := by
  have := hm.2
  unfold MayRest at this
  rw [if_neg (by decide), if_pos (by decide)] at this
  exact of_decide_eq_true this
theorem may_clear {f1 f2 : Int} (h : f2 ≤ 64 ∧ Within cells f1 f2) : May l ins cells ans 6 f1 f2 := by
  refine ⟨⟨by decide, fun h => absurd h (by decide), fun h => absurd h (by decide)⟩, ?_⟩
  unfold MayRest
  rw [if_neg (by decide), if_pos (by decide)]
  exact decide_eq_true h
end
theorem rdI_mem {ins : List Ins} {p : Nat} (h : p < ins.length) : rdI ins p ∈ ins := by rw [rdI_at _ _ h]; exact List.getElem_mem h
theorem mem_rdI {ins : List Ins} {y : Ins} (h : y ∈ ins) : ∃ p : Nat, p < ins.length ∧ y = rdI ins p := by
  obtain ⟨p, hp, rfl⟩ := List.getElem_of_mem h
  exact ⟨p, hp, (rdI_at _ _ hp).symm⟩
section
variable {l : List Cod} {x : Cod} {p n : Nat} {put : List Ins}
/-- What comes of a code whose shape is right, at the first place at which something fits, is one. -/
theorem fit_shape (h : Shape l x) (hfi : FitI x.f0) (hg : ¬ (net l x.f0 (shape_valid h)).Bad) (hp : p < x.f0.length) (hf : ∀ q, q < p → At (net l x.f0 (shape_valid h)) q) (F : Fit (At (net l x.f0 (shape_valid h))) (Tgt (net l x.f0 (shape_valid h)) x.f0) x.f0 p n put) :
    Shape l { x with f0 := doneL x.f0 p n put } ∧ FitI (doneL x.f0 p n put) ∧ (doneL x.f0 p n put).length ≤ x.f0.length := by
  obtain ⟨n1, n3, hpn, pl, pn⟩ := fit_n hp F
  have K := fit_keeps hg hp F
  have tto := fit_to hg hp hf F
  have hl := done_len (put := put) hpn
  have hs := h.1
  have h1 : 1 ≤ (doneL x.f0 p n put).length := by
    rw [hl]
    by_cases hR : At (net l x.f0 (shape_valid h)) p
    · by_cases e : put = []
      · obtain ⟨g, hr⟩ := hR
        have := at_in hg (K.thru e g hr)
        omega
      · have := List.length_pos_iff.2 e
        omega
    · have : p ≠ 0 := by rintro rfl; exact hR ⟨0, .zero⟩
      omega
  have key : ∀ y ∈ doneL x.f0 p n put, May l (doneL x.f0 p n put) x.f1 x.f3 y.f0 y.f1 y.f2 ∧ ((Lit.int .i64 y.f0).wf = true ∧ ((Lit.int .i64 y.f1).wf = true ∧ (Lit.int .i64 y.f2).wf = true)) := by
    intro y hy
    have wfn : ∀ a : Int, 0 ≤ a → a ≤ 70000 → (Lit.int .i64 a).wf = true := fun a h0 h1 => by simp [Lit.wf, IntKind.min, IntKind.max, IntKind.bits, IntKind.signed]; omega
    have hlen : x.f0.length ≤ 65536 := hs.2.1
    have old : ∀ q : Nat, q < x.f0.length → (q < p ∨ p + n ≤ q) → y = mvI p n put.length (rdI x.f0 q) → May l (doneL x.f0 p n put) x.f1 x.f3 y.f0 y.f1 y.f2 ∧ ((Lit.int .i64 y.f0).wf = true ∧ ((Lit.int .i64 y.f1).wf = true ∧ (Lit.int .i64 y.f2).wf = true)) := by
      intro q hq hqo e
      have hm := h.2 _ (rdI_mem hq)
      have hw := hfi _ (rdI_mem hq)
      by_cases hj : isJ (rdI x.f0 q)
      · obtain ⟨t0, t1⟩ := tto q hq hqo hj
        rw [e, mvI_f0, mvI_f2, mvI_f1j hj]
        exact ⟨may_jump l _ _ hj hm t0 (by rw [hl]; omega), hw.1, wfn _ t0 (by omega), hw.2.2⟩
      · have e2 : mvI p n put.length (rdI x.f0 q) = rdI x.f0 q := by unfold mvI; rw [if_neg hj]
        rw [e, e2]
        exact ⟨may_len l _ _ hj hm, hw⟩
    unfold doneL at hy
    rw [List.mem_map] at hy
    obtain ⟨z, hz, rfl⟩ := hy
    rw [List.mem_append, List.mem_append] at hz
    rcases hz with (hz | hz) | hz
    · obtain ⟨q, hq, rfl⟩ := List.getElem_of_mem hz
      rw [List.length_take] at hq
      refine old q (by omega) (.inl (by omega)) ?_
      rw [List.getElem_take, rdI_at _ _ (by omega)]
    · -- what is put
      cases F with
      | gone => cases hz
      | next => cases hz
      | zero hR h0 h1 =>
        simp only [List.mem_singleton] at hz
        subst hz
        rw [show mvI p 1 [(⟨25, 0, 0⟩ : Ins)].length (⟨25, 0, 0⟩ : Ins) = ⟨25, 0, 0⟩ from rfl]
        exact ⟨may_drop l _ _ _, wfn 25 (by decide) (by decide), wfn 0 (by decide) (by decide), wfn 0 (by decide) (by decide)⟩
      | far hR hj h0 hf1 =>
        simp only [List.mem_singleton] at hz
        subst hz
        have v := (shape_valid h p hp).jump hj
        obtain ⟨q1, hq1⟩ : ∃ q1 : Nat, (rdI x.f0 p).f1 = q1 := ⟨((rdI x.f0 p).f1).toNat, by omega⟩
        rw [hq1] at h0 hf1 hl ⊢
        have v2 := (shape_valid h q1 (by omega)).jump (.inl h0)
        have hw := hfi _ (rdI_mem hp)
        have e : phi p 1 1 (rdI x.f0 q1).f1 = (rdI x.f0 q1).f1 := by
          unfold phi
          split
          · rfl
          · split <;> omega
        rw [mvI_f0, mvI_f2, mvI_f1j (by exact hj)]
        simp only [List.length_cons, List.length_nil, Nat.zero_add] at hl ⊢
        rw [e]
        exact ⟨may_jump l _ _ hj (h.2 _ (rdI_mem hp)) v2.1 (by rw [hl]; omega), hw.1, wfn _ v2.1 (by omega), hw.2.2⟩
      | pair put hR hl2 hT P =>
        cases P with
        | neg m hi hj hw =>
          simp only [List.mem_singleton] at hz
          subst hz
          rw [mvI_f0, mvI_f2, mvI_f1 (push_not _)]
          exact ⟨may_push l _ _ _ m, wfn 1 (by decide) (by decide), hw, wfn 0 (by decide) (by decide)⟩
        | idle => cases hz
        | jump hi hj =>
          simp only [List.mem_singleton] at hz
          subst hz
          have v := (shape_valid h (p + 1) (by omega)).jump (.inr hj)
          rw [mvI_f0, mvI_f2, mvI_f1j (.inl rfl)]
          simp only [List.length_cons, List.length_nil, Nat.zero_add] at hl ⊢
          have t : 0 ≤ phi p 2 1 (rdI x.f0 ((p + 1 : Nat) : Int)).f1 ∧ phi p 2 1 (rdI x.f0 ((p + 1 : Nat) : Int)).f1 < ((x.f0.length - 2 + 1 : Nat) : Int) := by
            unfold phi
            split
            · omega
            · split <;> omega
          exact ⟨may_goto l _ _ _ t.1 (by rw [hl]; exact t.2), wfn 17 (by decide) (by decide), wfn _ t.1 (by omega), wfn 0 (by decide) (by decide)⟩
        | clear hi hj h1 h2 =>
          simp only [List.mem_singleton] at hz
          subst hz
          have m1 := h.2 _ (rdI_mem hp)
          have m2 := h.2 _ (rdI_mem (show p + 1 < x.f0.length by omega))
          rw [hi] at m1
          rw [hj] at m2
          have c1 := may_cells l _ _ _ m1
          have c2 := may_cells l _ _ _ m2
          unfold Within at c1 c2
          have b1 := hs.2.2.2.1
          rw [mvI_f0, mvI_f2, mvI_f1 (isJ_not (c := 6) (x := (⟨6, (rdI x.f0 p).f1, (rdI x.f0 p).f2 + (rdI x.f0 ((p + 1 : Nat) : Int)).f2⟩ : Ins)) rfl (by decide) (by decide))]
          simp only []
          exact ⟨may_clear l _ _ _ ⟨h2, by unfold Within; omega⟩, wfn 6 (by decide) (by decide), wfn _ (by omega) (by omega), wfn _ (by omega) (by omega)⟩
      | three m hR hl2 hT hT2 hi hj hk0 hk1 hw =>
        simp only [List.mem_singleton] at hz
        subst hz
        rw [mvI_f0, mvI_f2, mvI_f1 (push_not _)]
        exact ⟨may_push l _ _ _ m, wfn 1 (by decide) (by decide), hw, wfn 0 (by decide) (by decide)⟩
    · obtain ⟨q, hq, rfl⟩ := List.getElem_of_mem hz
      rw [List.length_drop] at hq
      refine old (p + n + q) (by omega) (.inr (by omega)) ?_
      rw [List.getElem_drop, rdI_at _ _ (by omega)]
  refine ⟨⟨⟨h1, by rw [hl]; have := hs.2.1; omega, hs.2.2⟩, fun y hy => (key y hy).1⟩, fun y hy => (key y hy).2, by rw [hl]; omega⟩
end
end Go.Proofs.YtmbjogpphegoaaaDoor.Q
end
section
/- Which change fits at a place: what the program finds is one of the rules; plain Lean. -/
namespace Go.Proofs.YtmbjogpphegoaaaDoor.Q
set_option linter.unusedVariables false
set_option linter.unusedSimpArgs false
open Go.RowKit Go.Proofs.YtmbjogpphegoaaaDoorW.PrintWords Go.Proofs.YtmbjogpphegoaaaDoorW.PrintLast Go.Proofs.YtmbjogpphegoaaaDoorW.PrintMore Go.Proofs.YtmbjogpphegoaaaDoor.P

abbrev Chg := Int × Int × List Ins
def None_ : Chg := (0, 0, [])
theorem cff : (false = true) = False := ff (by decide)
theorem evc {α : Type} {g : Option α} {r : α} (h : g = some r) : Ev (fun _ => g) r := h ▸ Ev.now r
theorem wf_range {n : Int} (h0 : -9223372036854775808 ≤ n) (h1 : n ≤ 9223372036854775807) : Wf n := by
  simp [Wf, Lit.wf, IntKind.min, IntKind.max, IntKind.bits, IntKind.signed]; omega
theorem wf_wrap (n : Int) : Wf (wrap64 n) := by
  have := w64_range n
  exact wf_range this.1 this.2
theorem wf_small {n : Int} (h0 : 0 ≤ n) (h1 : n ≤ 100000) : Wf n := wf_range (by omega) (by omega)
section
variable {N : Net} {ins : List Ins} {re ta : List Bool} {p : Nat}
theorem single_j1 (S : Seen N ins (re, ta)) (hp : p < ins.length) (hat : At N p) (hv : ∀ p, p < ins.length → isJ (rdI ins p) → 0 ≤ (rdI ins p).f1 ∧ (rdI ins p).f1 < (ins.length : Int)) :
    ∃ c, Ev (fun k => peep_sight_single.j1 k false ins re ta (rdI ins p).f0 (rdI ins p).f1 (rdI ins p).f2) c ∧ ((c = None_ ∧ At N p) ∨ (0 < c.1 ∧ ∃ n : Nat, c.2.1 = n ∧ Fit (At N) (Tgt N ins) ins p n c.2.2)) := by
  have hj := jumps_at (rdI ins p)
  by_cases h : isJ (rdI ins p)
  · rw [decide_eq_true h] at hj
    obtain ⟨v0, v1⟩ := hv p hp h
    by_cases g1 : (rdI ins (rdI ins p).f1).f0 = 17
    · by_cases g2 : (rdI ins (rdI ins p).f1).f1 > (rdI ins p).f1
      · refine ⟨(4, 1, [⟨(rdI ins p).f0, (rdI ins (rdI ins p).f1).f1, (rdI ins p).f2⟩]), evs ?_, .inr ⟨by simp only []; decide, 1, rfl, .far hat h g1 g2⟩⟩
        simp only [peep_sight_single.j1, cff, if_false, hj, Option.bind_some, if_true, tt v0, tt v1, tt g1, tt g2]
        exact Ev.now _
      · refine ⟨None_, evs ?_, .inl ⟨rfl, hat⟩⟩
        simp only [peep_sight_single.j1, cff, if_false, hj, Option.bind_some, if_true, tt v0, tt v1, tt g1, ff g2]
        exact Ev.now _
    · refine ⟨None_, evs ?_, .inl ⟨rfl, hat⟩⟩
      simp only [peep_sight_single.j1, cff, if_false, hj, Option.bind_some, if_true, tt v0, tt v1, ff g1]
      exact Ev.now _
  · rw [decide_eq_false h] at hj
    refine ⟨None_, evs ?_, .inl ⟨rfl, hat⟩⟩
    simp only [peep_sight_single.j1, cff, if_false, hj, Option.bind_some]
    exact Ev.now _
theorem single_ok (S : Seen N ins (re, ta)) (hp : p < ins.length) (hn : ins.length ≤ 65536) (hv : ∀ p, p < ins.length → isJ (rdI ins p) → 0 ≤ (rdI ins p).f1 ∧ (rdI ins p).f1 < (ins.length : Int)) :
    ∃ c, Ev (fun k => peep_sight_single.f k ins p re ta) c ∧ ((c = None_ ∧ At N p) ∨ (0 < c.1 ∧ ∃ n : Nat, c.2.1 = n ∧ Fit (At N) (Tgt N ins) ins p n c.2.2)) := by
  have hrl : re.length = ins.length := S.rl
  have c1 := tt (show (0 : Int) ≤ (p : Int) by omega)
  have c2 := tt (show (p : Int) < (ins.length : Int) by omega)
  have c3 := tt (show (p : Int) < (re.length : Int) by omega)
  have ew : wrap64 ((p : Int) + 1) = (p : Int) + 1 := w64 (by omega) (by omega)
  unfold peep_sight_single.f
  simp only [c1, c2, c3, if_true, ew]
  cases hr : rdOf false re (p : Int) with
  | false =>
    refine ⟨(1, 1, []), ?_, .inr ⟨by decide, 1, rfl, .gone (fun h => ?_)⟩⟩
    · simp only [cff, if_false]; exact Ev.now _
    · have := (S.re p hp).2 h
      rw [show fl (re, ta).1 (p : Int) = rdOf false re (p : Int) from rfl, hr] at this
      cases this
  | true =>
    have hat : At N p := (S.re p hp).1 hr
    obtain ⟨c, hc, hc2⟩ := single_j1 S hp hat hv
    simp only [if_true]
    by_cases h17 : (rdI ins p).f0 = 17
    · simp only [tt h17, if_true]
      by_cases hn1 : (rdI ins p).f1 = (p : Int) + 1
      · refine ⟨(2, 1, []), evs ?_, .inr ⟨by decide, 1, rfl, .next hat h17 hn1⟩⟩
        rw [show ((rd_T40 ins (p : Int)).f1 == (p : Int) + 1) = true from beq_iff_eq.mpr hn1]
        simp only [peep_sight_single.j0, if_true]
        exact Ev.now _
      · refine ⟨c, evs ?_, hc2⟩
        rw [show ((rd_T40 ins (p : Int)).f1 == (p : Int) + 1) = false from beq_eq_false_iff_ne.mpr hn1]
        simp only [peep_sight_single.j0, cff, if_false, ff (show ¬ (rd_T40 ins (p : Int)).f0 = 18 from fun e => by rw [show (rd_T40 ins (p : Int)).f0 = 17 from h17] at e; cases e)]
        exact hc
    · simp only [ff h17, if_false]
      by_cases h18 : (rdI ins p).f0 = 18
      · by_cases hn1 : (rdI ins p).f1 = (p : Int) + 1
        · refine ⟨(3, 1, [⟨25, 0, 0⟩]), evs ?_, .inr ⟨by decide, 1, rfl, .zero hat h18 hn1⟩⟩
          simp only [peep_sight_single.j0, cff, if_false, tt h18, if_true, ew]
          rw [show ((rd_T40 ins (p : Int)).f1 == (p : Int) + 1) = true from beq_iff_eq.mpr hn1]
          refine evs ?_
          simp only [peep_sight_single.j1, if_true]
          exact Ev.now _
        · refine ⟨c, evs ?_, hc2⟩
          simp only [peep_sight_single.j0, cff, if_false, tt h18, if_true, ew]
          rw [show ((rd_T40 ins (p : Int)).f1 == (p : Int) + 1) = false from beq_eq_false_iff_ne.mpr hn1]
          exact hc
      · refine ⟨c, evs ?_, hc2⟩
        simp only [peep_sight_single.j0, cff, if_false, ff h18]
        exact hc
theorem part_two (S : Seen N ins (re, ta)) (hp : p < ins.length) (hn : ins.length ≤ 65536) :
    (p + 2 ≤ ins.length ∧ ¬ Tgt N ins (p + 1) ∧ Ev (fun k => peep_sight_part.f k ins p 2 re ta) [rdI ins p, rdI ins ((p + 1 : Nat) : Int)]) ∨ Ev (fun k => peep_sight_part.f k ins p 2 re ta) [] := by
  have htl : ta.length = ins.length := S.tl
  have e0 : wrap64 ((ins.length : Int) - p) = (ins.length : Int) - p := w64 (by omega) (by omega)
  have e1 : wrap64 ((p : Int) + 1) = ((p + 1 : Nat) : Int) := by rw [w64 (by omega) (by omega)]; rfl
  have e2 : wrap64 ((p : Int) + 2) = ((p + 2 : Nat) : Int) := by rw [w64 (by omega) (by omega)]; rfl
  have e3 : wrap64 (1 + 1) = 2 := w64 (by decide) (by decide)
  unfold peep_sight_part.f
  rw [e0]
  by_cases h : p + 2 ≤ ins.length
  · have c1 := ff (show ¬ (2 : Int) > (ins.length : Int) - p by omega)
    have c2 := tt (show (0 : Int) ≤ ((p + 1 : Nat) : Int) by omega)
    have c3 := tt (show ((p + 1 : Nat) : Int) < (ta.length : Int) by omega)
    have c4 := tt (show (1 : Int) < 2 by decide)
    simp only [c1, if_false]
    cases ht : rdOf false ta ((p + 1 : Nat) : Int) with
    | true =>
      right
      refine evs ?_
      simp only [peep_sight_part.l0, c4, if_true, e1, c2, c3, ht]
      exact Ev.now _
    | false =>
      left
      refine ⟨h, fun hT => ?_, evs ?_⟩
      · have := (S.ta (p + 1) (by omega)).2 hT
        rw [show fl (re, ta).2 ((p + 1 : Nat) : Int) = rdOf false ta ((p + 1 : Nat) : Int) from rfl, ht] at this
        cases this
      · simp only [peep_sight_part.l0, c4, if_true, e1, c2, c3, ht, cff, if_false, e3]
        refine evs ?_
        have d1 := ff (show ¬ (2 : Int) < 2 by decide)
        have d2 := tt (show (0 : Int) ≤ (p : Int) by omega)
        have d3 := tt (show (p : Int) ≤ ((p + 2 : Nat) : Int) by omega)
        have d4 := tt (show ((p + 2 : Nat) : Int) ≤ (ins.length : Int) by omega)
        simp only [peep_sight_part.l0, d1, if_false, e2, d2, d3, d4, if_true, Int.toNat_natCast]
        have := take_two h
        rw [show (ins.take (p + 2)).drop p = [rdI ins p, rdI ins ((p + 1 : Nat) : Int)] by rw [List.drop_take, ← this]; congr 1; omega]
        exact Ev.now _
  · right
    have c1 := tt (show (2 : Int) > (ins.length : Int) - p by omega)
    simp only [c1, if_true]
    exact Ev.now _
theorem part_three (S : Seen N ins (re, ta)) (hp : p < ins.length) (hn : ins.length ≤ 65536) :
    (p + 3 ≤ ins.length ∧ ¬ Tgt N ins (p + 1) ∧ ¬ Tgt N ins (p + 2) ∧ Ev (fun k => peep_sight_part.f k ins p 3 re ta) [rdI ins p, rdI ins ((p + 1 : Nat) : Int), rdI ins ((p + 2 : Nat) : Int)]) ∨ Ev (fun k => peep_sight_part.f k ins p 3 re ta) [] := by
  have htl : ta.length = ins.length := S.tl
  have e0 : wrap64 ((ins.length : Int) - p) = (ins.length : Int) - p := w64 (by omega) (by omega)
  have e1 : wrap64 ((p : Int) + 1) = ((p + 1 : Nat) : Int) := by rw [w64 (by omega) (by omega)]; rfl
  have e2 : wrap64 ((p : Int) + 2) = ((p + 2 : Nat) : Int) := by rw [w64 (by omega) (by omega)]; rfl
  have e2' : wrap64 ((p : Int) + 3) = ((p + 3 : Nat) : Int) := by rw [w64 (by omega) (by omega)]; rfl
  have e3 : wrap64 (1 + 1) = 2 := w64 (by decide) (by decide)
  have e4 : wrap64 (2 + 1) = 3 := w64 (by decide) (by decide)
  unfold peep_sight_part.f
  rw [e0]
  by_cases h : p + 3 ≤ ins.length
  · have c1 := ff (show ¬ (3 : Int) > (ins.length : Int) - p by omega)
    have c2 := tt (show (0 : Int) ≤ ((p + 1 : Nat) : Int) by omega)
    have c3 := tt (show ((p + 1 : Nat) : Int) < (ta.length : Int) by omega)
    have c4 := tt (show (1 : Int) < 3 by decide)
    have c5 := tt (show (0 : Int) ≤ ((p + 2 : Nat) : Int) by omega)
    have c6 := tt (show ((p + 2 : Nat) : Int) < (ta.length : Int) by omega)
    have c7 := tt (show (2 : Int) < 3 by decide)
    simp only [c1, if_false]
    cases ht : rdOf false ta ((p + 1 : Nat) : Int) with
    | true =>
      right
      refine evs ?_
      simp only [peep_sight_part.l0, c4, if_true, e1, c2, c3, ht]
      exact Ev.now _
    | false =>
      cases ht2 : rdOf false ta ((p + 2 : Nat) : Int) with
      | true =>
        right
        refine evs ?_
        simp only [peep_sight_part.l0, c4, if_true, e1, c2, c3, ht, cff, if_false, e3]
        refine evs ?_
        simp only [peep_sight_part.l0, c7, if_true, e2, c5, c6, ht2]
        exact Ev.now _
      | false =>
        left
        refine ⟨h, fun hT => ?_, fun hT => ?_, evs ?_⟩
        · have := (S.ta (p + 1) (by omega)).2 hT
          rw [show fl (re, ta).2 ((p + 1 : Nat) : Int) = rdOf false ta ((p + 1 : Nat) : Int) from rfl, ht] at this
          cases this
        · have := (S.ta (p + 2) (by omega)).2 hT
          rw [show fl (re, ta).2 ((p + 2 : Nat) : Int) = rdOf false ta ((p + 2 : Nat) : Int) from rfl, ht2] at this
          cases this
        · simp only [peep_sight_part.l0, c4, if_true, e1, c2, c3, ht, cff, if_false, e3]
          refine evs ?_
          simp only [peep_sight_part.l0, c7, if_true, e2, c5, c6, ht2, cff, if_false, e4]
          refine evs ?_
          have d1 := ff (show ¬ (3 : Int) < 3 by decide)
          have d2 := tt (show (0 : Int) ≤ (p : Int) by omega)
          have d3 := tt (show (p : Int) ≤ ((p + 3 : Nat) : Int) by omega)
          have d4 := tt (show ((p + 3 : Nat) : Int) ≤ (ins.length : Int) by omega)
          simp only [peep_sight_part.l0, d1, if_false, e2', d2, d3, d4, if_true, Int.toNat_natCast]
          have := take_three h
          rw [show (ins.take (p + 3)).drop p = [rdI ins p, rdI ins ((p + 1 : Nat) : Int), rdI ins ((p + 2 : Nat) : Int)] by rw [List.drop_take, ← this]; congr 1; omega]
          exact Ev.now _
  · right
    have c1 := tt (show (3 : Int) > (ins.length : Int) - p by omega)
    simp only [c1, if_true]
    exact Ev.now _
end
section
variable (i j : Ins)
theorem unary_ok : ∃ c, Ev (fun k => peep_unary.f k i.f0 i.f1 i.f2 j.f0 j.f1 j.f2) c ∧ (c = None_ ∨ (c.1 = 5 ∧ c.2.1 = 2 ∧ Pair i j c.2.2)) := by
  unfold peep_unary.f
  by_cases h1 : i.f0 = 1
  · by_cases h2 : j.f0 = 16
    · refine ⟨(5, 2, [⟨1, wrap64 (-i.f1), 0⟩]), ?_, .inr ⟨rfl, rfl, .neg _ h1 (.inr h2) (wf_wrap _)⟩⟩
      simp only [tt h1, tt h2, if_true, num_Neg.f, Option.bind_some]
      exact Ev.now _
    · by_cases h3 : j.f0 = 15
      · by_cases h4 : i.f1 = 0
        · refine ⟨(5, 2, [⟨1, 1, 0⟩]), ?_, .inr ⟨rfl, rfl, .neg _ h1 (.inl h3) (wf_small (by decide) (by decide))⟩⟩
          simp only [tt h1, ff h2, tt h3, if_true, if_false]
          rw [show (i.f1 == 0) = true from beq_iff_eq.mpr h4]
          refine evs ?_
          simp only [peep_unary.j0, if_true]
          exact Ev.now _
        · refine ⟨(5, 2, [⟨1, 0, 0⟩]), ?_, .inr ⟨rfl, rfl, .neg _ h1 (.inl h3) (wf_small (by decide) (by decide))⟩⟩
          simp only [tt h1, ff h2, tt h3, if_true, if_false]
          rw [show (i.f1 == 0) = false from beq_eq_false_iff_ne.mpr h4]
          refine evs ?_
          simp only [peep_unary.j0, cff, if_false, tt h3, if_true]
          exact Ev.now _
      · refine ⟨None_, ?_, .inl rfl⟩
        simp only [tt h1, ff h2, ff h3, if_true, if_false]
        refine evs ?_
        simp only [peep_unary.j0, cff, if_false, ff h3]
        exact Ev.now _
  · refine ⟨None_, ?_, .inl rfl⟩
    simp only [ff h1, if_false]
    exact Ev.now _
theorem tmod_wf {a b : Int} (h : Wf a) (hb : Wf b) : Wf (Int.tmod a b) := by
  have h' := wf64 h
  have h1 : (Int.tmod a b).natAbs ≤ a.natAbs := by rw [Int.natAbs_tmod]; exact Nat.mod_le _ _
  have h2 : a = -9223372036854775808 ∨ -9223372036854775807 ≤ a := by omega
  rcases h2 with rfl | h2
  · by_cases e : 0 ≤ b
    · exact wf_range (by omega) (by
        have : Int.tmod (-9223372036854775808) b ≤ 0 := by
          rw [show (-9223372036854775808 : Int) = -(9223372036854775808 : Int) from rfl, Int.neg_tmod]
          have := Int.tmod_nonneg b (show (0 : Int) ≤ 9223372036854775808 by decide)
          omega
        omega)
    · exact wf_range (by omega) (by
        have : Int.tmod (-9223372036854775808) b ≤ 0 := by
          rw [show (-9223372036854775808 : Int) = -(9223372036854775808 : Int) from rfl, Int.neg_tmod]
          have := Int.tmod_nonneg b (show (0 : Int) ≤ 9223372036854775808 by decide)
          omega
        omega)
  · exact wf_range (by omega) (by omega)
theorem two_ok (op : Int) {a b : Int} (ha : Wf a) (hb : Wf b) : ∃ r, peep_two.f op a b = some r ∧ (r.2 = true → 7 ≤ op ∧ op ≤ 14 ∧ Wf r.1) := by
  have one : ∀ x : Bool, peep_two_1.f x = some (if x = true then 1 else 0, true) := fun x => by cases x <;> rfl
  have w1 : ∀ x : Bool, Wf (if x = true then 1 else 0) := fun x => by cases x <;> exact wf_small (by decide) (by decide)
  unfold peep_two.f
  by_cases h : op = 7
  · exact ⟨_, by rw [if_pos h]; rfl, fun _ => ⟨by omega, by omega, wf_wrap _⟩⟩
  rw [if_neg h]
  by_cases h : op = 8
  · exact ⟨_, by rw [if_pos h]; rfl, fun _ => ⟨by omega, by omega, wf_wrap _⟩⟩
  rw [if_neg h]
  by_cases h : op = 9
  · exact ⟨_, by rw [if_pos h]; rfl, fun _ => ⟨by omega, by omega, wf_wrap _⟩⟩
  rw [if_neg h]
  by_cases h : op = 10
  · rw [if_pos h]
    unfold num_Div.f
    by_cases e : b = 0
    · exact ⟨(0, false), by rw [if_pos e]; rfl, fun h => by cases h⟩
    · exact ⟨_, by rw [if_neg e]; rfl, fun _ => ⟨by omega, by omega, wf_wrap _⟩⟩
  rw [if_neg h]
  by_cases h : op = 11
  · rw [if_pos h]
    unfold num_Mod.f
    by_cases e : b = 0
    · exact ⟨(0, false), by rw [if_pos e]; rfl, fun h => by cases h⟩
    · exact ⟨_, by rw [if_neg e]; rfl, fun _ => ⟨by omega, by omega, tmod_wf ha hb⟩⟩
  rw [if_neg h]
  by_cases h : op = 12
  · exact ⟨_, by rw [if_pos h, one]; rfl, fun _ => ⟨by omega, by omega, w1 _⟩⟩
  rw [if_neg h]
  by_cases h : op = 13
  · exact ⟨_, by rw [if_pos h, one]; rfl, fun _ => ⟨by omega, by omega, w1 _⟩⟩
  rw [if_neg h]
  by_cases h : op = 14
  · exact ⟨_, by rw [if_pos h, one]; rfl, fun _ => ⟨by omega, by omega, w1 _⟩⟩
  rw [if_neg h]
  exact ⟨(0, false), rfl, fun h => by cases h⟩
theorem idle_ok : ∃ r, Ev (fun k => peep_idle.f k i.f0 i.f1 i.f2 j.f0 j.f1 j.f2) r ∧ (r = 0 ∨ (0 < r ∧ Pair i j [])) := by
  have r2 : ∃ r, Ev (fun k => peep_idle.j2 k false i.f0 i.f1 i.f2 j.f0 j.f1 j.f2) r ∧ (r = 0 ∨ (0 < r ∧ Pair i j [])) := by
    by_cases h1 : i.f0 = 2
    · by_cases h2 : j.f0 = 3
      · by_cases h3 : i.f1 = j.f1
        · refine ⟨9, evs ?_, .inr ⟨by decide, .idle (.inr h1) (.inr (.inr (.inl h2)))⟩⟩
          simp only [peep_idle.j2, cff, if_false, tt h1, tt h2, tt h3, if_true]
          exact Ev.now _
        · refine ⟨0, evs ?_, .inl rfl⟩
          simp only [peep_idle.j2, cff, if_false, tt h1, tt h2, ff h3, if_true]
          exact Ev.now _
      · refine ⟨0, evs ?_, .inl rfl⟩
        simp only [peep_idle.j2, cff, if_false, tt h1, ff h2, if_true]
        exact Ev.now _
    · refine ⟨0, evs ?_, .inl rfl⟩
      simp only [peep_idle.j2, cff, if_false, ff h1]
      exact Ev.now _
  have t2 : (i.f0 = 1 ∧ (j.f0 = 9 ∨ j.f0 = 10)) → ∃ r, Ev (fun k => peep_idle.j2 k true i.f0 i.f1 i.f2 j.f0 j.f1 j.f2) r ∧ (r = 0 ∨ (0 < r ∧ Pair i j [])) := fun ⟨h1, h2⟩ =>
    ⟨8, evs (by simp only [peep_idle.j2, if_true]; exact Ev.now _), .inr ⟨by decide, .idle (.inl h1) (.inr (.inl (by omega)))⟩⟩
  have r1 : ∃ r, Ev (fun k => peep_idle.j1 k false i.f0 i.f1 i.f2 j.f0 j.f1 j.f2) r ∧ (r = 0 ∨ (0 < r ∧ Pair i j [])) := by
    by_cases h1 : i.f0 = 1
    · by_cases h2 : i.f1 = 1
      · by_cases h3 : j.f0 = 9
        · obtain ⟨r, hr, hr2⟩ := t2 ⟨h1, .inl h3⟩
          refine ⟨r, evs ?_, hr2⟩
          simp only [peep_idle.j1, cff, if_false, tt h1, tt h2, tt h3, if_true]
          simpa only [h1, h2, h3] using hr
        · by_cases h4 : j.f0 = 10
          · obtain ⟨r, hr, hr2⟩ := t2 ⟨h1, .inr h4⟩
            refine ⟨r, evs ?_, hr2⟩
            simp only [peep_idle.j1, cff, if_false, tt h1, tt h2, ff h3, if_true]
            rw [show (j.f0 == 10) = true from beq_iff_eq.mpr h4]
            simpa only [h1, h2] using hr
          · obtain ⟨r, hr, hr2⟩ := r2
            refine ⟨r, evs ?_, hr2⟩
            simp only [peep_idle.j1, cff, if_false, tt h1, tt h2, ff h3, if_true]
            rw [show (j.f0 == 10) = false from beq_eq_false_iff_ne.mpr h4]
            simpa only [h1, h2] using hr
      · obtain ⟨r, hr, hr2⟩ := r2
        refine ⟨r, evs ?_, hr2⟩
        simp only [peep_idle.j1, cff, if_false, tt h1, ff h2, if_true]
        simpa only [h1] using hr
    · obtain ⟨r, hr, hr2⟩ := r2
      refine ⟨r, evs ?_, hr2⟩
      simp only [peep_idle.j1, cff, if_false, ff h1]
      exact hr
  have t1 : (i.f0 = 1 ∧ (j.f0 = 7 ∨ j.f0 = 8)) → ∃ r, Ev (fun k => peep_idle.j1 k true i.f0 i.f1 i.f2 j.f0 j.f1 j.f2) r ∧ (r = 0 ∨ (0 < r ∧ Pair i j [])) := fun ⟨h1, h2⟩ =>
    ⟨8, evs (by simp only [peep_idle.j1, if_true]; exact Ev.now _), .inr ⟨by decide, .idle (.inl h1) (.inr (.inl (by omega)))⟩⟩
  have r0 : ∃ r, Ev (fun k => peep_idle.j0 k false i.f0 i.f1 i.f2 j.f0 j.f1 j.f2) r ∧ (r = 0 ∨ (0 < r ∧ Pair i j [])) := by
    by_cases h1 : i.f0 = 1
    · by_cases h2 : i.f1 = 0
      · by_cases h3 : j.f0 = 7
        · obtain ⟨r, hr, hr2⟩ := t1 ⟨h1, .inl h3⟩
          refine ⟨r, evs ?_, hr2⟩
          simp only [peep_idle.j0, cff, if_false, tt h1, tt h2, tt h3, if_true]
          simpa only [h1, h2, h3] using hr
        · by_cases h4 : j.f0 = 8
          · obtain ⟨r, hr, hr2⟩ := t1 ⟨h1, .inr h4⟩
            refine ⟨r, evs ?_, hr2⟩
            simp only [peep_idle.j0, cff, if_false, tt h1, tt h2, ff h3, if_true]
            rw [show (j.f0 == 8) = true from beq_iff_eq.mpr h4]
            simpa only [h1, h2] using hr
          · obtain ⟨r, hr, hr2⟩ := r1
            refine ⟨r, evs ?_, hr2⟩
            simp only [peep_idle.j0, cff, if_false, tt h1, tt h2, ff h3, if_true]
            rw [show (j.f0 == 8) = false from beq_eq_false_iff_ne.mpr h4]
            simpa only [h1, h2] using hr
      · obtain ⟨r, hr, hr2⟩ := r1
        refine ⟨r, evs ?_, hr2⟩
        simp only [peep_idle.j0, cff, if_false, tt h1, ff h2, if_true]
        simpa only [h1] using hr
    · obtain ⟨r, hr, hr2⟩ := r1
      refine ⟨r, evs ?_, hr2⟩
      simp only [peep_idle.j0, cff, if_false, ff h1]
      exact hr
  have t0 : ((i.f0 = 1 ∨ i.f0 = 2) ∧ j.f0 = 25) → ∃ r, Ev (fun k => peep_idle.j0 k true i.f0 i.f1 i.f2 j.f0 j.f1 j.f2) r ∧ (r = 0 ∨ (0 < r ∧ Pair i j [])) := fun ⟨h1, h2⟩ =>
    ⟨7, evs (by simp only [peep_idle.j0, if_true]; exact Ev.now _), .inr ⟨by decide, .idle h1 (.inl h2)⟩⟩
  unfold peep_idle.f
  by_cases h : i.f0 = 1 ∨ i.f0 = 2
  · have key : ∃ r, Ev (fun k => peep_idle.j0 k (j.f0 == 25) i.f0 i.f1 i.f2 j.f0 j.f1 j.f2) r ∧ (r = 0 ∨ (0 < r ∧ Pair i j [])) := by
      by_cases h2 : j.f0 = 25
      · rw [show (j.f0 == 25) = true from beq_iff_eq.mpr h2]; exact t0 ⟨h, h2⟩
      · rw [show (j.f0 == 25) = false from beq_eq_false_iff_ne.mpr h2]; exact r0
    by_cases h1 : i.f0 = 1
    · simp only [if_pos h1]; exact key
    · simp only [if_neg h1, if_pos (h.resolve_left h1)]; exact key
  · simp only [if_neg (fun e => h (.inl e)), if_neg (fun e => h (.inr e))]; exact r0
theorem pair_ok (hi : i.f0 = 6 → 0 ≤ i.f1 ∧ i.f1 ≤ 100000 ∧ 0 ≤ i.f2 ∧ i.f2 ≤ 64) (hj : j.f0 = 6 → 0 ≤ j.f1 ∧ j.f1 ≤ 100000 ∧ 0 ≤ j.f2 ∧ j.f2 ≤ 64) :
    ∃ c, Ev (fun k => peep_pair.f k i.f0 i.f1 i.f2 j.f0 j.f1 j.f2) c ∧ (c = None_ ∨ (0 < c.1 ∧ c.2.1 = 2 ∧ Pair i j c.2.2)) := by
  have r2 : ∃ c, Ev (fun k => peep_pair.j2 k false i.f0 i.f1 i.f2 j.f0 j.f1 j.f2) c ∧ (c = None_ ∨ (0 < c.1 ∧ c.2.1 = 2 ∧ Pair i j c.2.2)) := by
    by_cases h1 : i.f0 = 6
    · by_cases h2 : j.f0 = 6
      · obtain ⟨a0, a1, a2, a3⟩ := hi h1
        obtain ⟨b0, b1, b2, b3⟩ := hj h2
        have e1 : wrap64 (i.f1 + i.f2) = i.f1 + i.f2 := w64 (by omega) (by omega)
        have e2 : wrap64 (i.f2 + j.f2) = i.f2 + j.f2 := w64 (by omega) (by omega)
        by_cases h3 : j.f1 = i.f1 + i.f2
        · by_cases h4 : i.f2 + j.f2 ≤ 64
          · refine ⟨(12, 2, [⟨6, i.f1, i.f2 + j.f2⟩]), evs ?_, .inr ⟨by simp, rfl, .clear h1 h2 h3 h4⟩⟩
            simp only [peep_pair.j2, cff, if_false, tt h1, tt h2, e1, e2, tt h3, tt h4, if_true]
            exact Ev.now _
          · refine ⟨None_, evs ?_, .inl rfl⟩
            simp only [peep_pair.j2, cff, if_false, tt h1, tt h2, e1, e2, tt h3, ff h4, if_true]
            exact Ev.now _
        · refine ⟨None_, evs ?_, .inl rfl⟩
          simp only [peep_pair.j2, cff, if_false, tt h1, tt h2, e1, ff h3, if_true]
          exact Ev.now _
      · refine ⟨None_, evs ?_, .inl rfl⟩
        simp only [peep_pair.j2, cff, if_false, tt h1, ff h2, if_true]
        exact Ev.now _
    · refine ⟨None_, evs ?_, .inl rfl⟩
      simp only [peep_pair.j2, cff, if_false, ff h1]
      exact Ev.now _
  have r1 : ∃ c, Ev (fun k => peep_pair.j1 k false i.f0 i.f1 i.f2 j.f0 j.f1 j.f2) c ∧ (c = None_ ∨ (0 < c.1 ∧ c.2.1 = 2 ∧ Pair i j c.2.2)) := by
    by_cases h1 : i.f0 = 1
    · by_cases h2 : i.f1 = 0
      · obtain ⟨c, hc, hc2⟩ := r2
        refine ⟨c, evs ?_, hc2⟩
        simp only [peep_pair.j1, cff, if_false, tt h1, tt h2, if_true]
        simpa only [h1, h2] using hc
      · by_cases h3 : j.f0 = 23
        · refine ⟨(11, 2, []), evs ?_, .inr ⟨by simp, rfl, .idle (.inl h1) (.inr (.inr (.inr (.inr h3))))⟩⟩
          simp only [peep_pair.j1, cff, if_false, tt h1, ff h2, if_true]
          rw [show (j.f0 == 23) = true from beq_iff_eq.mpr h3]
          refine evs ?_
          simp only [peep_pair.j2, if_true]
          exact Ev.now _
        · obtain ⟨c, hc, hc2⟩ := r2
          refine ⟨c, evs ?_, hc2⟩
          simp only [peep_pair.j1, cff, if_false, tt h1, ff h2, if_true]
          rw [show (j.f0 == 23) = false from beq_eq_false_iff_ne.mpr h3]
          simpa only [h1] using hc
    · obtain ⟨c, hc, hc2⟩ := r2
      refine ⟨c, evs ?_, hc2⟩
      simp only [peep_pair.j1, cff, if_false, ff h1]
      exact hc
  have r0 : (¬ (i.f0 = 1 ∧ j.f0 = 18 ∧ i.f1 = 0)) → ∃ c, Ev (fun k => peep_pair.j0 k false i.f0 i.f1 i.f2 j.f0 j.f1 j.f2) c ∧ (c = None_ ∨ (0 < c.1 ∧ c.2.1 = 2 ∧ Pair i j c.2.2)) := by
    intro hn
    by_cases h1 : i.f0 = 1
    · by_cases h2 : j.f0 = 18
      · refine ⟨(10, 2, []), evs ?_, .inr ⟨by simp, rfl, .idle (.inl h1) (.inr (.inr (.inr (.inl h2))))⟩⟩
        simp only [peep_pair.j0, cff, if_false, tt h1, if_true]
        rw [show (j.f0 == 18) = true from beq_iff_eq.mpr h2]
        refine evs ?_
        simp only [peep_pair.j1, if_true]
        exact Ev.now _
      · obtain ⟨c, hc, hc2⟩ := r1
        refine ⟨c, evs ?_, hc2⟩
        simp only [peep_pair.j0, cff, if_false, tt h1, if_true]
        rw [show (j.f0 == 18) = false from beq_eq_false_iff_ne.mpr h2]
        simpa only [h1] using hc
    · obtain ⟨c, hc, hc2⟩ := r1
      refine ⟨c, evs ?_, hc2⟩
      simp only [peep_pair.j0, cff, if_false, ff h1]
      exact hc
  unfold peep_pair.f
  by_cases h1 : i.f0 = 1
  · by_cases h2 : j.f0 = 18
    · simp only [if_pos h1, if_pos h2]
      by_cases h3 : i.f1 = 0
      · refine ⟨(10, 2, [⟨17, j.f1, 0⟩]), ?_, .inr ⟨by simp, rfl, .jump h1 h2⟩⟩
        rw [show (i.f1 == 0) = true from beq_iff_eq.mpr h3]
        refine evs ?_
        simp only [peep_pair.j0, if_true]
        exact Ev.now _
      · rw [show (i.f1 == 0) = false from beq_eq_false_iff_ne.mpr h3]
        exact r0 (fun h => h3 h.2.2)
    · simp only [if_pos h1, if_neg h2]
      exact r0 (fun h => h2 h.2.1)
  · simp only [if_neg h1]
    exact r0 (fun h => h1 h.1)
end
section
variable {N : Net} {ins : List Ins} {re ta : List Bool} {p : Nat}
theorem triple_ok (S : Seen N ins (re, ta)) (hp : p < ins.length) (hn : ins.length ≤ 65536) (hw : ∀ y ∈ ins, Wf y.f1) (hat : At N p) :
    ∃ c, Ev (fun k => peep_sight_triple.f k ins p re ta) c ∧ (c = None_ ∨ (0 < c.1 ∧ ∃ n : Nat, c.2.1 = n ∧ Fit (At N) (Tgt N ins) ins p n c.2.2)) := by
  unfold peep_sight_triple.f
  rcases part_three S hp hn with ⟨h, t1, t2, hP⟩ | hP
  · generalize hi : rdI ins p = i at hP
    generalize hj : rdI ins ((p + 1 : Nat) : Int) = j at hP
    generalize hk : rdI ins ((p + 2 : Nat) : Int) = x at hP
    have r0 : rd_T40 [i, j, x] 0 = i := rfl
    have r1 : rd_T40 [i, j, x] 1 = j := rfl
    have r2 : rd_T40 [i, j, x] 2 = x := rfl
    have d1 := ff (show ¬ (([i, j, x] : List Ins).length : Int) = 0 by simp)
    have d2 := tt (show (0 : Int) < (([i, j, x] : List Ins).length : Int) by simp)
    have d3 := tt (show (1 : Int) < (([i, j, x] : List Ins).length : Int) by simp)
    have d4 := tt (show (2 : Int) < (([i, j, x] : List Ins).length : Int) by simp)
    have jt : Ev (fun k => peep_sight_triple.j0 k [i, j, x] true) None_ := evs (by simp only [peep_sight_triple.j0, if_true]; exact Ev.now _)
    by_cases h1 : i.f0 = 1
    · by_cases h2 : j.f0 = 1
      · obtain ⟨r, hr, hr2⟩ := two_ok x.f0 (a := i.f1) (b := j.f1) (by rw [← hi]; exact hw _ (rdI_mem hp)) (by rw [← hj]; exact hw _ (rdI_mem (by omega)))
        cases hb : r.2 with
        | true =>
          obtain ⟨o1, o2, o3⟩ := hr2 hb
          refine ⟨(6, 3, [⟨1, r.1, 0⟩]), Ev.bind hP ?_, .inr ⟨by simp, 3, rfl, .three r.1 hat h t1 t2 (by rw [hi]; exact h1) (by rw [hj]; exact h2) (by rw [hk]; exact o1) (by rw [hk]; exact o2) o3⟩⟩
          simp only [d1, d2, d3, if_false, if_true, r0, r1, tt h1]
          rw [show (j.f0 != 1) = false from bne_eq_false_iff_eq.mpr h2]
          refine evs ?_
          simp only [peep_sight_triple.j0, cff, if_false, d2, d3, d4, if_true, r0, r1, r2, hr, Option.bind_some, hb]
          exact Ev.now _
        | false =>
          refine ⟨None_, Ev.bind hP ?_, .inl rfl⟩
          simp only [d1, d2, d3, if_false, if_true, r0, r1, tt h1]
          rw [show (j.f0 != 1) = false from bne_eq_false_iff_eq.mpr h2]
          refine evs ?_
          simp only [peep_sight_triple.j0, cff, if_false, d2, d3, d4, if_true, r0, r1, r2, hr, Option.bind_some, hb]
          exact Ev.now _
      · refine ⟨None_, Ev.bind hP ?_, .inl rfl⟩
        simp only [d1, d2, d3, if_false, if_true, r0, r1, tt h1]
        rw [show (j.f0 != 1) = true from bne_iff_ne.mpr h2]
        exact jt
    · refine ⟨None_, Ev.bind hP ?_, .inl rfl⟩
      simp only [d1, d2, if_false, if_true, r0, ff h1]
      exact jt
  · refine ⟨None_, Ev.bind hP ?_, .inl rfl⟩
    simp only [List.length_nil]
    simp only [tt (show ((0 : Nat) : Int) = 0 from rfl), if_true]
    refine evs ?_
    simp only [peep_sight_triple.j0, if_true]
    exact Ev.now _
theorem fits_ok (S : Seen N ins (re, ta)) (hp : p < ins.length) (hn : ins.length ≤ 65536) (hv : ∀ p, p < ins.length → isJ (rdI ins p) → 0 ≤ (rdI ins p).f1 ∧ (rdI ins p).f1 < (ins.length : Int)) (hw : ∀ y ∈ ins, Wf y.f1)
    (hc : ∀ y ∈ ins, y.f0 = 6 → 0 ≤ y.f1 ∧ y.f1 ≤ 100000 ∧ 0 ≤ y.f2 ∧ y.f2 ≤ 64) :
    ∃ c, Ev (fun k => peep_sight_fits.f k ins p re ta) c ∧ ((c.1 = 0 ∧ At N p) ∨ (0 < c.1 ∧ ∃ n : Nat, c.2.1 = n ∧ Fit (At N) (Tgt N ins) ins p n c.2.2)) := by
  obtain ⟨c1, h1, h1'⟩ := single_ok S hp hn hv
  unfold peep_sight_fits.f
  rcases h1' with ⟨rfl, hat⟩ | ⟨g, hF⟩
  · have z0 := ff (show ¬ (None_.1 > 0) by decide)
    rcases part_two S hp hn with ⟨hl, hT, hP⟩ | hP
    · generalize hi : rdI ins p = i at hP
      generalize hj : rdI ins ((p + 1 : Nat) : Int) = j at hP
      have r0 : rd_T40 [i, j] 0 = i := rfl
      have r1 : rd_T40 [i, j] 1 = j := rfl
      have d1 := ff (show ¬ (([i, j] : List Ins).length : Int) = 0 by simp)
      have d2 := tt (show (0 : Int) < (([i, j] : List Ins).length : Int) by simp)
      have d3 := tt (show (1 : Int) < (([i, j] : List Ins).length : Int) by simp)
      obtain ⟨c2, h2, h2'⟩ := unary_ok i j
      have pair (put : List Ins) (P : Pair i j put) : Fit (At N) (Tgt N ins) ins p 2 put := .pair put hat hl hT (by rw [hi, hj]; exact P)
      rcases h2' with rfl | ⟨a, b, P⟩
      · obtain ⟨c3, h3, h3'⟩ := triple_ok S hp hn hw hat
        rcases h3' with rfl | ⟨g3, hF3⟩
        · obtain ⟨r, h4, h4'⟩ := idle_ok i j
          rcases h4' with rfl | ⟨g4, P⟩
          · obtain ⟨c5, h5, h5'⟩ := pair_ok i j (by rw [← hi]; exact hc _ (rdI_mem hp)) (by rw [← hj]; exact hc _ (rdI_mem (by omega)))
            refine ⟨(c5.1, c5.2.1, c5.2.2), ?_, ?_⟩
            · refine Ev.bind h1 ?_
              simp only [z0, if_false]
              refine Ev.bind hP ?_
              simp only [d1, d2, d3, if_false, if_true, r0, r1]
              refine Ev.bind h2 ?_
              simp only [z0, if_false]
              refine Ev.bind h3 ?_
              simp only [z0, if_false]
              refine Ev.bind h4 ?_
              simp only [ff (show ¬ (0 : Int) > 0 by decide), if_false]
              refine Ev.bind h5 (Ev.now _)
            · rcases h5' with rfl | ⟨g5, e5, P⟩
              · exact .inl ⟨rfl, hat⟩
              · exact .inr ⟨g5, 2, e5, pair _ P⟩
          · refine ⟨(r, 2, []), ?_, .inr ⟨g4, 2, rfl, pair _ P⟩⟩
            refine Ev.bind h1 ?_
            simp only [z0, if_false]
            refine Ev.bind hP ?_
            simp only [d1, d2, d3, if_false, if_true, r0, r1]
            refine Ev.bind h2 ?_
            simp only [z0, if_false]
            refine Ev.bind h3 ?_
            simp only [z0, if_false]
            refine Ev.bind h4 ?_
            simp only [tt (show r > 0 from g4), if_true]
            exact Ev.now _
        · refine ⟨(c3.1, c3.2.1, c3.2.2), ?_, .inr ⟨g3, hF3⟩⟩
          refine Ev.bind h1 ?_
          simp only [z0, if_false]
          refine Ev.bind hP ?_
          simp only [d1, d2, d3, if_false, if_true, r0, r1]
          refine Ev.bind h2 ?_
          simp only [z0, if_false]
          refine Ev.bind h3 ?_
          simp only [tt (show c3.1 > 0 from g3), if_true]
          exact Ev.now _
      · refine ⟨(c2.1, c2.2.1, c2.2.2), ?_, .inr ⟨by rw [a]; decide, 2, b, pair _ P⟩⟩
        refine Ev.bind h1 ?_
        simp only [z0, if_false]
        refine Ev.bind hP ?_
        simp only [d1, d2, d3, if_false, if_true, r0, r1]
        refine Ev.bind h2 ?_
        simp only [tt (show c2.1 > 0 by rw [a]; decide), if_true]
        exact Ev.now _
    · refine ⟨None_, ?_, .inl ⟨rfl, hat⟩⟩
      refine Ev.bind h1 ?_
      simp only [z0, if_false]
      refine Ev.bind hP ?_
      simp only [List.length_nil]
      simp only [tt (show ((0 : Nat) : Int) = 0 from rfl), if_true]
      exact Ev.now _
  · refine ⟨(c1.1, c1.2.1, c1.2.2), ?_, .inr ⟨g, hF⟩⟩
    refine Ev.bind h1 ?_
    simp only [tt (show c1.1 > 0 from g), if_true]
    exact Ev.now _
end
end Go.Proofs.YtmbjogpphegoaaaDoor.Q
end
section
/- One change made in a code, and changes as long as one fits: what the program's functions give. -/
namespace Go.Proofs.YtmbjogpphegoaaaDoor.Q
set_option linter.unusedVariables false
set_option linter.unusedSimpArgs false
open Go.RowKit Go.Proofs.YtmbjogpphegoaaaDoorW.PrintWords Go.Proofs.YtmbjogpphegoaaaDoorW.PrintLast Go.Proofs.YtmbjogpphegoaaaDoorW.PrintMore Go.Proofs.YtmbjogpphegoaaaDoor.P

/-! The change made. -/
def mvs (p n m : Nat) (all : List Ins) (j : Nat) : List Ins := (all.take j).map (mvI p n m) ++ all.drop j
theorem mvs_length (p n m : Nat) (all : List Ins) (j : Nat) : (mvs p n m all j).length = all.length := by
  simp only [mvs, List.length_append, List.length_map, List.length_take, List.length_drop]; omega
theorem mvs_cons {p n m : Nat} {all : List Ins} {j : Nat} (h : j < all.length) : mvs p n m all j = (all.take j).map (mvI p n m) ++ all[j] :: all.drop (j + 1) := by
  unfold mvs
  rw [List.drop_eq_getElem_cons h]
theorem mvs_succ {p n m : Nat} {all : List Ins} {j : Nat} (h : j < all.length) : mvs p n m all (j + 1) = (all.take j).map (mvI p n m) ++ mvI p n m all[j] :: all.drop (j + 1) := by
  unfold mvs
  rw [List.take_succ_eq_append_getElem h, List.map_append, List.append_assoc]
  rfl
theorem mvs_set {p n m : Nat} {all : List Ins} {j : Nat} (h : j < all.length) : (mvs p n m all j).set j (mvI p n m all[j]) = mvs p n m all (j + 1) := by
  have hl : ((all.take j).map (mvI p n m)).length = j := by rw [List.length_map, List.length_take]; omega
  rw [mvs_cons h, mvs_succ h, List.set_append_right _ _ (by omega), hl, Nat.sub_self]
  rfl
theorem mvs_stay {p n m : Nat} {all : List Ins} {j : Nat} (h : j < all.length) (he : mvI p n m all[j] = all[j]) : mvs p n m all (j + 1) = mvs p n m all j := by
  rw [mvs_cons h, mvs_succ h, he]
theorem mvs_rd {p n m : Nat} {all : List Ins} {j : Nat} (h : j < all.length) : rdI (mvs p n m all j) j = all[j] := by
  have hl : ((all.take j).map (mvI p n m)).length = j := by rw [List.length_map, List.length_take]; omega
  rw [rdI_at _ _ (by rw [mvs_length]; exact h)]
  simp only [mvs_cons h]
  rw [List.getElem_append_right (by omega)]
  simp only [hl, Nat.sub_self, List.getElem_cons_zero]
theorem mvs_all (p n m : Nat) (all : List Ins) : mvs p n m all all.length = all.map (mvI p n m) := by
  simp [mvs]
theorem done_loop (p n : Nat) (put : List Ins) (rule : Int) (all : List Ins) (hn : 1 ≤ n) (hm : put.length ≤ n) (hp : p + n ≤ 100000) (hl : all.length ≤ 100000) (hj : ∀ x ∈ all, isJ x → 0 ≤ x.f1 ∧ x.f1 ≤ 100000) : ∀ (d j : Nat), j + d = all.length →
    Ev (fun k => peep_sight_done.l0 k p (mvs p n put.length all j) (wrap64 ((n : Int) - (put.length : Int))) (all.length : Int) (j : Int) rule n put) (all.map (mvI p n put.length)) := by
  have e0 : wrap64 ((n : Int) - (put.length : Int)) = (n : Int) - (put.length : Int) := w64 (by omega) (by omega)
  have e1 : wrap64 ((p : Int) + (n : Int)) = (p : Int) + (n : Int) := w64 (by omega) (by omega)
  rw [e0]
  intro d
  induction d with
  | zero =>
    intro j hjl
    obtain rfl : j = all.length := by omega
    rw [mvs_all]
    refine evs ?_
    have c1 := ff (Int.lt_irrefl (all.length : Int))
    simp only [peep_sight_done.l0, c1, if_false]
    exact Ev.now _
  | succ d ih =>
    intro j hjl
    have hlt : j < all.length := by omega
    have c1 := tt (show (j : Int) < (all.length : Int) by omega)
    have c2 := tt (show (0 : Int) ≤ (j : Int) by omega)
    have c3 := tt (show (j : Int) < ((mvs p n put.length all j).length : Int) by rw [mvs_length]; omega)
    have ew : wrap64 ((j : Int) + 1) = ((j + 1 : Nat) : Int) := by rw [w64 (by omega) (by omega)]; rfl
    have next := ih (j + 1) (by omega)
    have hr : rd_T40 (mvs p n put.length all j) (j : Int) = all[j] := mvs_rd hlt
    have hmem := List.getElem_mem hlt
    have hset := mvs_set (p := p) (n := n) (m := put.length) hlt
    have hjp := jumps_at all[j]
    refine evs ?_
    simp only [peep_sight_done.l0, c1, c2, c3, if_true, hr, e1, ew, Int.toNat_natCast]
    refine Ev.bind (evc hjp) ?_
    by_cases h : isJ all[j]
    · obtain ⟨f0, f1⟩ := hj _ hmem h
      simp only [decide_eq_true h, if_true]
      by_cases g : (all[j]).f1 ≥ (p : Int) + (n : Int)
      · have e : wrap64 ((all[j]).f1 - ((n : Int) - (put.length : Int))) = phi p n put.length (all[j]).f1 := by
          rw [w64 (by omega) (by omega)]
          unfold phi
          rw [if_neg (by omega), if_neg (by omega)]
          omega
        simp only [tt g, if_true, e]
        rw [show (⟨(all[j]).f0, phi p n put.length (all[j]).f1, (all[j]).f2⟩ : Ins) = mvI p n put.length all[j] by unfold mvI; rw [if_pos h], hset]
        exact next
      · simp only [ff g, if_false]
        by_cases g2 : (all[j]).f1 > (p : Int)
        · simp only [tt g2, if_true]
          rw [show (⟨(all[j]).f0, (p : Int), (all[j]).f2⟩ : Ins) = mvI p n put.length all[j] by unfold mvI phi; rw [if_pos h, if_neg (by omega), if_pos (by omega)], hset]
          exact next
        · simp only [ff g2, if_false]
          rw [mvs_stay hlt (by unfold mvI phi; rw [if_pos h, if_pos (by omega)])] at next
          exact next
    · simp only [decide_eq_false h, cff, if_false]
      rw [mvs_stay hlt (by unfold mvI; rw [if_neg h])] at next
      exact next
theorem done_ok (ins : List Ins) (p n : Nat) (put : List Ins) (rule : Int) (re ta : List Bool) (h1 : 1 ≤ n) (hpn : p + n ≤ ins.length) (hm : put.length ≤ n) (hm1 : put.length ≤ 1) (hl : ins.length ≤ 65536)
    (hj : ∀ x ∈ ins, isJ x → 0 ≤ x.f1 ∧ x.f1 < (ins.length : Int)) (hq : ∀ x ∈ put, isJ x → 0 ≤ x.f1 ∧ x.f1 ≤ 100000) (hs : put = [] → p + n = ins.length → ∀ x ∈ ins.take p, isJ x → x.f1 ≤ (p : Int)) :
    Ev (fun k => peep_sight_done.f k ins p rule n put re ta) (doneL ins p n put) := by
  have e1 : wrap64 ((p : Int) + (n : Int)) = ((p + n : Nat) : Int) := by rw [w64 (by omega) (by omega)]; rfl
  have c1 := tt (show (0 : Int) ≤ (p : Int) by omega)
  have c2 := tt (show (p : Int) ≤ (ins.length : Int) by omega)
  have c3 := tt (show (0 : Int) ≤ ((p + n : Nat) : Int) by omega)
  have c4 := tt (show ((p + n : Nat) : Int) ≤ (ins.length : Int) by omega)
  have c5 := tt (show (p : Int) < ((p + n : Nat) : Int) by omega)
  unfold peep_sight_done.f
  simp only [e1, c1, c2, c3, c4, c5, if_true, Int.toNat_natCast]
  by_cases he : (put ++ ins.drop (p + n)).isEmpty = true
  · simp only [he, if_true]
    obtain ⟨a, b⟩ := List.append_eq_nil_iff.1 (List.isEmpty_iff.1 he)
    have hlen : p + n = ins.length := by have := congrArg List.length b; rw [List.length_drop] at this; simp at this; omega
    have hall := hs a hlen
    have h2 : (ins.take p).all (fun x => decide ((x.f0 = 17 ∨ x.f0 = 18) → x.f1 ≤ (p : Int))) = true := List.all_eq_true.2 (fun x hx => decide_eq_true (hall x hx))
    have hd : doneL ins p n put = ins.take p := by
      unfold doneL
      rw [a, b]
      simp only [List.append_nil, List.length_nil]
      refine (List.map_congr_left (g := id) (fun x hx => ?_)).trans (List.map_id _)
      unfold mvI phi
      by_cases hx2 : isJ x
      · rw [if_pos hx2, if_pos (hall x hx hx2)]; rfl
      · rw [if_neg hx2]; rfl
    simp only [h2, if_true]
    rw [hd]
    exact Ev.now _
  · have hb : (ins.take p ++ put ++ ins.drop (p + n)).length ≤ 100000 := by simp only [List.length_append, List.length_take, List.length_drop]; omega
    have c6 := tt (show (ins.take p ++ put ++ ins.drop (p + n)).length < 5864062014805 by omega)
    have c0 := ff he
    simp only [c0, if_false, c6, if_true]
    have := done_loop p n put rule (ins.take p ++ put ++ ins.drop (p + n)) h1 hm (by omega) hb (fun x hx hxj => by
      rw [List.mem_append, List.mem_append] at hx
      rcases hx with (hx | hx) | hx
      · have := hj x (List.mem_of_mem_take hx) hxj; omega
      · exact hq x hx hxj
      · have := hj x (List.mem_of_mem_drop hx) hxj; omega) (ins.take p ++ put ++ ins.drop (p + n)).length 0 (by omega)
    simp only [mvs, List.take_zero, List.map_nil, List.nil_append, List.drop_zero] at this
    exact this

/-- A code whose heights are right. -/
structure Good (l : List Cod) (y : Cod) : Prop where
  shape : Shape l y
  fit : FitI y.f0
  good : ¬ (net l y.f0 (shape_valid shape)).Bad
/-- Nothing fits any more. -/
def Stable (ins : List Ins) : Prop := Ev (fun k => peep_once.f k ins) (ins, false) ∧ ∃ rt : List Bool × List Bool, Ev (fun k => peep_look.f k ins) rt ∧ ∀ p : Nat, p < ins.length → ∃ c : Chg, Ev (fun k => peep_sight_fits.f k ins p rt.1 rt.2) c ∧ c.1 = 0
section
variable {l : List Cod} {y : Cod}
theorem good_jump (G : Good l y) : ∀ p, p < y.f0.length → isJ (rdI y.f0 p) → 0 ≤ (rdI y.f0 p).f1 ∧ (rdI y.f0 p).f1 < (y.f0.length : Int) := fun p hp hj => (shape_valid G.shape p hp).jump hj
theorem good_wf (G : Good l y) : ∀ z ∈ y.f0, Wf z.f1 := fun z hz => (G.fit z hz).2.1
theorem good_clear (G : Good l y) : ∀ z ∈ y.f0, z.f0 = 6 → 0 ≤ z.f1 ∧ z.f1 ≤ 100000 ∧ 0 ≤ z.f2 ∧ z.f2 ≤ 64 := fun z hz h6 => by
  have hm := G.shape.2 z hz
  rw [h6] at hm
  have := may_cells l _ _ _ hm
  have c1 := G.shape.1.2.2.2.1
  unfold Within at this
  omega
theorem once_ok (G : Good l y) : ∃ r, Ev (fun k => peep_once.f k y.f0) r ∧ ((r = (y.f0, false) ∧ Stable y.f0 ∧ ∀ p, p < y.f0.length → At (net l y.f0 (shape_valid G.shape)) p) ∨
    (r.2 = true ∧ Good l { y with f0 := r.1 } ∧ mu r.1 < mu y.f0 ∧ r.1.length ≤ y.f0.length)) := by
  have hs := G.shape.1
  obtain ⟨⟨re, ta⟩, hlook, S⟩ := look_ok G.good hs.2.1 hs.1
  have loop : ∀ (d j : Nat) (c : Chg), j + d = y.f0.length → c.1 = 0 → (∀ p, p < j → At (net l y.f0 (shape_valid G.shape)) p ∧ ∃ c : Chg, Ev (fun k => peep_sight_fits.f k y.f0 p re ta) c ∧ c.1 = 0) →
      ∃ r, Ev (fun k => peep_once.l0 k y.f0 0 (y.f0.length : Int) (j : Int) y.f0 re ta c.1 c.2.1 c.2.2) r ∧ ((r = (y.f0, false) ∧ (∀ p, p < y.f0.length → At (net l y.f0 (shape_valid G.shape)) p ∧ ∃ c : Chg, Ev (fun k => peep_sight_fits.f k y.f0 p re ta) c ∧ c.1 = 0)) ∨
        (r.2 = true ∧ Good l { y with f0 := r.1 } ∧ mu r.1 < mu y.f0 ∧ r.1.length ≤ y.f0.length)) := by
    intro d
    induction d with
    | zero =>
      intro j c hj hc hf
      obtain rfl : j = y.f0.length := by omega
      refine ⟨(y.f0, false), evs ?_, .inl ⟨rfl, hf⟩⟩
      have c1 := ff (Int.lt_irrefl (y.f0.length : Int))
      simp only [peep_once.l0, c1, if_false, tt hc, if_true]
      exact Ev.now _
    | succ d ih =>
      intro j c hj hc hf
      have hlt : j < y.f0.length := by omega
      have hlen : y.f0.length ≤ 65536 := hs.2.1
      have c1 := tt (show (j : Int) < (y.f0.length : Int) by omega)
      have ew : wrap64 ((j : Int) + 1) = ((j + 1 : Nat) : Int) := by rw [w64 (by omega) (by omega)]; rfl
      obtain ⟨⟨rl, cn, put⟩, hc', hcc⟩ := fits_ok S hlt hs.2.1 (good_jump G) (good_wf G) (good_clear G)
      simp only [] at hcc
      rcases hcc with ⟨h0, hat⟩ | ⟨hpos, n, hn, F⟩
      · obtain ⟨r, hr, hr2⟩ := ih (j + 1) (rl, cn, put) (by omega) h0 (fun p hp => by
          by_cases e : p = j
          · subst e; exact ⟨hat, (rl, cn, put), hc', h0⟩
          · exact hf p (by omega))
        refine ⟨r, evs ?_, hr2⟩
        simp only [peep_once.l0, c1, if_true, ew]
        refine Ev.bind hc' ?_
        simp only [ff (show ¬ rl > 0 by omega), if_false]
        exact hr
      · have hfirst : ∀ q, q < j → At (net l y.f0 (shape_valid G.shape)) q := fun q hq => (hf q hq).1
        obtain ⟨n1, n3, hpn, pl, pn⟩ := fit_n hlt F
        have K := fit_keeps G.good hlt F
        have sh := fit_shape G.shape G.fit G.good hlt hfirst F
        have less := fit_less (shape_valid G.shape) hlt F
        have hdone := done_ok y.f0 j n put rl re ta n1 hpn pn pl hs.2.1 (fun x hx hxj => by
            obtain ⟨q, hq, rfl⟩ := mem_rdI hx
            exact good_jump G q hq hxj)
          (fun x hx hxj => by
            cases F with
            | gone => cases hx
            | next => cases hx
            | zero => simp only [List.mem_singleton] at hx; subst hx; exact absurd hxj (isJ_not (x := (⟨25, 0, 0⟩ : Ins)) rfl (by decide) (by decide))
            | far hR hj0 h0 h1 =>
              simp only [List.mem_singleton] at hx; subst hx
              have v := good_jump G j hlt hj0
              obtain ⟨q1, hq1⟩ : ∃ q1 : Nat, (rdI y.f0 j).f1 = q1 := ⟨((rdI y.f0 j).f1).toNat, by omega⟩
              rw [hq1] at h0 h1 ⊢
              have v2 := good_jump G q1 (by omega) (.inl h0)
              exact ⟨v2.1, by simp only []; omega⟩
            | pair put hR hl2 hT P =>
              cases P with
              | neg m => simp only [List.mem_singleton] at hx; subst hx; exact absurd hxj (push_not m)
              | idle => cases hx
              | jump hi hj0 =>
                simp only [List.mem_singleton] at hx; subst hx
                have v := good_jump G (j + 1) (by omega) (.inr hj0)
                exact ⟨v.1, by simp only []; omega⟩
              | clear => simp only [List.mem_singleton] at hx; subst hx; exact absurd hxj (isJ_not (c := 6) rfl (by decide) (by decide))
            | three m => simp only [List.mem_singleton] at hx; subst hx; exact absurd hxj (push_not m))
          (fun he hend x hx hxj => by
            obtain ⟨q, hq, rfl⟩ := List.getElem_of_mem hx
            rw [List.length_take] at hq
            rw [List.getElem_take] at hxj ⊢
            have e := rdI_at y.f0 q (by omega)
            rw [← e] at hxj ⊢
            obtain ⟨h, hr⟩ := hfirst q (by omega)
            have v := good_jump G q (by omega) hxj
            obtain ⟨t, ht⟩ : ∃ t : Nat, (rdI y.f0 q).f1 = t := ⟨((rdI y.f0 q).f1).toNat, by omega⟩
            have hrt := go G.good hr (nxt_jump hxj q ht)
            have hmid := K.mid q h t hr (nxt_jump hxj q ht) (.inl (by omega))
            have := at_in G.good hrt
            omega)
        refine ⟨(doneL y.f0 j n put, true), evs ?_, .inr ⟨rfl, ⟨sh.1, sh.2.1, ?_⟩, less, sh.2.2⟩⟩
        · simp only [peep_once.l0, c1, if_true]
          refine Ev.bind hc' ?_
          simp only [tt (show rl > 0 from hpos), if_true, ff (show ¬ rl = 0 by omega), if_false, hn]
          exact Ev.bind hdone (Ev.now _)
        · exact done_good G.good K (shape_valid sh.1)
  obtain ⟨r, hr, hr2⟩ := loop y.f0.length 0 None_ (by omega) rfl (fun p hp => by omega)
  have hone : Ev (fun k => peep_once.f k y.f0) r := by
    unfold peep_once.f
    exact Ev.bind hlook hr
  refine ⟨r, hone, ?_⟩
  rcases hr2 with ⟨rfl, h⟩ | h
  · exact .inl ⟨rfl, ⟨hone, (re, ta), hlook, fun p hp => (h p hp).2⟩, fun p hp => (h p hp).1⟩
  · exact .inr h
end

/-- What a code is made into. -/
structure Made (l : List Cod) (x y : Cod) : Prop where
  f1 : y.f1 = x.f1
  f2 : y.f2 = x.f2
  f3 : y.f3 = x.f3
  len : y.f0.length ≤ x.f0.length
  good : Good l y
  calm : Stable y.f0
  all : ∀ p, p < y.f0.length → At (net l y.f0 (shape_valid good.shape)) p
section
variable (l : List Cod)
theorem more_loop (x : Cod) (i : Nat) (out : List Cod) (ho : out.length ≤ 1000) (hx : x.f0.length ≤ 65536) (fin : ∀ y, Made l x y → ∃ a, Ev (fun k => peep_Make.l0 k (out ++ [y]) l (l.length : Int) (wrap64 ((i : Int) + 1))) a ∧ a.2 = 0 ∧ a.1.length = l.length ∧ (∀ q, q < out.length + 1 → rdC a.1 q = rdC (out ++ [y]) q) ∧ ∀ q, i < q → q < l.length → Made l (rdC l q) (rdC a.1 q)) :
    ∀ (m : Nat) (ins : List Ins) (more : Bool), mu ins ≤ m → Good l { x with f0 := ins } → ins.length ≤ x.f0.length → (more = false → Stable ins ∧ ∀ (G : Good l { x with f0 := ins }) p, p < ins.length → At (net l ins (shape_valid G.shape)) p) →
    ∃ a y, Made l x y ∧ Ev (fun k => peep_Make.l1 k out ins more l (l.length : Int) (i : Int) x.f0 x.f1 x.f2 x.f3) a ∧ a.2 = 0 ∧ a.1.length = l.length ∧ (∀ q, q < out.length + 1 → rdC a.1 q = rdC (out ++ [y]) q) ∧ ∀ q, i < q → q < l.length → Made l (rdC l q) (rdC a.1 q) := by
  have stop : ∀ (ins : List Ins), Good l { x with f0 := ins } → ins.length ≤ x.f0.length → (Stable ins ∧ ∀ (G : Good l { x with f0 := ins }) p, p < ins.length → At (net l ins (shape_valid G.shape)) p) →
      ∃ a y, Made l x y ∧ Ev (fun k => peep_Make.l1 k out ins false l (l.length : Int) (i : Int) x.f0 x.f1 x.f2 x.f3) a ∧ a.2 = 0 ∧ a.1.length = l.length ∧ (∀ q, q < out.length + 1 → rdC a.1 q = rdC (out ++ [y]) q) ∧ ∀ q, i < q → q < l.length → Made l (rdC l q) (rdC a.1 q) := by
    intro ins G hl hst
    have M : Made l x { x with f0 := ins } := ⟨rfl, rfl, rfl, hl, G, hst.1, hst.2 G⟩
    obtain ⟨a, h1, h2⟩ := fin _ M
    refine ⟨a, _, M, evs ?_, h2⟩
    have c1 := tt (show out.length < 2932031007402 by omega)
    simp only [peep_Make.l1, cff, if_false, c1, if_true]
    exact h1
  intro m
  induction m with
  | zero =>
    intro ins more hm G hl hst
    cases more with
    | false => exact stop ins G hl (hst rfl)
    | true =>
      obtain ⟨r, hr, hr2⟩ := once_ok G
      rcases hr2 with ⟨rfl, h1, h2⟩ | ⟨_, _, h, _⟩
      · obtain ⟨a, y, M, h3, h4⟩ := stop ins G hl ⟨h1, fun G' p hp => h2 p hp⟩
        refine ⟨a, y, M, evs ?_, h4⟩
        simp only [peep_Make.l1, if_true]
        exact Ev.bind hr h3
      · simp only [] at h; omega
  | succ m ih =>
    intro ins more hm G hl hst
    cases more with
    | false => exact stop ins G hl (hst rfl)
    | true =>
      obtain ⟨r, hr, hr2⟩ := once_ok G
      rcases hr2 with ⟨rfl, h1, h2⟩ | ⟨e, G2, h, hl2⟩
      · obtain ⟨a, y, M, h3, h4⟩ := stop ins G hl ⟨h1, fun G' p hp => h2 p hp⟩
        refine ⟨a, y, M, evs ?_, h4⟩
        simp only [peep_Make.l1, if_true]
        exact Ev.bind hr h3
      · simp only [] at h hl2
        obtain ⟨a, y, M, h3, h4⟩ := ih r.1 true (by omega) G2 (by omega) (fun h => by cases h)
        refine ⟨a, y, M, evs ?_, h4⟩
        simp only [peep_Make.l1, if_true]
        refine Ev.bind hr ?_
        simp only [e]
        exact h3
theorem make_loop (hf : FitC l) (hl : l.length ≤ 40) (hg : ∀ k, k < l.length → Good l (rdC l k)) : ∀ (d i : Nat) (out : List Cod), i + d = l.length → out.length = i →
    ∃ a, Ev (fun k => peep_Make.l0 k out l (l.length : Int) (i : Int)) a ∧ a.2 = 0 ∧ a.1.length = l.length ∧ (∀ q, q < out.length → rdC a.1 q = rdC out q) ∧ ∀ q, i ≤ q → q < l.length → Made l (rdC l q) (rdC a.1 q) := by
  intro d
  induction d with
  | zero =>
    intro i out hi ho
    obtain rfl : i = l.length := by omega
    refine ⟨(out, 0), evs ?_, rfl, ho, fun _ _ => rfl, fun q h1 h2 => by omega⟩
    have c1 := ff (Int.lt_irrefl (l.length : Int))
    simp only [peep_Make.l0, c1, if_false]
    exact Ev.now _
  | succ d ih =>
    intro i out hi ho
    have c1 := tt (show (i : Int) < (l.length : Int) by omega)
    have c2 := tt (show (0 : Int) ≤ (i : Int) by omega)
    have ew : wrap64 ((i : Int) + 1) = ((i + 1 : Nat) : Int) := by rw [w64 (by omega) (by omega)]; rfl
    have G := hg i (by omega)
    have hs := G.shape.1
    obtain ⟨a, y, M, h1, h2, h3, h4, h5⟩ := more_loop l (rdC l i) i out (by omega) hs.2.1 (fun y M => by
      rw [ew]
      obtain ⟨a, g1, g2, g3, g4, g5⟩ := ih (i + 1) (out ++ [y]) (by omega) (by simp [ho])
      exact ⟨a, g1, g2, g3, fun q hq => g4 q (by simp; omega), fun q h1 h2 => g5 q (by omega) h2⟩) (mu (rdC l i).f0) (rdC l i).f0 true (Nat.le_refl _) G (Nat.le_refl _) (fun h => by cases h)
    refine ⟨a, evs ?_, h2, h3, fun q hq => ?_, fun q hq hq2 => ?_⟩
    · have c3 := tt (show ([] : List Ins).length + (rd_T35 l (i : Int)).f0.length < 5864062014805 by
        have : (rd_T35 l (i : Int)).f0.length ≤ 65536 := hs.2.1
        simp only [List.length_nil]; omega)
      simp only [peep_Make.l0, c1, c2, if_true, c3, List.nil_append]
      exact h1
    · rw [h4 q (by omega), rdC_at _ _ (by simp; omega), rdC_at _ _ hq, List.getElem_append_left hq]
    · by_cases e : q = i
      · subst e
        have : rdC a.1 q = y := by
          rw [h4 q (by omega), rdC_at _ _ (by simp; omega), List.getElem_append_right (by omega)]
          simp [ho]
        rw [this]
        exact M
      · exact h5 q (by omega) hq2
theorem sound_good (hf : FitC l) {m : Int} (h : SoundP l m) : ∀ k, k < l.length → Good l (rdC l k) := by
  intro k hk
  obtain ⟨t, ht, h2⟩ := h.2 k hk
  rcases ht with ⟨_, hsh, hT, hW⟩ | ⟨rfl, _⟩
  · exact ⟨hsh, fit_at hf k hk, Net.not_bad hsh.1.1 hT hW⟩
  · cases h2
/-- Codes made short. -/
theorem Make_ok (hf : FitC l) (m : Int) : (SoundP l m ∧ ∃ a, Ev (fun k => peep_Make.f k l m) (a, 0) ∧ a.length = l.length ∧ ∀ q, q < l.length → Made l (rdC l q) (rdC a q)) ∨ (¬ SoundP l m ∧ Ev (fun k => peep_Make.f k l m) ([], 60)) := by
  obtain ⟨r, h1, h3⟩ := Sound_ok l hf m
  by_cases hs : SoundP l m
  · left
    refine ⟨hs, ?_⟩
    obtain ⟨a, g1, g2, g3, _, g5⟩ := make_loop l hf hs.1.2.1 (sound_good l hf hs) l.length 0 [] (by omega) rfl
    refine ⟨a.1, ?_, g3, fun q hq => g5 q (by omega) hq⟩
    unfold peep_Make.f
    refine Ev.bind h1 ?_
    rw [h3.2 hs]
    simp only [if_true]
    have : (a.1, (0 : Int)) = a := Prod.ext rfl g2.symm
    rw [this]
    exact g1
  · right
    refine ⟨hs, ?_⟩
    unfold peep_Make.f
    refine Ev.bind h1 ?_
    have : r = false := by
      cases r with
      | true => exact absurd (h3.1 rfl) hs
      | false => rfl
    rw [this]
    simp only [cff, if_false]
    exact Ev.now _
end
end Go.Proofs.YtmbjogpphegoaaaDoor.Q
end
section
/- The fixed calls of layer 10 come out as they must; its look at how great codes are ends. -/
namespace Go.Proofs.YtmbjogpphegoaaaDoor.Q
set_option linter.unusedVariables false
set_option linter.unusedSimpArgs false
open Go.RowKit Go.Proofs.YtmbjogpphegoaaaDoorW.PrintWords Go.Proofs.YtmbjogpphegoaaaDoorW.PrintLast Go.Proofs.YtmbjogpphegoaaaDoorW.PrintMore Go.Proofs.YtmbjogpphegoaaaDoor.P
theorem known_at : parallaxlaw10_known.f 60 = some true := by kernel_rfl
theorem known_ok : Ev (fun k => parallaxlaw10_known.f k) true := Ev.of parallaxlaw10_known.mono known_at
theorem known_fin : Ev (fun k => (parallaxlaw10_known.f k).bind fun t => some t) true := Ev.bind known_ok (Ev.now _)
theorem great_loop (l : List Cod) (hl : l.length ≤ 50) : ∀ (d i : Nat), i + d = l.length → ∃ r, Ev (fun k => parallaxlaw10_great.l0 k l (i : Int)) r := by
  intro d
  induction d with
  | zero =>
    intro i hi
    obtain rfl : i = l.length := by omega
    refine ⟨false, evs ?_⟩
    have c1 := ff (Int.lt_irrefl (l.length : Int))
    simp only [parallaxlaw10_great.l0, c1, if_false]
    exact Ev.now _
  | succ d ih =>
    intro i hi
    have c1 := tt (show (i : Int) < (l.length : Int) by omega)
    have c2 := tt (show (0 : Int) ≤ (i : Int) by omega)
    have ew : wrap64 ((i : Int) + 1) = ((i + 1 : Nat) : Int) := by rw [w64 (by omega) (by omega)]; rfl
    obtain ⟨r, hr⟩ := ih (i + 1) (by omega)
    by_cases g : (rd_T35 l (i : Int)).f1 > 300
    · by_cases g2 : (rd_T35 l (i : Int)).f1 ≤ 65536
      · refine ⟨true, evs ?_⟩
        simp only [parallaxlaw10_great.l0, c1, c2, if_true, tt g, tt g2]
        exact Ev.now _
      · refine ⟨r, evs ?_⟩
        simp only [parallaxlaw10_great.l0, c1, c2, if_true, tt g, ff g2, if_false, ew]
        exact hr
    · refine ⟨r, evs ?_⟩
      simp only [parallaxlaw10_great.l0, c1, c2, if_true, ff g, if_false, ew]
      exact hr
theorem great_ok (l : List Cod) (hl : l.length ≤ 10000000000000) (hb : ∀ x ∈ l, x.f0.length ≤ 1000000000000000) : ∃ r, Ev (fun k => parallaxlaw10_great.f k l) r := by
  have jt : Ev (fun k => parallaxlaw10_great.j0 k l true) true := evs (by simp only [parallaxlaw10_great.j0, if_true]; exact Ev.now _)
  unfold parallaxlaw10_great.f
  by_cases h : (l.length : Int) > 50
  · refine ⟨true, ?_⟩
    simp only [tt h, if_true]
    exact jt
  · obtain ⟨s, hs⟩ := Size_ok l hl hb 400 (by omega)
    simp only [ff h, if_false]
    by_cases h2 : s > 400
    · refine ⟨true, Ev.bind hs ?_⟩
      rw [decide_eq_true h2]
      exact jt
    · obtain ⟨r, hr⟩ := great_loop l (by omega) l.length 0 (by omega)
      refine ⟨r, Ev.bind hs (evs ?_)⟩
      rw [decide_eq_false h2]
      simp only [parallaxlaw10_great.j0, cff, if_false]
      exact hr
/-! Codes that are alike, but for their instructions. -/
structure Alike (l a : List Cod) : Prop where
  len : a.length = l.length
  f2 : ∀ i : Int, (rdC a i).f2 = (rdC l i).f2
  f3 : ∀ i : Int, (rdC a i).f3 = (rdC l i).f3
theorem made_alike {l a : List Cod} (hl : a.length = l.length) (h : ∀ q, q < l.length → Made l (rdC l q) (rdC a q)) : Alike l a := by
  have key : ∀ i : Int, (rdC a i).f2 = (rdC l i).f2 ∧ (rdC a i).f3 = (rdC l i).f3 := by
    intro i
    have e : ∀ b : List Cod, rdC b i = rdC b ((i.toNat : Nat) : Int) := fun b => by simp only [rdC, rd_T35, Int.toNat_natCast]
    rw [e a, e l]
    by_cases hi : i.toNat < l.length
    · exact ⟨(h _ hi).f2, (h _ hi).f3⟩
    · have z : ∀ b : List Cod, b.length = l.length → rdC b ((i.toNat : Nat) : Int) = z35 := fun b hb => by
        simp only [rdC, rd_T35, Int.toNat_natCast, List.getD_eq_getElem?_getD, List.getElem?_eq_none (show b.length ≤ i.toNat by omega), Option.getD_none]
      rw [z a hl, z l rfl]
      exact ⟨rfl, rfl⟩
  exact ⟨hl, fun i => (key i).1, fun i => (key i).2⟩
section
variable {l a : List Cod}
theorem alike_mv (h : Alike l a) : mv a = mv l := by
  funext x
  unfold mv
  rw [h.f3]
theorem alike_okH (h : Alike l a) : okH a = okH l := by
  funext x n
  unfold okH
  rw [alike_mv h]
theorem alike_may (h : Alike l a) {ins : List Ins} {cells : Int} {ans : Bool} {op f1 f2 : Int} (hm : May l ins cells ans op f1 f2) : May a ins cells ans op f1 f2 := by
  refine ⟨hm.1, ?_⟩
  have := hm.2
  unfold MayRest at this ⊢
  rw [h.len, h.f2]
  exact this
theorem alike_shape (h : Alike l a) {y : Cod} (hs : Shape l y) : Shape a y := ⟨hs.1, fun z hz => alike_may h (hs.2 z hz)⟩
theorem alike_R (h : Alike l a) {ins : List Ins} (hv : ∀ p, p < ins.length → Valid l.length ins.length (rdI ins p)) (hv' : ∀ p, p < ins.length → Valid a.length ins.length (rdI ins p)) {p : Nat} {n : Int} : (net a ins hv').R p n ↔ (net l ins hv).R p n := by
  have hd : ∀ p h0, (net a ins hv').d p h0 = (net l ins hv).d p h0 := fun p h0 => by simp only [net, alike_mv h]
  have ho : ∀ p h0, (net a ins hv').ok p h0 = (net l ins hv).ok p h0 := fun p h0 => by simp only [net, alike_okH h]
  constructor
  · intro hr
    induction hr with
    | zero => exact .zero
    | step hr hp hk hq ih => rw [hd]; exact .step ih hp (by rw [← ho]; exact hk) hq
  · intro hr
    induction hr with
    | zero => exact .zero
    | step hr hp hk hq ih => rw [← hd]; exact .step ih hp (by rw [ho]; exact hk) hq
theorem alike_good (h : Alike l a) {y : Cod} (G : Good l y) : Good a y := by
  refine ⟨alike_shape h G.shape, G.fit, ?_⟩
  rintro ⟨p, n, hr, hb⟩
  have R := fun {p n} => alike_R (p := p) (n := n) h (shape_valid G.shape) (shape_valid (alike_shape h G.shape))
  refine G.good ⟨p, n, R.1 hr, ?_⟩
  rcases hb with hb | hb | ⟨n', hr', hne⟩
  · exact .inl hb
  · refine .inr (.inl ?_)
    rw [← hb]
    simp only [net, alike_okH h]
  · exact .inr (.inr ⟨n', R.1 hr', hne⟩)
theorem good_tells {y : Cod} (G : Good l y) {t : List Int × Bool} (ht : HTells l y t) : t.2 = true ∧ t.1.length = y.f0.length ∧ ∀ p, p < y.f0.length → At (net l y.f0 (shape_valid G.shape)) p → 0 ≤ rd t.1 p := by
  rcases ht with ⟨h2, hs, hT, hW⟩ | ⟨rfl, hn⟩
  · refine ⟨h2, hT.len, fun p hp ⟨h, hr⟩ => ?_⟩
    have := Net.reach (N := net l y.f0 (shape_valid hs)) hs.1.1 hT hW hr
    omega
  · exfalso
    rcases hn with hn | ⟨hs, hb⟩
    · exact hn G.shape
    · exact G.good hb
end
/-- What is made short is sound. -/
theorem made_sound {l a : List Cod} {m : Int} (hs : SoundP l m) (hl : a.length = l.length) (h : ∀ q, q < l.length → Made l (rdC l q) (rdC a q)) : FitC a ∧ SoundP a m := by
  have A := made_alike hl h
  have fc : FitC a := fun x hx => by
    obtain ⟨q, hq, rfl⟩ := List.getElem_of_mem hx
    rw [← rdC_at a q hq]
    exact (h q (by omega)).good.fit
  refine ⟨fc, ⟨by rw [hl]; exact hs.1.1, by rw [hl]; exact hs.1.2.1, hs.1.2.2.1, by rw [hl]; exact hs.1.2.2.2.1, by rw [A.f2]; exact hs.1.2.2.2.2.1, by rw [A.f3]; exact hs.1.2.2.2.2.2⟩, fun k hk => ?_⟩
  obtain ⟨t, _, ht⟩ := Heights_ok a fc k hk
  exact ⟨t, ht, (good_tells (alike_good A (h k (by omega)).good) ht).1⟩
end Go.Proofs.YtmbjogpphegoaaaDoor.Q
end
section
/- What the row's condition says of the package's two tables: they lie as the text lays them. -/
namespace Go.Proofs.YtmbjogpphegoaaaDoor.Q
open Go.RowKit Go.Proofs.YtmbjogpphegoaaaDoorW.PrintWords Go.Proofs.YtmbjogpphegoaaaDoorW.PrintLast Go.Proofs.YtmbjogpphegoaaaDoorW.PrintMore Go.Proofs.YtmbjogpphegoaaaDoor.P

theorem trod_array {H : Type} {enc : TypeId × Value → H} {P : Program} {w : World} {base : Nat} {sp : Nat → Bool} {held : Bool} {fuel : Nat} {t e : TypeId} {n : Nat} {cs : List Value} {ds : List (DataW H)} {p : List MemPlace}
    (ht : P.underlying t = some (.array n e)) (h : DataW.trod enc P w base sp held fuel t cs = some (.agg ds, p)) :
    ∃ fuel', ∀ i, i < n → ∃ d q, ds[i]? = some d ∧ DataW.trod enc P w base sp held fuel' e ((cs.drop (i * P.cellsOf e)).take (P.cellsOf e)) = some (d, q) := by
  cases fuel with
  | zero => simp [DataW.trod] at h
  | succ fuel =>
    simp only [DataW.trod, ht] at h
    split at h
    · obtain ⟨xs, hm, hx⟩ := Option.map_eq_some_iff.1 h
      have hd : xs.map (·.1) = ds := by
        have := congrArg Prod.fst hx
        simpa using this
      refine ⟨fuel, fun i hi => ?_⟩
      obtain ⟨b, hb, hf⟩ := Go.Lib.mapM_at hm i i (by simp [hi])
      exact ⟨b.1, b.2, by rw [← hd]; simp [hb], hf⟩
    · cases h

theorem cell_one {cs : List Value} {i : Nat} {v : Value} (h : (cs.drop (i * 1)).take 1 = [v]) : cs[i]? = some v := by
  have := congrArg (·[0]?) h
  simpa [List.getElem?_take, List.getElem?_drop] using this

def wordsD : List (DataW Unit) := code_WORDS.map fun s => .lit (.string s.data.toList)
def stackD : List (DataW Unit) := (List.range 26).map fun i => .agg [.lit (.int .i64 (rd code_STACK ((2 * i : Nat) : Int))), .lit (.int .i64 (rd code_STACK ((2 * i + 1 : Nat) : Int)))]

set_option maxRecDepth 100000 in
theorem words_cells {W : World} {cs : List Value} {fuel : Nat} {p : List MemPlace} {t e : TypeId} (ht : Tryd.prog.underlying t = some (.array 26 e)) (he : Tryd.prog.underlying e = some .string) (hc : Tryd.prog.cellsOf e = 1)
    (h : DataW.trod (fun _ => ()) Tryd.prog W 0 (fun _ => true) false fuel t cs = some (.agg wordsD, p)) (i : Nat) (hi : i < 26) : cs[i]? = some (.string (rdOf ByteArray.empty code_WORDS (i : Int))) := by
  obtain ⟨f, hf⟩ := trod_array ht h
  obtain ⟨d, q, hd, hq⟩ := hf i hi
  rw [hc] at hq
  obtain ⟨s, hs, hx, _⟩ := DataW.trod_string he hq
  have e1 : d = .lit (.string s.data.toList) := congrArg Prod.fst hx
  have hl : i < code_WORDS.length := hi
  have e2 : d = .lit (.string (code_WORDS[i]).data.toList) := by
    have : wordsD[i]? = some (.lit (.string (code_WORDS[i]).data.toList)) := by simp [wordsD, hl]
    rw [this] at hd
    exact (Option.some.inj hd).symm
  rw [e1] at e2
  have e3 : s.data.toList = (code_WORDS[i]).data.toList := by injection e2 with e2; injection e2
  have e4 : s = code_WORDS[i] := by
    have := Array.toList_inj.1 e3
    cases s; cases h9 : code_WORDS[i]; simp_all
  rw [cell_one hs, e4]
  simp [rdOf, List.getD, hl]

set_option maxRecDepth 100000 in
theorem stack_cells {W : World} {cs : List Value} {fuel : Nat} {p : List MemPlace} {t e e2 : TypeId} (ht : Tryd.prog.underlying t = some (.array 26 e)) (he : Tryd.prog.underlying e = some (.array 2 e2)) (h2 : Tryd.prog.underlying e2 = some (.int .i64)) (hc : Tryd.prog.cellsOf e = 2) (hc2 : Tryd.prog.cellsOf e2 = 1)
    (h : DataW.trod (fun _ => ()) Tryd.prog W 0 (fun _ => true) false fuel t cs = some (.agg stackD, p)) (j : Nat) (hj : j < 52) : cs[j]? = some (.int .i64 (rd code_STACK (j : Int))) := by
  obtain ⟨f, hf⟩ := trod_array ht h
  obtain ⟨d, q, hd, hq⟩ := hf (j / 2) (by omega)
  rw [hc] at hq
  have e1 : d = .agg [.lit (.int .i64 (rd code_STACK ((2 * (j / 2) : Nat) : Int))), .lit (.int .i64 (rd code_STACK ((2 * (j / 2) + 1 : Nat) : Int)))] := by
    have hl : j / 2 < 26 := by omega
    simp only [stackD, List.getElem?_map, List.getElem?_range hl, Option.map_some] at hd
    exact (Option.some.inj hd).symm
  subst e1
  obtain ⟨f2, hf2⟩ := trod_array he hq
  obtain ⟨d2, q2, hd2, hq2⟩ := hf2 (j % 2) (by omega)
  rw [hc2] at hq2
  obtain ⟨n, hn, hx, _⟩ := DataW.trod_int h2 hq2
  have e3 : d2 = .lit (.int .i64 n) := congrArg Prod.fst hx
  have h9 := cell_one hn
  simp only [List.getElem?_take, List.getElem?_drop] at h9
  rw [if_pos (by omega), show j / 2 * 2 + j % 2 = j by omega] at h9
  rw [h9]
  congr 2
  rcases Nat.mod_two_eq_zero_or_one j with hm | hm
  · rw [hm] at hd2
    simp only [List.getElem?_cons_zero, Option.some.injEq] at hd2
    rw [e3] at hd2
    injection hd2 with hd2
    injection hd2 with _ hd2
    rw [← hd2]
    congr 2
    omega
  · rw [hm] at hd2
    simp only [List.getElem?_cons_succ, List.getElem?_cons_zero, Option.some.injEq] at hd2
    rw [e3] at hd2
    injection hd2 with hd2
    injection hd2 with _ hd2
    rw [← hd2]
    congr 2
    omega

theorem laid_of {W : World} (h : laidMet Tryd.prog [("parallax/code.words", Rows.laid_parallax_code_words), ("parallax/code.stack", Rows.laid_parallax_code_stack)] W) : Laid W := by
  obtain ⟨ps, ⟨g0, t0, cs0, f0, p0, q0, hg0, ht0, hv0, hd0, ⟨g1, t1, cs1, f1, p1, q1, hg1, ht1, hv1, hd1, hq1, e1⟩, e0⟩, hnd, hrows⟩ := h
  have n0 : Tryd.prog.globalNamed "parallax/code.words" = some 0 := by kernel_rfl
  have n1 : Tryd.prog.globalNamed "parallax/code.stack" = some 1 := by kernel_rfl
  have y0 : (Tryd.prog.globals[0]?).map (·.type) = some 152 := by kernel_rfl
  have y1 : (Tryd.prog.globals[1]?).map (·.type) = some 158 := by kernel_rfl
  obtain rfl := Option.some.inj (n0.symm.trans hg0)
  obtain rfl := Option.some.inj (n1.symm.trans hg1)
  obtain rfl := Option.some.inj (y0.symm.trans ht0)
  obtain rfl := Option.some.inj (y1.symm.trans ht1)
  have d0 : (Rows.laid_parallax_code_words : DataW Unit) = .agg wordsD := by kernel_rfl
  have d1 : (Rows.laid_parallax_code_stack : DataW Unit) = .agg stackD := by kernel_rfl
  rw [d0] at hd0
  rw [d1] at hd1
  refine ⟨fun i hi => ?_, fun i hi => ?_⟩
  · have := World.var?_cell n0 hv0 i
    rw [this, ← Array.getElem?_toList]
    exact words_cells (e := 9) (by kernel_rfl) (by kernel_rfl) (by kernel_rfl) hd0 i hi
  · have := World.var?_cell n1 hv1 i
    rw [this, ← Array.getElem?_toList]
    exact stack_cells (e := 157) (e2 := 3) (by kernel_rfl) (by kernel_rfl) (by kernel_rfl) (by kernel_rfl) (by kernel_rfl) hd1 i hi

/-! One world that fits. -/
noncomputable def laidWorld (os : Os) : World :=
  let w0 := World.holding Tryd.prog os ⟨#[], #[], []⟩
  { w0 with heap := (w0.heap.modify 0 fun
      | .cells _ t frozen => .cells (code_WORDS.map Value.string).toArray t frozen
      | o => o).modify 1 fun
      | .cells _ t frozen => .cells (code_STACK.map (Value.int .i64)).toArray t frozen
      | o => o }
theorem laidWorld_met (os : Os) (args : Array Value) : laidMet Tryd.prog [("parallax/code.words", Rows.laid_parallax_code_words), ("parallax/code.stack", Rows.laid_parallax_code_stack)] ((laidWorld os).forCall (fun _ _ => 0) ⟨#[], args, []⟩).memory :=
  laidMet_of_run' 8 (by kernel_rfl) (by kernel_rfl)
end Go.Proofs.YtmbjogpphegoaaaDoor.Q
end
section
/- How an argument that is read as data (a slice of texts, of structs, a struct) stands in the printed functions' words. -/
namespace Go.Proofs.YtmbjogpphegoaaaDoor.Q
set_option linter.unusedVariables false
set_option linter.unusedSimpArgs false
open Go.RowKit Go.Proofs.YtmbjogpphegoaaaDoorW.PrintWords Go.Proofs.YtmbjogpphegoaaaDoorW.PrintLast Go.Proofs.YtmbjogpphegoaaaDoorW.PrintMore

/-- Whatever cells are read as data of this type, and weigh no more than the reach, hold something of the kind, and something good. -/
def Opens {α : Type} (P : Program) (d : Kd α) (t : TypeId) (good : α → Prop) : Prop :=
  ∀ (H : Type) (enc : TypeId × Value → H) (w : World) (spare : Nat → Bool) (held : Bool) (fuel : Nat) (cs : List Value) (x : DataW H × List MemPlace),
    DataW.trod enc P w 0 spare held fuel t cs = some x → (∀ n ∈ DataW.weights P t x.1, n ≤ reachBytes) → ∃ v, d.K w v cs ∧ good v

theorem opens_int {P : Program} {t : TypeId} {k : IntKind} (ht : P.underlying t = some (.int k)) : Opens P (Kd.int k) t (fun n => (Lit.int k n).wf = true) := by
  intro H enc w spare held fuel cs x h hw
  obtain ⟨n, rfl, rfl, hn⟩ := DataW.trod_int ht h
  exact ⟨n, rfl, hn⟩
theorem opens_bool {P : Program} {t : TypeId} (ht : P.underlying t = some .bool) : Opens P Kd.bool t (fun _ => True) := by
  intro H enc w spare held fuel cs x h hw
  obtain ⟨n, rfl, rfl⟩ := DataW.trod_bool ht h
  exact ⟨n, rfl, trivial⟩
theorem cells_at {w : World} {base : Nat} {a : Addr} {n : Nat} {cs : List Value} (h : w.cells? base a n = some cs) : cs.length = n ∧ ∀ i u, cs[i]? = some u → w.cell? (a.add i) = some u := by
  refine ⟨?_, ?_⟩
  · unfold World.cells? at h
    split at h
    · simpa using mapM_some_length h
    · cases h
  · intro i u hi
    unfold World.cells? at h
    split at h
    · have hl : cs.length = n := by simpa using mapM_some_length h
      have hin : i < n := by
        rw [← hl]
        exact (List.getElem?_eq_some_iff.1 hi).1
      have := mapM_some_get h i i (by simp [hin])
      rw [hi] at this
      exact this
    · cases h
theorem opens_slice {α : Type} {P : Program} {d : Kd α} {t e : TypeId} {good : α → Prop} {B : Nat} (ht : P.underlying t = some (.slice e)) (hc : P.cellsOf e = d.sz) (hB : P.bytesOf e = B) (he : Opens P d e good) :
    Opens P (Kd.slice e d) t (fun xs => xs.length * B ≤ 140737488351232 ∧ ∀ x ∈ xs, good x) := by
  intro H enc w spare held fuel cs x h hw
  rcases DataW.trod_slice ht h with ⟨rfl, rfl⟩ | ⟨a, len, cap, elems, rest, n, rfl, rfl, rfl, hb, hl, hm, hel, hat, _, _⟩
  · exact ⟨[], ⟨none, 0, rfl, Nat.le_refl _, rfl, Nat.zero_le _, fun h => absurd h (Nat.lt_irrefl 0)⟩, by simp, fun x hx => by cases hx⟩
  · have hone : ∀ i, i < len → ∃ v c, c.length = d.sz ∧ d.K w v c ∧ good v ∧ ∀ j u, c[j]? = some u → w.cell? (a.add (i * d.sz + j)) = some u := by
      intro i hi
      have h1 := hat i hi
      rw [List.getElem?_eq_getElem (by omega)] at h1
      obtain ⟨c, hcc, hct⟩ := Option.bind_eq_some_iff.1 h1
      obtain ⟨cl, cat⟩ := cells_at hcc
      obtain ⟨v, hv, hg⟩ := he H enc w spare held n c _ hct (fun m hm2 => hw m (by
        simp only [DataW.weights, ht]
        refine List.mem_cons_of_mem _ (List.mem_append_left _ ?_)
        have : ∀ (l : List (DataW H)) (y : DataW H), y ∈ l → m ∈ DataW.weights P e y → m ∈ DataW.weightsAll P e l := by
          intro l
          induction l with
          | nil => intro y hy _; cases hy
          | cons z l ih =>
            intro y hy hmy
            simp only [DataW.weightsAll, List.mem_append]
            rcases List.mem_cons.1 hy with rfl | hy
            · exact .inl hmy
            · exact .inr (ih y hy hmy)
        exact this _ _ (List.mem_map.2 ⟨_, List.getElem_mem (h := by omega), rfl⟩) hm2))
      refine ⟨v, c, by rw [cl, hc], hv, hg, fun j u hj => ?_⟩
      have := cat j u hj
      rw [hc] at this
      rwa [Addr.add_add] at this
    have hall : ∀ m, m ≤ len → ∃ xs : List α, xs.length = m ∧ ∀ i v, xs[i]? = some v → good v ∧ ∃ c, c.length = d.sz ∧ d.K w v c ∧ ∀ j u, c[j]? = some u → w.cell? (a.add (i * d.sz + j)) = some u := by
      intro m
      induction m with
      | zero => intro _; exact ⟨[], rfl, fun i v hv => by simp at hv⟩
      | succ m ih =>
        intro hm2
        obtain ⟨xs, hx, hxs⟩ := ih (by omega)
        obtain ⟨v, c, c1, c2, c3, c4⟩ := hone m (by omega)
        refine ⟨xs ++ [v], by simp [hx], fun i u hu => ?_⟩
        rcases Nat.lt_or_ge i xs.length with hi | hi
        · rw [List.getElem?_append_left hi] at hu
          exact hxs i u hu
        · have : i = xs.length := by
            have := (List.getElem?_eq_some_iff.1 hu).1
            rw [List.length_append, List.length_singleton] at this
            omega
          subst this
          simp at hu
          subst hu
          rw [hx]
          exact ⟨c3, c, c1, c2, c4⟩
    obtain ⟨xs, hx, hxs⟩ := hall len (Nat.le_refl _)
    have hm9 : cap ≤ 9223372036854775807 := hm
    refine ⟨xs, ⟨some a, cap, by rw [hx], by rw [hx]; exact hl, rfl, by rw [hx]; omega, fun _ => ⟨a, rfl, fun j p hj => ?_⟩⟩, ?_, fun x hx2 => ?_⟩
    · obtain ⟨_, c, c1, c2, c4⟩ := hxs j p hj
      exact ⟨c, c1, c2, c4⟩
    · have := hw ((elems.map (·.1)).length + (rest.map (·.1)).length |> (· * P.bytesOf e)) (by
        simp only [DataW.weights, ht]
        exact List.mem_cons_self ..)
      rw [hB] at this
      rw [hx, ← hel]
      simp only [List.length_map] at this
      exact Nat.le_trans (Nat.mul_le_mul_right _ (Nat.le_add_right _ _)) this
    · obtain ⟨i, hi, rfl⟩ := List.mem_iff_getElem.1 hx2
      exact (hxs i _ (List.getElem?_eq_getElem hi)).1
/-- Fields that lie one behind the other, the first one at an offset. -/
def OpensF {α : Type} (P : Program) (d : Kd α) (fs : List Field) (off : Nat) (good : α → Prop) : Prop :=
  ∀ (H : Type) (enc : TypeId × Value → H) (w : World) (spare : Nat → Bool) (held : Bool) (n : Nat) (cs : List Value) (xs : List (DataW H × List MemPlace)),
    cs.length = off + d.sz → xs.length = fs.length → (∀ (i : Nat) (f : Field), fs[i]? = some f → DataW.trod enc P w 0 spare held n f.type ((cs.drop f.offset).take (P.cellsOf f.type)) = xs[i]?) →
    (∀ m ∈ DataW.weightsEach P (fs.map (·.type)) (xs.map (·.1)), m ≤ reachBytes) → ∃ v, d.K w v (cs.drop off) ∧ good v
theorem opensF_one {α : Type} {P : Program} {d : Kd α} {f : Field} {good : α → Prop} {off : Nat} (ho : f.offset = off) (hc : P.cellsOf f.type = d.sz) (h : Opens P d f.type good) : OpensF P d [f] off good := by
  intro H enc w spare held n cs xs hl hx hat hw
  have h0 := hat 0 f rfl
  have hx1 : xs.length = 1 := hx
  obtain ⟨x, rfl⟩ := List.length_eq_one_iff.1 hx1
  rw [ho, hc, List.take_of_length_le (by rw [List.length_drop]; omega)] at h0
  exact h H enc w spare held n _ x h0 (fun m hm => hw m (by simp only [List.map_cons, List.map_nil, DataW.weightsEach, List.append_nil]; exact hm))
theorem opensF_cons {α β : Type} {P : Program} {a : Kd α} {b : Kd β} {f : Field} {fs : List Field} {ga : α → Prop} {gb : β → Prop} {off : Nat} (ho : f.offset = off) (hc : P.cellsOf f.type = a.sz) (h : Opens P a f.type ga) (hs : OpensF P b fs (off + a.sz) gb) :
    OpensF P (Kd.pair a b) (f :: fs) off (fun x => ga x.1 ∧ gb x.2) := by
  intro H enc w spare held n cs xs hl hx hat hw
  have hsz : (Kd.pair a b).sz = a.sz + b.sz := rfl
  rw [hsz] at hl
  cases xs with
  | nil => simp at hx
  | cons x xs =>
    have h0 := hat 0 f rfl
    rw [ho, hc] at h0
    obtain ⟨v, hv, gv⟩ := h H enc w spare held n _ x h0 (fun m hm => hw m (by simp only [List.map_cons, DataW.weightsEach, List.mem_append]; exact .inl hm))
    obtain ⟨u, hu, gu⟩ := hs H enc w spare held n cs xs (by omega) (by simpa using hx) (fun i g hg => by simpa using hat (i + 1) g (by simpa using hg)) (fun m hm => hw m (by simp only [List.map_cons, DataW.weightsEach, List.mem_append]; exact .inr hm))
    refine ⟨(v, u), ⟨(cs.drop off).take a.sz, cs.drop (off + a.sz), ?_, hv, hu⟩, gv, gu⟩
    rw [← List.drop_drop, List.take_append_drop]
theorem opens_struct {α β : Type} {P : Program} {d : Kd α} {t : TypeId} {fs : Array Field} {good : α → Prop} {good' : β → Prop} (f : β → α) (g : α → β) (hfg : ∀ a, f (g a) = a) (ht : P.underlying t = some (.struct fs)) (hc : P.cellsOf t = d.sz) (h : OpensF P d fs.toList 0 good) (hg : ∀ a, good a → good' (g a)) :
    Opens P (Kd.iso d f) t good' := by
  intro H enc w spare held fuel cs x hh hw
  obtain ⟨xs, n, rfl, rfl, hl, hxl, hat⟩ := DataW.trod_struct ht hh
  obtain ⟨v, hv, gv⟩ := h H enc w spare held n cs xs (by omega) (by simpa using hxl) (fun i ff hf => hat i ff (by simpa using hf)) (fun m hm => hw m (by simp only [DataW.weights, ht]; exact hm))
  exact ⟨g v, by show d.K w (f (g v)) cs; rw [hfg]; exact hv, hg v gv⟩
/-- An argument's weights are among all. -/
theorem weights_at {H : Type} {P : Program} {ts : List TypeId} {ds : List (DataW H)} (h : (DataW.weightsEach P ts ds).all (· ≤ reachBytes) = true) {j : Nat} {t : TypeId} {d : DataW H} (ht : ts[j]? = some t) (hd : ds[j]? = some d) : ∀ n ∈ DataW.weights P t d, n ≤ reachBytes := by
  intro n hn
  have := List.all_eq_true.1 h n (DataW.weights_mem_each ht hd n hn)
  simpa using this
/-- A slice that came in. -/
theorem open_slice_arg {α : Type} {P : Program} {d : Kd α} {t e : TypeId} {good : List α → Prop} (ho : Opens P (Kd.slice e d) t good) {H : Type} {enc : TypeId × Value → H} {W : World} {spare : Nat → Bool} {held : Bool} {a : Option Addr} {len cap : Nat} {dd : DataW H} {ps : List MemPlace}
    (h : DataW.Trod enc P W 0 spare held t (.slice a len cap) dd ps) (hw : ∀ n ∈ DataW.weights P t dd, n ≤ reachBytes) : ∃ xs : List α, len = xs.length ∧ good xs ∧ xs.length ≤ cap ∧ d.C W a xs.length xs := by
  obtain ⟨fuel, hf⟩ := h
  obtain ⟨xs, ⟨A, c, hcs, hl, hr⟩, hg⟩ := ho H enc W spare held fuel _ _ hf hw
  simp [Value.cells] at hcs
  obtain ⟨rfl, rfl, rfl⟩ := hcs
  exact ⟨xs, rfl, hg, hl, hr⟩
end Go.Proofs.YtmbjogpphegoaaaDoor.Q
end
