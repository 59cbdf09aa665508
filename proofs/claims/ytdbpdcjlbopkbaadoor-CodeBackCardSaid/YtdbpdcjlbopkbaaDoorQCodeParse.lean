/- A line's instruction: both programs find the same, and it is the instruction whose line it is. -/
import Derived.Test.YtdbpdcjlbopkbaaDoorPx12
import Derived.Test.YtdbpdcjlbopkbaaDoorPx14
import Derived.Test.YtdbpdcjlbopkbaaDoorPx2
import Derived.Test.YtdbpdcjlbopkbaaDoorPx5
import Derived.Test.YtdbpdcjlbopkbaaDoorQCode
-- use: QCode
namespace Go.Proofs.YtdbpdcjlbopkbaaDoor.Q
set_option linter.unusedVariables false
set_option linter.unusedSimpArgs false
open Go.RowKit Go.Proofs.YtdbpdcjlbopkbaaDoorW.PrintWords Go.Proofs.YtdbpdcjlbopkbaaDoorW.PrintLast Go.Proofs.YtdbpdcjlbopkbaaDoorW.PrintMore Go.Proofs.YtdbpdcjlbopkbaaDoor.P

def opL (l : List ByteArray) : Int := code_Parse.l0 l 26 0 0
theorem l0_inv (l : List ByteArray) : ∀ (k x : Nat) (op : Int), x + k ≤ 26 → (op = 0 ∨ 1 ≤ op ∧ op ≤ 25 ∧ 0 < l.length ∧ rdOf ByteArray.empty l 0 = rdOf ByteArray.empty code_WORDS op) →
    code_Parse.l0 l k x op = 0 ∨ 1 ≤ code_Parse.l0 l k x op ∧ code_Parse.l0 l k x op ≤ 25 ∧ 0 < l.length ∧ rdOf ByteArray.empty l 0 = rdOf ByteArray.empty code_WORDS (code_Parse.l0 l k x op) := by
  intro k
  induction k with
  | zero => intro x op _ h; exact h
  | succ k ih =>
    intro x op hx h
    unfold code_Parse.l0
    refine ih (x + 1) _ (by omega) ?_
    split
    · split
      · split
        · rename_i h1 h2 h3
          exact .inr ⟨by omega, by omega, by omega, (toList_iff _ _).1 h3⟩
        · exact h
      · exact h
    · exact h
theorem opL_inv (l : List ByteArray) : opL l = 0 ∨ 1 ≤ opL l ∧ opL l ≤ 25 ∧ 0 < l.length ∧ rdOf ByteArray.empty l 0 = rdOf ByteArray.empty code_WORDS (opL l) := l0_inv l 26 0 0 (by omega) (.inl rfl)
theorem words_differ : ∀ i j : Fin 26, (rdOf ByteArray.empty code_WORDS ((i.val : Nat) : Int)).toList = (rdOf ByteArray.empty code_WORDS ((j.val : Nat) : Int)).toList → i = j := by decide +kernel
theorem l0_find (l : List ByteArray) (o : Nat) (h0 : 1 ≤ o) (h1 : o ≤ 25) (hl : 0 < l.length) (hw : rdOf ByteArray.empty l 0 = rdOf ByteArray.empty code_WORDS (o : Int)) :
    ∀ (k x : Nat) (op : Int), x + k ≤ 26 → (x ≤ o ∧ o < x + k ∨ op = o) → code_Parse.l0 l k x op = o := by
  intro k
  induction k with
  | zero =>
    intro x op _ h
    rcases h with h | h
    · omega
    · exact h
  | succ k ih =>
    intro x op hx h
    unfold code_Parse.l0
    refine ih (x + 1) _ (by omega) ?_
    by_cases e : x = o
    · right
      subst e
      rw [if_pos (by omega), if_pos (by omega), if_pos ((toList_iff _ _).2 hw)]
    · have ne : ¬ (rdOf ByteArray.empty l 0).toList = (rdOf ByteArray.empty code_WORDS (x : Int)).toList := by
        rw [hw]
        intro h9
        have := words_differ ⟨o, by omega⟩ ⟨x, by omega⟩ h9
        exact e (by simpa using (congrArg Fin.val this).symm)
      rw [if_neg ne]
      rcases h with h | h
      · left; omega
      · right; simp [h]
theorem opL_find (l : List ByteArray) (o : Int) (h0 : 1 ≤ o) (h1 : o ≤ 25) (hl : 0 < l.length) (hw : rdOf ByteArray.empty l 0 = rdOf ByteArray.empty code_WORDS o) : opL l = o := by
  obtain ⟨n, rfl⟩ : ∃ n : Nat, o = n := ⟨o.toNat, by omega⟩
  exact l0_find l n (by omega) (by omega) hl hw 26 0 0 (by omega) (.inl (by omega))

/-- What the program says of a line's words. -/
def PC (l : List ByteArray) : Int × Int × Int × Int :=
  if opL l = 0 then (0, 0, 0, 61) else if (l.length : Int) = 1 + nm (opL l) then
    if 1 < l.length then if (P (bytesOf (rdOf ByteArray.empty l 1))).2 = 0 then
      if 2 < l.length then if (P (bytesOf (rdOf ByteArray.empty l 2))).2 = 0 then (opL l, (P (bytesOf (rdOf ByteArray.empty l 1))).1, (P (bytesOf (rdOf ByteArray.empty l 2))).1, 0) else (0, 0, 0, 61)
      else (opL l, (P (bytesOf (rdOf ByteArray.empty l 1))).1, 0, 0) else (0, 0, 0, 61)
    else (opL l, 0, 0, 0)
  else (0, 0, 0, 61)
def lineOf (s : ByteArray) : List ByteArray := (wordsL (bytesOf s)).map strOfNums
theorem tl_mem : ∀ (l : List (List Int)) (w : List Int), w ∈ l → w.length ≤ tl l
  | x :: l, w, h => by
    simp only [tl]
    rcases List.mem_cons.1 h with rfl | h
    · omega
    · have := tl_mem l w h; omega
theorem word_size (s : ByteArray) (hs : s.size ≤ 8000000000000) (i : Int) : (rdOf ByteArray.empty (lineOf s) i).size ≤ 140737488351232 := by
  unfold rdOf
  rw [List.getD_eq_getElem?_getD]
  cases h : (lineOf s)[i.toNat]? with
  | none => simp
  | some x =>
    have hx : x ∈ lineOf s := List.mem_of_getElem? h
    obtain ⟨w, hw, rfl⟩ := List.mem_map.1 hx
    have h1 := tl_mem _ _ hw
    have h2 := words_tl (bytesOf s)
    have h3 := bytesOf_length s
    simp only [Option.getD_some, strOfNums_size]
    omega
theorem Parse08_ok (s : ByteArray) (hs : s.size ≤ 8000000000000) : Ev (fun k => code_Parse.f k s) (PC (lineOf s)) := by
  unfold code_Parse.f
  refine Ev.bind (Words_ok s hs) ?_
  show Ev (fun k => _) (PC (lineOf s))
  rw [show (wordsL (bytesOf s)).map strOfNums = lineOf s from rfl]
  have p1 := Parse_ok (rdOf ByteArray.empty (lineOf s) 1) (word_size s hs 1)
  have p2 := Parse_ok (rdOf ByteArray.empty (lineOf s) 2) (word_size s hs 2)
  unfold PC
  have hi := opL_inv (lineOf s)
  rw [show code_Parse.l0 (lineOf s) 26 0 0 = opL (lineOf s) from rfl]
  generalize opL (lineOf s) = op at hi ⊢
  generalize lineOf s = l at p1 p2 hi ⊢
  by_cases h0 : op = 0
  · simp only [tt h0, if_true]; exact Ev.now _
  obtain ⟨o1, o2, _, _⟩ := hi.resolve_left h0
  simp only [ff h0, if_false]
  refine Ev.bind (numbers_ok o1 o2) ?_
  have hw : wrap64 (1 + nm op) = 1 + nm op := by
    rcases nm_or o1 o2 with h | h | h <;> rw [h] <;> exact w64 (by decide) (by decide)
  simp only [hw]
  by_cases h1 : (l.length : Int) = 1 + nm op
  · simp only [tt h1, if_true]
    by_cases h2 : 1 < l.length
    · simp only [tt h2, tt (show (1 : Int) < (l.length : Int) by omega), if_true]
      refine Ev.bind p1 ?_
      by_cases h3 : (P (bytesOf (rdOf ByteArray.empty l 1))).2 = 0
      · simp only [tt h3, if_true]
        by_cases h4 : 2 < l.length
        · have h4' := tt (show (2 : Int) < (l.length : Int) by omega)
          simp only [tt h4, h4', if_true]
          refine Ev.bind p2 ?_
          by_cases h5 : (P (bytesOf (rdOf ByteArray.empty l 2))).2 = 0
          · simp only [tt h5, if_true]; exact Ev.now _
          · simp only [ff h5, if_false]; exact Ev.now _
        · have h4' := ff (show ¬ (2 : Int) < (l.length : Int) by omega)
          simp only [ff h4, h4', if_false]; exact Ev.now _
      · simp only [ff h3, if_false]; exact Ev.now _
    · have h2' := ff (show ¬ (1 : Int) < (l.length : Int) by omega)
      simp only [ff h2, h2', if_false]; exact Ev.now _
  · simp only [ff h1, if_false]; exact Ev.now _

/-- The words of an instruction's line. -/
def WX (op n m : Int) : List (List Int) := if nm op < 1 then [wd op] else if nm op < 2 then [wd op, T n] else [wd op, T n, T m]
theorem T_no32 (a : Int) (h0 : -9223372036854775808 ≤ a) (h1 : a ≤ 9223372036854775807) : ∀ c ∈ T a, c ≠ 32 := by
  obtain ⟨ds, ⟨d1, _, _⟩, _, _, e⟩ := T_form a h0 h1
  intro c hc
  rw [e] at hc
  have hd : ∀ c ∈ ds, c ≠ 32 := fun c h => by obtain ⟨h1, h2⟩ := d1 c h; omega
  split at hc
  · rcases List.mem_cons.1 hc with rfl | hc
    · decide
    · exact hd c hc
  · exact hd c hc
theorem WX_words (op n m : Int) (h0 : 1 ≤ op) (h1 : op ≤ 25) (n0 : -9223372036854775808 ≤ n) (n1 : n ≤ 9223372036854775807) (m0 : -9223372036854775808 ≤ m) (m1 : m ≤ 9223372036854775807) : wordsL (jn false (WX op n m)) = WX op n m := by
  obtain ⟨_, hn, h32⟩ := wd_len h0 h1
  have t1 := T_no32 n n0 n1
  have t2 := T_no32 m m0 m1
  refine words_jn _ ?_ ?_ ?_
  · unfold WX
    split
    · intro w hw; simp at hw; subst hw; exact h32
    · split
      · intro w hw
        rcases List.mem_cons.1 hw with rfl | hw
        · exact h32
        · simp at hw; subst hw; exact t1
      · intro w hw
        rcases List.mem_cons.1 hw with rfl | hw
        · exact h32
        · rcases List.mem_cons.1 hw with rfl | hw
          · exact t1
          · simp at hw; subst hw; exact t2
  · unfold WX; split
    · simp
    · split <;> simp
  · unfold WX; split
    · simpa using hn
    · split <;> simp
theorem WX_byte (op n m : Int) (n0 : -9223372036854775808 ≤ n) (n1 : n ≤ 9223372036854775807) (m0 : -9223372036854775808 ≤ m) (m1 : m ≤ 9223372036854775807) : ∀ w ∈ WX op n m, ∀ c ∈ w, Byte c := by
  have t1 := T_byte n n0 n1
  have t2 := T_byte m m0 m1
  have h32 := wd_byte op
  unfold WX
  split
  · intro w hw; simp at hw; subst hw; exact h32
  · split
    · intro w hw
      rcases List.mem_cons.1 hw with rfl | hw
      · exact h32
      · simp at hw; subst hw; exact t1
    · intro w hw
      rcases List.mem_cons.1 hw with rfl | hw
      · exact h32
      · rcases List.mem_cons.1 hw with rfl | hw
        · exact t1
        · simp at hw; subst hw; exact t2
/-- Whether an instruction has a line. -/
def Fine (op n m : Int) : Prop := (1 ≤ op ∧ op ≤ 25) ∧ (nm op < 1 → n = 0) ∧ (nm op < 2 → m = 0)
theorem TX_fine {op n m : Int} (h : Fine op n m) : TX op n m = (strOfNums (jn false (WX op n m)), 0) := by
  obtain ⟨⟨h0, h1⟩, h2, h3⟩ := h
  unfold TX WX
  rw [if_neg (by omega), if_neg (by
    rintro (⟨a, b⟩ | ⟨a, b⟩)
    · exact b (h2 a)
    · exact b (h3 a))]
  split
  · simp [jn]
  · split <;> simp [jn]
theorem TX_not {op n m : Int} (h : ¬ Fine op n m) : TX op n m = (⟨#[]⟩, 61) := by
  unfold TX
  by_cases h0 : op < 1 ∨ 25 < op
  · rw [if_pos h0]
  rw [if_neg h0]
  by_cases h1 : nm op < 1 ∧ n ≠ 0 ∨ nm op < 2 ∧ m ≠ 0
  · rw [if_pos h1]
  refine absurd ⟨by omega, fun h2 => ?_, fun h2 => ?_⟩ h
  · by_cases e : n = 0
    · exact e
    · exact absurd (.inl ⟨h2, e⟩) h1
  · by_cases e : m = 0
    · exact e
    · exact absurd (.inr ⟨h2, e⟩) h1
instance (op n m : Int) : Decidable (Fine op n m) := by unfold Fine; exact inferInstance
theorem fine_line {op n m : Int} (h : Fine op n m) (n0 : -9223372036854775808 ≤ n) (n1 : n ≤ 9223372036854775807) (m0 : -9223372036854775808 ≤ m) (m1 : m ≤ 9223372036854775807) (s : ByteArray) :
    strOfNums (jn false (WX op n m)) = s ↔ wordsL (bytesOf s) = WX op n m := by
  have hb := jn_byte false _ (WX_byte op n m n0 n1 m0 m1)
  constructor
  · rintro rfl
    rw [bytesOf_strOfNums hb]
    exact WX_words op n m h.1.1 h.1.2 n0 n1 m0 m1
  · intro e
    rw [← e, jn_words, strOfNums_bytesOf]
theorem get_map (L : List (List Int)) (hb : ∀ w ∈ L, ∀ c ∈ w, Byte c) (i : Nat) : bytesOf (rdOf ByteArray.empty (L.map strOfNums) (i : Int)) = L.getD i [] := by
  unfold rdOf
  simp only [Int.toNat_natCast, List.getD_eq_getElem?_getD, List.getElem?_map]
  cases h : L[i]? with
  | none => rfl
  | some w =>
    simp only [Option.map_some, Option.getD_some]
    exact bytesOf_strOfNums (hb w (List.mem_of_getElem? h))
theorem P_line {l : List Int} (h : (P l).2 = 0) : T (P l).1 = l := by
  rcases P_or l with ⟨a, h0, h1, rfl⟩ | hP
  · rw [P_T a h0 h1]
  · rw [hP] at h; exact absurd h (by decide)
theorem PC_fine (s : ByteArray) (op n m : Int) (n0 : -9223372036854775808 ≤ n) (n1 : n ≤ 9223372036854775807) (m0 : -9223372036854775808 ≤ m) (m1 : m ≤ 9223372036854775807) (h : Fine op n m) (hL : wordsL (bytesOf s) = WX op n m) : PC (lineOf s) = (op, n, m, 0) := by
  have hb := WX_byte op n m n0 n1 m0 m1
  have g := get_map _ hb
  have hl : lineOf s = (WX op n m).map strOfNums := by unfold lineOf; rw [hL]
  rw [hl]
  obtain ⟨⟨h0, h1⟩, h2, h3⟩ := h
  have len : ((WX op n m).map strOfNums).length = 1 + (nm op).toNat := by
    unfold WX
    rcases nm_or h0 h1 with e | e | e <;> rw [e] <;> rfl
  have ho : opL ((WX op n m).map strOfNums) = op := by
    refine opL_find _ op h0 h1 (by omega) ?_
    apply bytesOf_inj
    have g0 := g 0
    rw [show ((0 : Nat) : Int) = 0 from rfl] at g0
    rw [g0]
    unfold WX
    rcases nm_or h0 h1 with e | e | e <;> rw [e] <;> rfl
  unfold PC
  rw [ho]
  have g1 := g 1
  have g2 := g 2
  rw [show ((1 : Nat) : Int) = 1 from rfl] at g1
  rw [show ((2 : Nat) : Int) = 2 from rfl] at g2
  rw [if_neg (by omega), if_pos (by rw [len]; rcases nm_or h0 h1 with e | e | e <;> rw [e] <;> rfl), g1, g2, len]
  have pn := P_T n n0 n1
  have pm := P_T m m0 m1
  rcases nm_or h0 h1 with e | e | e
  · rw [if_neg (by rw [e]; decide), h2 (by rw [e]; decide), h3 (by rw [e]; decide)]
  · have w1 : (WX op n m).getD 1 [] = T n := by unfold WX; rw [e]; rfl
    rw [w1, pn, if_pos (by rw [e]; decide), if_pos rfl, if_neg (by rw [e]; decide), h3 (by rw [e]; decide)]
  · have w1 : (WX op n m).getD 1 [] = T n := by unfold WX; rw [e]; rfl
    have w2 : (WX op n m).getD 2 [] = T m := by unfold WX; rw [e]; rfl
    rw [w1, w2, pn, pm, if_pos (by rw [e]; decide), if_pos rfl, if_pos (by rw [e]; decide), if_pos rfl]
theorem len2 {L : List (List Int)} (h : L.length = 2) : ∃ a b, L = [a, b] := by
  rcases L with _ | ⟨a, _ | ⟨b, _ | ⟨c, L⟩⟩⟩ <;> simp at h
  exact ⟨a, b, rfl⟩
theorem len3 {L : List (List Int)} (h : L.length = 3) : ∃ a b c, L = [a, b, c] := by
  rcases L with _ | ⟨a, _ | ⟨b, _ | ⟨c, _ | ⟨d, L⟩⟩⟩⟩ <;> simp at h
  exact ⟨a, b, c, rfl⟩
/-- What is found is the instruction whose line it is; or nothing is found. -/
theorem PC_or (s : ByteArray) : (∃ op n m, -9223372036854775808 ≤ n ∧ n ≤ 9223372036854775807 ∧ -9223372036854775808 ≤ m ∧ m ≤ 9223372036854775807 ∧ Fine op n m ∧ wordsL (bytesOf s) = WX op n m ∧ PC (lineOf s) = (op, n, m, 0)) ∨ PC (lineOf s) = (0, 0, 0, 61) := by
  have hb := words_byte s
  have g := get_map _ hb
  have hi := opL_inv (lineOf s)
  have hp : ∀ op n m, -9223372036854775808 ≤ n → n ≤ 9223372036854775807 → -9223372036854775808 ≤ m → m ≤ 9223372036854775807 → Fine op n m → wordsL (bytesOf s) = WX op n m → (∃ op n m, -9223372036854775808 ≤ n ∧ n ≤ 9223372036854775807 ∧ -9223372036854775808 ≤ m ∧ m ≤ 9223372036854775807 ∧ Fine op n m ∧ wordsL (bytesOf s) = WX op n m ∧ PC (lineOf s) = (op, n, m, 0)) :=
    fun op n m a b c d e f => ⟨op, n, m, a, b, c, d, e, f, PC_fine s op n m a b c d e f⟩
  have hlen : (lineOf s).length = (wordsL (bytesOf s)).length := by unfold lineOf; rw [List.length_map]
  by_cases h0 : opL (lineOf s) = 0
  · right; unfold PC; rw [if_pos h0]
  obtain ⟨o1, o2, o3, o4⟩ := hi.resolve_left h0
  by_cases h1 : ((lineOf s).length : Int) = 1 + nm (opL (lineOf s))
  · have b1 : bytesOf (rdOf ByteArray.empty (lineOf s) 1) = (wordsL (bytesOf s)).getD 1 [] := g 1
    have b2 : bytesOf (rdOf ByteArray.empty (lineOf s) 2) = (wordsL (bytesOf s)).getD 2 [] := g 2
    have b0 : bytesOf (rdOf ByteArray.empty (lineOf s) 0) = (wordsL (bytesOf s)).getD 0 [] := g 0
    rw [o4] at b0
    have b0' : (wordsL (bytesOf s)).getD 0 [] = wd (opL (lineOf s)) := b0.symm
    unfold PC at hp ⊢
    rw [if_neg h0, if_pos h1] at hp ⊢
    rw [b1, b2] at hp ⊢
    rw [hlen] at h1 hp ⊢
    generalize opL (lineOf s) = op at h0 h1 o1 o2 b0' hp ⊢
    generalize wordsL (bytesOf s) = L at h1 b0' hp ⊢
    rcases nm_or o1 o2 with e | e | e
    · left
      rw [e] at h1
      obtain ⟨a, rfl⟩ : ∃ a, L = [a] := List.length_eq_one_iff.1 (by omega)
      refine hp op 0 0 (by decide) (by decide) (by decide) (by decide) ⟨⟨o1, o2⟩, fun _ => rfl, fun _ => rfl⟩ ?_
      unfold WX
      rw [if_pos (by omega)]
      simpa using b0'
    · rw [e] at h1
      obtain ⟨a, b, rfl⟩ : ∃ a b, L = [a, b] := len2 (by omega)
      have r := P_range b
      by_cases hb : (P b).2 = 0
      · left
        refine hp op (P b).1 0 r.1 r.2 (by decide) (by decide) ⟨⟨o1, o2⟩, fun h => by omega, fun _ => rfl⟩ ?_
        unfold WX
        rw [if_neg (by omega), if_pos (by omega), P_line hb]
        simpa using b0'
      · right
        rw [if_pos (by simp), if_neg (by simpa using hb)]
    · rw [e] at h1
      obtain ⟨a, b, c, rfl⟩ : ∃ a b c, L = [a, b, c] := len3 (by omega)
      have r := P_range b
      have r2 := P_range c
      by_cases hb : (P b).2 = 0
      · by_cases hc : (P c).2 = 0
        · left
          refine hp op (P b).1 (P c).1 r.1 r.2 r2.1 r2.2 ⟨⟨o1, o2⟩, fun h => by omega, fun h => by omega⟩ ?_
          unfold WX
          rw [if_neg (by omega), if_neg (by omega), P_line hb, P_line hc]
          simpa using b0'
        · right
          rw [if_pos (by simp), if_pos (by simpa using hb), if_pos (by simp), if_neg (by simpa using hc)]
      · right
        rw [if_pos (by simp), if_neg (by simpa using hb)]
  · right; unfold PC; rw [if_neg h0, if_neg h1]

def RT (s : ByteArray) (o n m : Int) : Int × Int × Int × Int := if (TX o n m).2 = 0 then if (TX o n m).1 = s then (o, n, m, 0) else (0, 0, 0, 61) else (0, 0, 0, 61)
theorem RT_ok (s : ByteArray) (o n m : Int) (n0 : -9223372036854775808 ≤ n) (n1 : n ≤ 9223372036854775807) (m0 : -9223372036854775808 ≤ m) (m1 : m ≤ 9223372036854775807) :
    Ev (fun k => (parallaxref08_Text.f k o n m).bind fun t => if t.2 = 0 then (if t.1.toList = s.toList then some (o, n, m, 0) else some (0, 0, 0, 61)) else some (0, 0, 0, 61)) (RT s o n m) := by
  refine Ev.bind (refText08_ok o n m n0 n1 m0 m1) ?_
  unfold RT
  by_cases h : (TX o n m).2 = 0
  · simp only [tt h, if_true]
    by_cases h2 : (TX o n m).1 = s
    · simp only [tt h2, tt ((toList_iff _ _).2 h2), if_true]; exact Ev.now _
    · simp only [ff h2, ff (fun h => h2 ((toList_iff _ _).1 h)), if_false]; exact Ev.now _
  · simp only [ff h, if_false]; exact Ev.now _
def RP (s : ByteArray) (l : List ByteArray) (o : Int) : Int × Int × Int × Int :=
  RT s o (if 1 < l.length then (P (bytesOf (rdOf ByteArray.empty l 1))).1 else 0) (if 2 < l.length then (P (bytesOf (rdOf ByteArray.empty l 2))).1 else 0)
theorem refj1_08 (s : ByteArray) (l : List ByteArray) (o n : Int) (n0 : -9223372036854775808 ≤ n) (n1 : n ≤ 9223372036854775807) (hs : ∀ i, (rdOf ByteArray.empty l i).size ≤ 140737488351232) :
    Ev (fun k => parallaxref08_Parse.j1 k s l o n 0) (RT s o n (if 2 < l.length then (P (bytesOf (rdOf ByteArray.empty l 2))).1 else 0)) := by
  refine evs ?_
  by_cases h : 2 < l.length
  · have c1 := tt (show (l.length : Int) > 2 by omega)
    have c2 := tt (show (2 : Int) < (l.length : Int) by omega)
    have r := P_range (bytesOf (rdOf ByteArray.empty l 2))
    simp only [parallaxref08_Parse.j1, c1, c2, tt h, if_true]
    exact Ev.bind (refParse_ok _ (hs 2)) (RT_ok s o n _ n0 n1 r.1 r.2)
  · have c1 := ff (show ¬ (l.length : Int) > 2 by omega)
    simp only [parallaxref08_Parse.j1, c1, ff h, if_false]
    exact RT_ok s o n 0 n0 n1 (by decide) (by decide)
theorem refl0_08 (s : ByteArray) (l : List ByteArray) (hs : ∀ i, (rdOf ByteArray.empty l i).size ≤ 140737488351232) : ∀ (d x : Nat) (o : Int), x + d = 26 → 1 ≤ x →
    Ev (fun k => parallaxref08_Parse.l0 k s l x o 0 0) (RP s l (code_Parse.l0 l d x o)) := by
  intro d
  induction d with
  | zero =>
    intro x o hx h1
    obtain rfl : x = 26 := by omega
    refine evs ?_
    have c1 := ff (show ¬ ((26 : Nat) : Int) ≤ 25 by decide)
    simp only [parallaxref08_Parse.l0, c1, if_false]
    unfold RP
    by_cases h : 1 < l.length
    · have c1 := tt (show (l.length : Int) > 1 by omega)
      have c2 := tt (show (1 : Int) < (l.length : Int) by omega)
      have r := P_range (bytesOf (rdOf ByteArray.empty l 1))
      simp only [c1, c2, tt h, if_true]
      exact Ev.bind (refParse_ok _ (hs 1)) (refj1_08 s l o _ r.1 r.2 hs)
    · have c1 := ff (show ¬ (l.length : Int) > 1 by omega)
      simp only [c1, ff h, if_false]
      exact refj1_08 s l o 0 (by decide) (by decide) hs
  | succ d ih =>
    intro x o hx h1
    have c1 := tt (show (x : Int) ≤ 25 by omega)
    have b1 : x + 1 ≤ 1000000000000 := by omega
    have hOf := Of_ok (op := (x : Int)) (by omega) (by omega)
    refine evs ?_
    simp only [parallaxref08_Parse.l0, c1, if_true, hOf, Option.bind_some, wsucc b1]
    unfold code_Parse.l0
    rw [if_pos (show 0 < x by omega)]
    by_cases h : 0 < l.length
    · have d1 := tt (show (l.length : Int) > 0 by omega)
      have d2 := tt (show (0 : Int) < (l.length : Int) by omega)
      rw [if_pos (show (0 : Int) < (l.length : Int) by omega)]
      by_cases e : (rdOf ByteArray.empty l 0).toList = (rdOf ByteArray.empty code_WORDS (x : Int)).toList
      · rw [if_pos e]
        simp only [d1, d2, if_true, tt e.symm]
        exact ih (x + 1) x (by omega) (by omega)
      · rw [if_neg e]
        simp only [d1, d2, if_true, if_false, ff (Ne.symm e)]
        exact ih (x + 1) o (by omega) (by omega)
    · have d1 := ff (show ¬ (l.length : Int) > 0 by omega)
      rw [if_neg (show ¬ (0 : Int) < (l.length : Int) by omega)]
      simp only [d1, if_false]
      exact ih (x + 1) o (by omega) (by omega)
theorem RP_PC (s : ByteArray) : RP s (lineOf s) (opL (lineOf s)) = PC (lineOf s) := by
  have hb := words_byte s
  have g := get_map _ hb
  have hlen : (lineOf s).length = (wordsL (bytesOf s)).length := by unfold lineOf; rw [List.length_map]
  rcases PC_or s with ⟨op, n, m, n0, n1, m0, m1, hf, hL, hP⟩ | hP
  · rw [hP]
    have ho : opL (lineOf s) = op := by
      have h9 := hP
      unfold PC at h9
      repeat' split at h9
      all_goals first
        | exact (Prod.mk.inj h9).1
        | (have := (Prod.mk.inj (Prod.mk.inj (Prod.mk.inj h9).2).2).2; exact absurd this (by decide))
    have b1 : bytesOf (rdOf ByteArray.empty (lineOf s) 1) = (WX op n m).getD 1 [] := by rw [← hL]; exact g 1
    have b2 : bytesOf (rdOf ByteArray.empty (lineOf s) 2) = (WX op n m).getD 2 [] := by rw [← hL]; exact g 2
    rw [hL] at hlen
    unfold RP RT
    rw [ho, b1, b2, hlen]
    obtain ⟨⟨h0, h1⟩, h2, h3⟩ := id hf
    have pn := P_T n n0 n1
    have pm := P_T m m0 m1
    have key : (if 1 < (WX op n m).length then (P ((WX op n m).getD 1 [])).1 else 0) = n ∧ (if 2 < (WX op n m).length then (P ((WX op n m).getD 2 [])).1 else 0) = m := by
      rcases nm_or h0 h1 with e | e | e
      · unfold WX
        rw [e]
        exact ⟨(h2 (by rw [e]; decide)).symm, (h3 (by rw [e]; decide)).symm⟩
      · have w1 : (WX op n m).getD 1 [] = T n := by unfold WX; rw [e]; rfl
        rw [w1, pn]
        unfold WX
        rw [e]
        exact ⟨rfl, (h3 (by rw [e]; decide)).symm⟩
      · have w1 : (WX op n m).getD 1 [] = T n := by unfold WX; rw [e]; rfl
        have w2 : (WX op n m).getD 2 [] = T m := by unfold WX; rw [e]; rfl
        rw [w1, w2, pn, pm]
        unfold WX
        rw [e]
        exact ⟨rfl, rfl⟩
    rw [key.1, key.2, TX_fine hf, if_pos rfl, if_pos ((fine_line hf n0 n1 m0 m1 s).2 hL)]
  · rw [hP]
    unfold RP RT
    have r1 := P_range (bytesOf (rdOf ByteArray.empty (lineOf s) 1))
    have r2 := P_range (bytesOf (rdOf ByteArray.empty (lineOf s) 2))
    have q1 : -9223372036854775808 ≤ (if 1 < (lineOf s).length then (P (bytesOf (rdOf ByteArray.empty (lineOf s) 1))).1 else 0) ∧ (if 1 < (lineOf s).length then (P (bytesOf (rdOf ByteArray.empty (lineOf s) 1))).1 else 0) ≤ 9223372036854775807 := by split <;> omega
    have q2 : -9223372036854775808 ≤ (if 2 < (lineOf s).length then (P (bytesOf (rdOf ByteArray.empty (lineOf s) 2))).1 else 0) ∧ (if 2 < (lineOf s).length then (P (bytesOf (rdOf ByteArray.empty (lineOf s) 2))).1 else 0) ≤ 9223372036854775807 := by split <;> omega
    generalize (if 1 < (lineOf s).length then (P (bytesOf (rdOf ByteArray.empty (lineOf s) 1))).1 else 0) = n at q1 ⊢
    generalize (if 2 < (lineOf s).length then (P (bytesOf (rdOf ByteArray.empty (lineOf s) 2))).1 else 0) = m at q2 ⊢
    by_cases hf : Fine (opL (lineOf s)) n m
    · rw [TX_fine hf, if_pos rfl]
      by_cases h9 : strOfNums (jn false (WX (opL (lineOf s)) n m)) = s
      · have hL := (fine_line hf q1.1 q1.2 q2.1 q2.2 s).1 h9
        have := PC_fine s _ n m q1.1 q1.2 q2.1 q2.2 hf hL
        rw [hP] at this
        have := (Prod.mk.inj (Prod.mk.inj (Prod.mk.inj this).2).2).2
        exact absurd this (by decide)
      · rw [if_neg h9]
    · rw [TX_not hf]; rfl
theorem refParse08_ok (s : ByteArray) (hs : s.size ≤ 8000000000000) : Ev (fun k => parallaxref08_Parse.f k s) (PC (lineOf s)) := by
  unfold parallaxref08_Parse.f
  refine Ev.bind (refWords_ok s hs) ?_
  have h := refl0_08 s (lineOf s) (word_size s hs) 25 1 0 rfl (by decide)
  have e : code_Parse.l0 (lineOf s) 25 1 0 = opL (lineOf s) := by
    unfold opL
    conv => rhs; unfold code_Parse.l0
    rw [if_neg (by decide)]
  rw [e, RP_PC] at h
  exact h
end Go.Proofs.YtdbpdcjlbopkbaaDoor.Q
