/- The size of the greatest matching of two rows of events, and the least such matching: plain Lean. -/
import Derived.Test.YthbgbeelcnfofaaPx0
import Derived.Test.YthbgbeelcnfofaaQBits
import Derived.Test.YthbgbeelcnfofaaQPart
-- use: QBits
-- use: QPart
namespace Go.Proofs.Ythbgbeelcnfofaa.Q
set_option linter.unusedVariables false
set_option linter.unusedSimpArgs false
open Go.RowKit Go.Proofs.YthbgbeelcnfofaaW.PrintWords Go.Proofs.YthbgbeelcnfofaaW.PrintLast Go.Proofs.YthbgbeelcnfofaaW.PrintMore Go.Proofs.Ythbgbeelcnfofaa.P

/-- Not by rfl: the walk's simp does not open what stands inside. -/
theorem bsome {α β : Type} (x : α) (f : α → Option β) : (some x).bind f = f x := by rw [Option.bind_some]
/-- The size of the greatest matchings. -/
def Lrow (x : S24) (f : List S24 → Nat) : List S24 → Nat
  | [] => 0
  | y :: b => if x = y then f b + 1 else max (f (y :: b)) (Lrow x f b)
def L : List S24 → List S24 → Nat
  | [], _ => 0
  | x :: a, b => Lrow x (L a) b
theorem L_nil (b : List S24) : L [] b = 0 := rfl
theorem L_nil' (a : List S24) : L a [] = 0 := by cases a <;> rfl
theorem L_cons (x y : S24) (a b : List S24) : L (x :: a) (y :: b) = if x = y then L a b + 1 else max (L a (y :: b)) (L (x :: a) b) := rfl
/-- No common row is longer, and one is as long. -/
theorem L_most : ∀ (n : Nat) (a b : List S24), a.length + b.length ≤ n → (∀ s : List S24, s.Sublist a → s.Sublist b → s.length ≤ L a b) ∧ ∃ s : List S24, s.Sublist a ∧ s.Sublist b ∧ s.length = L a b := by
  intro n
  induction n with
  | zero =>
    intro a b h
    obtain rfl : a = [] := List.eq_nil_of_length_eq_zero (by omega)
    rw [L_nil]
    exact ⟨fun s hs _ => by simp [List.sublist_nil.1 hs], [], by simp, by simp, rfl⟩
  | succ n ih =>
    intro a b h
    cases a with
    | nil =>
      rw [L_nil]
      exact ⟨fun s hs _ => by simp [List.sublist_nil.1 hs], [], by simp, by simp, rfl⟩
    | cons x a =>
      cases b with
      | nil =>
        rw [L_nil']
        exact ⟨fun s _ hs => by simp [List.sublist_nil.1 hs], [], by simp, by simp, rfl⟩
      | cons y b =>
        simp only [List.length_cons] at h
        rw [L_cons]
        obtain ⟨p1, s1, q1, r1, e1⟩ := ih a b (by omega)
        obtain ⟨p2, s2, q2, r2, e2⟩ := ih a (y :: b) (by simp only [List.length_cons]; omega)
        obtain ⟨p3, s3, q3, r3, e3⟩ := ih (x :: a) b (by simp only [List.length_cons]; omega)
        by_cases hxy : x = y
        · rw [if_pos hxy]
          subst hxy
          refine ⟨fun s h1 h2 => ?_, x :: s1, q1.cons_cons x, r1.cons_cons x, by simp [e1]⟩
          have t1 := h1.tail
          have t2 := h2.tail
          simp only [List.tail_cons] at t1 t2
          have := p1 _ t1 t2
          simp only [List.length_tail] at this
          omega
        · rw [if_neg hxy]
          refine ⟨fun s h1 h2 => ?_, ?_⟩
          · cases s with
            | nil => simp
            | cons z s =>
              by_cases hz : z = x
              · have h2' : (z :: s).Sublist b := by
                  rcases List.sublist_cons_iff.1 h2 with h | ⟨r, hr, h⟩
                  · exact h
                  · injection hr with hr1 _
                    exact absurd (hz.symm.trans hr1) hxy
                have := p3 _ h1 h2'
                omega
              · have h1' : (z :: s).Sublist a := by
                  rcases List.sublist_cons_iff.1 h1 with h | ⟨r, hr, h⟩
                  · exact h
                  · injection hr with hr1 _
                    exact absurd hr1 hz
                have := p2 _ h1' h2
                omega
          · by_cases hm : L a (y :: b) ≤ L (x :: a) b
            · exact ⟨s3, q3, r3.cons y, by rw [e3]; omega⟩
            · exact ⟨s2, q2.cons x, r2, by rw [e2]; omega⟩
theorem L_ge {a b s : List S24} (h1 : s.Sublist a) (h2 : s.Sublist b) : s.length ≤ L a b := (L_most _ a b (Nat.le_refl _)).1 s h1 h2
theorem L_one (a b : List S24) : ∃ s : List S24, s.Sublist a ∧ s.Sublist b ∧ s.length = L a b := (L_most _ a b (Nat.le_refl _)).2
theorem L_comm (a b : List S24) : L a b = L b a := by
  obtain ⟨s, h1, h2, e⟩ := L_one a b
  obtain ⟨t, g1, g2, f⟩ := L_one b a
  have := L_ge h2 h1
  have := L_ge g2 g1
  omega
theorem L_reverse (a b : List S24) : L a.reverse b.reverse = L a b := by
  obtain ⟨s, h1, h2, e⟩ := L_one a b
  obtain ⟨t, g1, g2, f⟩ := L_one a.reverse b.reverse
  have := L_ge (List.reverse_sublist.2 h1) (List.reverse_sublist.2 h2)
  have hx := L_ge (a := a) (b := b) (by simpa using List.reverse_sublist.2 g1) (by simpa using List.reverse_sublist.2 g2)
  simp only [List.length_reverse] at *
  omega
theorem L_le (a b : List S24) : L a b ≤ a.length ∧ L a b ≤ b.length := by
  obtain ⟨s, h1, h2, e⟩ := L_one a b
  exact ⟨by rw [← e]; exact h1.length_le, by rw [← e]; exact h2.length_le⟩
theorem L_mono {a a' b b' : List S24} (h1 : a.Sublist a') (h2 : b.Sublist b') : L a b ≤ L a' b' := by
  obtain ⟨s, h3, h4, e⟩ := L_one a b
  rw [← e]
  exact L_ge (h3.trans h1) (h4.trans h2)
theorem L_left (x : S24) (a b : List S24) : L (x :: a) b ≤ L a b + 1 := by
  obtain ⟨s, h1, h2, e⟩ := L_one (x :: a) b
  have t1 := h1.tail
  simp only [List.tail_cons] at t1
  have := L_ge t1 ((List.tail_sublist s).trans h2)
  simp only [List.length_tail] at this
  omega
theorem L_right (y : S24) (a b : List S24) : L a (y :: b) ≤ L a b + 1 := by
  rw [L_comm a, L_comm a]
  exact L_left y b a
/-- The first index, from here on, at which x stands and with which nothing is lost. -/
def hit (x : S24) (a : List S24) : List S24 → Nat → Option Nat
  | [], _ => none
  | y :: b, v => if x = y ∧ L a b + 1 = v then some 0 else (hit x a b v).map (· + 1)
theorem hit_none (x : S24) (a : List S24) : ∀ b, hit x a b (L (x :: a) b) = none → L (x :: a) b = L a b
  | [], _ => by rw [L_nil', L_nil']
  | y :: b, h => by
    rw [L_cons] at h ⊢
    by_cases hxy : x = y
    · rw [if_pos hxy] at h
      unfold hit at h
      rw [if_pos ⟨hxy, rfl⟩] at h
      cases h
    · rw [if_neg hxy] at h ⊢
      unfold hit at h
      rw [if_neg (fun h2 => hxy h2.1)] at h
      by_cases hm : L a (y :: b) ≤ L (x :: a) b
      · rw [Nat.max_eq_right hm] at h ⊢
        have := hit_none x a b (by simpa using h)
        have h2 := L_mono (List.Sublist.refl a) (List.sublist_cons_self y b)
        omega
      · omega
theorem hit_some (x : S24) (a : List S24) (v : Nat) : ∀ (b : List S24) (h : Nat), hit x a b v = some h → h < b.length ∧ b[h]? = some x ∧ L a (b.drop (h + 1)) + 1 = v
  | [], h, e => by cases e
  | y :: b, h, e => by
    unfold hit at e
    split at e
    case isTrue hc =>
      injection e with e
      subst e
      exact ⟨by simp, by simp [hc.1], by simpa using hc.2⟩
    case isFalse hc =>
      obtain ⟨g, hg, rfl⟩ := Option.map_eq_some_iff.1 e
      obtain ⟨h1, h2, h3⟩ := hit_some x a v b g hg
      exact ⟨by simp only [List.length_cons]; omega, by simpa using h2, by simpa using h3⟩
/-- The least matching of the greatest size, from two indices on. -/
def G : List S24 → List S24 → Nat → Nat → List (Nat × Nat)
  | [], _, _, _ => []
  | x :: a, b, i, j => if L (x :: a) b = 0 then [] else match hit x a b (L (x :: a) b) with
    | some h => (i, j + h) :: G a (b.drop (h + 1)) (i + 1) (j + h + 1)
    | none => G a b (i + 1) j
theorem G_zero : ∀ (a b : List S24) (i j : Nat), L a b = 0 → G a b i j = []
  | [], _, _, _, _ => rfl
  | x :: a, b, i, j, h => by unfold G; rw [if_pos h]
theorem G_length : ∀ (a b : List S24) (i j : Nat), (G a b i j).length = L a b
  | [], b, _, _ => by rw [L_nil]; rfl
  | x :: a, b, i, j => by
    unfold G
    split
    case isTrue h => rw [h]; rfl
    case isFalse h =>
      split
      case _ h' e =>
        obtain ⟨h1, h2, h3⟩ := hit_some x a _ b h' e
        rw [List.length_cons, G_length a, h3]
      case _ e =>
        rw [G_length a, hit_none x a b e]
/-- A common beginning is matched whole. -/
theorem L_pre : ∀ (a b : List S24), pre a b + L (a.drop (pre a b)) (b.drop (pre a b)) = L a b
  | [], b => by simp [pre]
  | x :: a, [] => by simp [pre]
  | x :: a, y :: b => by
    rw [L_cons]
    simp only [pre]
    split
    · have := L_pre a b
      simp only [List.drop_succ_cons]
      omega
    · rename_i h
      rw [List.drop_zero, List.drop_zero, L_cons, if_neg h]
      omega
theorem L_snoc (a b : List S24) (e : S24) : L (a ++ [e]) (b ++ [e]) = L a b + 1 := by
  rw [← L_reverse, List.reverse_append, List.reverse_append]
  show L (e :: a.reverse) (e :: b.reverse) = _
  rw [L_cons, if_pos rfl, L_reverse]

end Go.Proofs.Ythbgbeelcnfofaa.Q
