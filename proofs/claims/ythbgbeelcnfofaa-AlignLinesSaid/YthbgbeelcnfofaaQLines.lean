/- Lines of a region: both programs say the same. -/
import Derived.Test.YthbgbeelcnfofaaPx0
import Derived.Test.YthbgbeelcnfofaaPx10
import Derived.Test.YthbgbeelcnfofaaPx11
import Derived.Test.YthbgbeelcnfofaaPx3
import Derived.Test.YthbgbeelcnfofaaQBase
import Derived.Test.YthbgbeelcnfofaaQUp
import Derived.Test.YthbgbeelcnfofaaQEvText
-- use: QBase
-- use: QUp
-- use: QEvText
namespace Go.Proofs.Ythbgbeelcnfofaa.Q
set_option linter.unusedVariables false
set_option linter.unusedSimpArgs false
open Go.RowKit Go.Proofs.YthbgbeelcnfofaaW.PrintWords Go.Proofs.YthbgbeelcnfofaaW.PrintLast Go.Proofs.YthbgbeelcnfofaaW.PrintMore Go.Proofs.Ythbgbeelcnfofaa.P

def TX (e : S24) : ByteArray := strOfNums (txt e.f0 e.f1)
/-- Events whose numbers are numbers of the machine. -/
def GoodE (l : List S24) : Prop := ∀ y ∈ l, (-9223372036854775808 ≤ y.f0 ∧ y.f0 ≤ 9223372036854775807) ∧ (-9223372036854775808 ≤ y.f1 ∧ y.f1 ≤ 9223372036854775807)
theorem GoodE.at {l : List S24} (h : GoodE l) (i : Nat) (hi : i < l.length) : (-9223372036854775808 ≤ (rd_T24 l (i : Int)).f0 ∧ (rd_T24 l (i : Int)).f0 ≤ 9223372036854775807) ∧ (-9223372036854775808 ≤ (rd_T24 l (i : Int)).f1 ∧ (rd_T24 l (i : Int)).f1 ≤ 9223372036854775807) := by
  rw [rd24_get l i hi]
  exact h _ (List.getElem_mem _)
theorem TX_ok {l : List S24} (h : GoodE l) (i : Nat) (hi : i < l.length) : Ev (fun k => align_Text.f k (rd_T24 l (i : Int)).f0 (rd_T24 l (i : Int)).f1) (TX (rd_T24 l (i : Int))) := by
  obtain ⟨⟨g0, g1⟩, h0, h1⟩ := h.at i hi
  exact Text15_ok _ _ h0 h1 g0 g1
theorem refTX_ok {l : List S24} (h : GoodE l) (i : Nat) (hi : i < l.length) : Ev (fun k => parallaxref15_Text.f k (rd_T24 l (i : Int)).f0 (rd_T24 l (i : Int)).f1) (TX (rd_T24 l (i : Int))) := by
  obtain ⟨⟨g0, g1⟩, h0, h1⟩ := h.at i hi
  exact refText15_ok _ _ h0 h1 g0 g1
theorem TX_size {l : List S24} (h : GoodE l) (i : Nat) (hi : i < l.length) : (TX (rd_T24 l (i : Int))).size ≤ 1000 := by
  obtain ⟨⟨g0, g1⟩, h0, h1⟩ := h.at i hi
  unfold TX
  rw [strOfNums_size]
  have a := T_len _ g0 g1
  have b := T_len _ h0 h1
  unfold txt
  (repeat' split) <;> simp only [List.length_append, List.length_cons, List.length_nil] <;> omega
def ln (c : UInt8) (e : S24) : ByteArray := (⟨#[c, 32]⟩ : ByteArray) ++ TX e
/-- So many lines from an index on. -/
def ds (c : UInt8) (l : List S24) : Nat → Nat → List ByteArray
  | _, 0 => []
  | i, m + 1 => ln c (rd_T24 l (i : Int)) :: ds c l (i + 1) m
theorem ds_length (c : UInt8) (l : List S24) : ∀ m i, (ds c l i m).length = m
  | 0, _ => rfl
  | m + 1, i => by simp only [ds, List.length_cons, ds_length c l m (i + 1)]
theorem la_ok {l : List S24} (hg : GoodE l) (hl : l.length ≤ 1000) (tw : Int) : ∀ (m i : Nat) (q : List ByteArray), (tw - (i : Int)).toNat = m → i ≤ l.length → tw ≤ (l.length : Int) → q.length + m ≤ 100000 →
    Ev (fun k => align_Lines.la k l tw q (i : Int)) (q ++ ds 45 l i m, ((i + m : Nat) : Int)) := by
  intro m
  induction m with
  | zero =>
    intro i q hm hi ht hq
    have c1 := ff (show ¬ ((i : Int) < tw) by omega)
    refine evs ?_
    simp only [align_Lines.la, c1, if_false, ds, List.append_nil, Nat.add_zero]
    exact Ev.now _
  | succ m ih =>
    intro i q hm hi ht hq
    have ih := ih (i + 1) (q ++ [ln 45 (rd_T24 l (i : Int))]) (by omega) (by omega) ht (by rw [List.length_append, List.length_singleton]; omega)
    have hs := TX_size hg i (by omega)
    have c1 := tt (show (i : Int) < tw by omega)
    have c2 := tt (show (0 : Int) ≤ (i : Int) by omega)
    have c3 := tt (show (i : Int) < (l.length : Int) by omega)
    have c4 := tt (show 2 + (TX (rd_T24 l (i : Int))).size ≤ 9223372036854775807 by omega)
    have c5 := tt (show q.length < 8796093022208 by omega)
    have b1 : i + 1 ≤ 1000000000000 := by omega
    refine evs ?_
    simp only [align_Lines.la, c1, c2, c3, if_true]
    refine Ev.bind (TX_ok hg i (by omega)) ?_
    simp only [c4, c5, wsucc b1, if_true, ds]
    rw [List.append_assoc, show i + 1 + m = i + (m + 1) by omega] at ih
    exact ih
theorem lb_ok {l : List S24} (hg : GoodE l) (hl : l.length ≤ 1000) (tw : Int) : ∀ (m i : Nat) (q : List ByteArray), (tw - (i : Int)).toNat = m → i ≤ l.length → tw ≤ (l.length : Int) → q.length + m ≤ 100000 →
    Ev (fun k => align_Lines.lb k l tw q (i : Int)) (q ++ ds 43 l i m, ((i + m : Nat) : Int)) := by
  intro m
  induction m with
  | zero =>
    intro i q hm hi ht hq
    have c1 := ff (show ¬ ((i : Int) < tw) by omega)
    refine evs ?_
    simp only [align_Lines.lb, c1, if_false, ds, List.append_nil, Nat.add_zero]
    exact Ev.now _
  | succ m ih =>
    intro i q hm hi ht hq
    have ih := ih (i + 1) (q ++ [ln 43 (rd_T24 l (i : Int))]) (by omega) (by omega) ht (by rw [List.length_append, List.length_singleton]; omega)
    have hs := TX_size hg i (by omega)
    have c1 := tt (show (i : Int) < tw by omega)
    have c2 := tt (show (0 : Int) ≤ (i : Int) by omega)
    have c3 := tt (show (i : Int) < (l.length : Int) by omega)
    have c4 := tt (show 2 + (TX (rd_T24 l (i : Int))).size ≤ 9223372036854775807 by omega)
    have c5 := tt (show q.length < 8796093022208 by omega)
    have b1 : i + 1 ≤ 1000000000000 := by omega
    refine evs ?_
    simp only [align_Lines.lb, c1, c2, c3, if_true]
    refine Ev.bind (TX_ok hg i (by omega)) ?_
    simp only [c4, c5, wsucc b1, if_true, ds]
    rw [List.append_assoc, show i + 1 + m = i + (m + 1) by omega] at ih
    exact ih
/-- A pair inside of a region. -/
def inn (r0 r1 r2 r3 : Int) (p : S67) : Bool := decide (r0 ≤ p.f0 ∧ p.f0 < r1 ∧ r2 ≤ p.f1 ∧ p.f1 < r3)
/-- The lines up to the last pair. -/
def Wl (a b : List S24) : List S67 → Nat → Nat → List ByteArray → List ByteArray × Nat × Nat
  | [], i, j, q => (q, i, j)
  | p :: ps, i, j, q => Wl a b ps (p.f0.toNat + 1) (p.f1.toNat + 1) (q ++ ds 45 a i (p.f0 - (i : Int)).toNat ++ ds 43 b j (p.f1 - (j : Int)).toNat ++ [ln 32 (rd_T24 a p.f0)])
def fin (a b : List S24) (r1 r3 : Int) (s : List ByteArray × Nat × Nat) : List ByteArray := s.1 ++ ds 45 a s.2.1 (r1 - (s.2.1 : Int)).toNat ++ ds 43 b s.2.2 (r3 - (s.2.2 : Int)).toNat
/-- Pairs that come one behind the other. -/
def Chain (n m : Int) : Nat → Nat → List S67 → Prop
  | _, _, [] => True
  | i, j, p :: ps => ((i : Int) ≤ p.f0 ∧ (j : Int) ≤ p.f1 ∧ p.f0 < n ∧ p.f1 < m) ∧ Chain n m (p.f0.toNat + 1) (p.f1.toNat + 1) ps
theorem up_chain (n m r0 r1 r2 r3 : Int) (h0 : 0 ≤ r0) (h2 : 0 ≤ r2) : ∀ (l : List S67) (p q : Int) (i j : Nat), -1 ≤ p → -1 ≤ q → ((i : Int) ≤ p + 1 ∨ (i : Int) ≤ r0) → ((j : Int) ≤ q + 1 ∨ (j : Int) ≤ r2) → up n m p q (l.map o41) = true → Chain n m i j (l.filter (inn r0 r1 r2 r3))
  | [], _, _, _, _, _, _, _, _, _ => trivial
  | x :: l, p, q, i, j, hp, hq, hi, hj, hu => by
    rw [List.map_cons] at hu
    obtain ⟨⟨u1, u2, u3, u4⟩, u5⟩ := up_cons.1 hu
    simp only [o41] at u1 u2 u3 u4 u5
    rw [List.filter_cons]
    by_cases hx : r0 ≤ x.f0 ∧ x.f0 < r1 ∧ r2 ≤ x.f1 ∧ x.f1 < r3
    · rw [if_pos (show inn r0 r1 r2 r3 x = true from decide_eq_true hx)]
      exact ⟨by omega, up_chain n m r0 r1 r2 r3 h0 h2 l x.f0 x.f1 _ _ (by omega) (by omega) (.inl (by omega)) (.inl (by omega)) u5⟩
    · rw [if_neg (show ¬ inn r0 r1 r2 r3 x = true by unfold inn; rw [decide_eq_false hx]; decide)]
      exact up_chain n m r0 r1 r2 r3 h0 h2 l x.f0 x.f1 i j (by omega) (by omega) (by omega) (by omega) u5
theorem rd41_map (l : List S67) (x : Nat) (h : x < l.length) : rd_T41 (l.map o41) (x : Int) = o41 (rd_T67 l (x : Int)) := by
  rw [rd41_get _ x (by rw [List.length_map]; exact h), rd67_get l x h, List.getElem_map]
theorem ll_ok (a b : List S24) (ga : GoodE a) (gb : GoodE b) (ha : a.length ≤ 1000) (hb : b.length ≤ 1000) (l : List S67) (hl : l.length ≤ 1000) (r0 r1 r2 r3 : Int) : ∀ (d x i j : Nat) (q : List ByteArray), x + d = l.length → i ≤ a.length → j ≤ b.length → q.length ≤ i + j → Chain (a.length : Int) (b.length : Int) i j ((l.drop x).filter (inn r0 r1 r2 r3)) →
    ∃ q' : List ByteArray, ∃ i' j' : Nat, Wl a b ((l.drop x).filter (inn r0 r1 r2 r3)) i j q = (q', i', j') ∧ i' ≤ a.length ∧ j' ≤ b.length ∧ q'.length ≤ i' + j' ∧ Ev (fun k => align_Lines.ll k a b (l.map o41) r0 r1 r2 r3 q (i : Int) (j : Int) (x : Int)) (q', ((i' : Int), (j' : Int))) := by
  intro d
  induction d with
  | zero =>
    intro x i j q hx hi hj hq hc
    have c1 := ff (show ¬ ((x : Int) < ((l.map o41).length : Int)) by rw [List.length_map]; omega)
    rw [List.drop_of_length_le (by omega)]
    refine ⟨q, i, j, rfl, hi, hj, hq, evs ?_⟩
    simp only [align_Lines.ll, c1, if_false]
    exact Ev.now _
  | succ d ih =>
    intro x i j q hx hi hj hq hc
    have c1 := tt (show (x : Int) < ((l.map o41).length : Int) by rw [List.length_map]; omega)
    have c2 := tt (show (0 : Int) ≤ (x : Int) by omega)
    have b1 : x + 1 ≤ 1000000000000 := by omega
    have hr := rd41_map l x (by omega)
    rw [drop67 l x (by omega), List.filter_cons] at hc ⊢
    by_cases hp : r0 ≤ (rd_T67 l (x : Int)).f0 ∧ (rd_T67 l (x : Int)).f0 < r1 ∧ r2 ≤ (rd_T67 l (x : Int)).f1 ∧ (rd_T67 l (x : Int)).f1 < r3
    · have e : inn r0 r1 r2 r3 (rd_T67 l (x : Int)) = true := decide_eq_true hp
      rw [if_pos e] at hc ⊢
      obtain ⟨⟨g1, g2, g3, g4⟩, g5⟩ := hc
      obtain ⟨u, hu⟩ : ∃ u : Nat, (rd_T67 l (x : Int)).f0 = (u : Int) := ⟨(rd_T67 l (x : Int)).f0.toNat, by omega⟩
      obtain ⟨v, hv⟩ : ∃ v : Nat, (rd_T67 l (x : Int)).f1 = (v : Int) := ⟨(rd_T67 l (x : Int)).f1.toNat, by omega⟩
      rw [hu] at g1 g3 hp
      rw [hv] at g2 g4 hp
      unfold Wl
      rw [hu, hv] at g5 ⊢
      rw [Int.toNat_natCast, Int.toNat_natCast] at g5 ⊢
      have la := la_ok ga ha (u : Int) ((u : Int) - (i : Int)).toNat i q rfl hi (by omega) (by omega)
      have lb := lb_ok gb hb (v : Int) ((v : Int) - (j : Int)).toNat j (q ++ ds 45 a i ((u : Int) - (i : Int)).toNat) rfl hj (by omega) (by rw [List.length_append, ds_length]; omega)
      rw [show i + ((u : Int) - (i : Int)).toNat = u by omega] at la
      rw [show j + ((v : Int) - (j : Int)).toNat = v by omega] at lb
      have hql : (q ++ ds 45 a i ((u : Int) - (i : Int)).toNat ++ ds 43 b j ((v : Int) - (j : Int)).toNat).length ≤ u + v := by
        rw [List.length_append, List.length_append, ds_length, ds_length]; omega
      obtain ⟨q', i', j', w1, w2, w3, w4, w5⟩ := ih (x + 1) (u + 1) (v + 1) (q ++ ds 45 a i ((u : Int) - (i : Int)).toNat ++ ds 43 b j ((v : Int) - (j : Int)).toNat ++ [ln 32 (rd_T24 a (u : Int))]) (by omega) (by omega) (by omega) (by rw [List.length_append, List.length_singleton]; omega) g5
      refine ⟨q', i', j', w1, w2, w3, w4, evs ?_⟩
      have d0 := ff (show ¬ ((u : Int) < r0) by omega)
      have d1 := ff (show ¬ ((u : Int) ≥ r1) by omega)
      have d2 := ff (show ¬ ((v : Int) < r2) by omega)
      have d3 := ff (show ¬ ((v : Int) ≥ r3) by omega)
      have d4 := tt (show (0 : Int) ≤ (u : Int) by omega)
      have d5 := tt (show (u : Int) < (a.length : Int) by omega)
      have hs := TX_size ga u (by omega)
      have d6 := tt (show 2 + (TX (rd_T24 a (u : Int))).size ≤ 9223372036854775807 by omega)
      have d7 := tt (show (q ++ ds 45 a i ((u : Int) - (i : Int)).toNat ++ ds 43 b j ((v : Int) - (j : Int)).toNat).length < 8796093022208 by omega)
      have b2 : u + 1 ≤ 1000000000000 := by omega
      have b3 : v + 1 ≤ 1000000000000 := by omega
      simp only [align_Lines.ll, c1, c2, hr, o41, hu, hv, d0, d1, d2, d3, if_true, if_false]
      refine Ev.bind la (Ev.bind lb ?_)
      simp only [d4, d5, if_true]
      refine Ev.bind (TX_ok ga u (by omega)) ?_
      simp only [d6, d7, wsucc b1, wsucc b2, wsucc b3, if_true]
      exact w5
    · have e : ¬ inn r0 r1 r2 r3 (rd_T67 l (x : Int)) = true := by unfold inn; rw [decide_eq_false hp]; decide
      rw [if_neg e] at hc ⊢
      obtain ⟨q', i', j', w1, w2, w3, w4, w5⟩ := ih (x + 1) i j q (by omega) hi hj hq hc
      refine ⟨q', i', j', w1, w2, w3, w4, evs ?_⟩
      by_cases d0 : (rd_T67 l (x : Int)).f0 < r0
      · simp only [align_Lines.ll, c1, c2, hr, o41, tt d0, wsucc b1, if_true]
        exact w5
      by_cases d1 : (rd_T67 l (x : Int)).f0 ≥ r1
      · simp only [align_Lines.ll, c1, c2, hr, o41, ff d0, tt d1, wsucc b1, if_true, if_false]
        exact w5
      by_cases d2 : (rd_T67 l (x : Int)).f1 < r2
      · simp only [align_Lines.ll, c1, c2, hr, o41, ff d0, ff d1, tt d2, wsucc b1, if_true, if_false]
        exact w5
      have d3 : (rd_T67 l (x : Int)).f1 ≥ r3 := by omega
      simp only [align_Lines.ll, c1, c2, hr, o41, ff d0, ff d1, ff d2, tt d3, wsucc b1, if_true, if_false]
      exact w5

end Go.Proofs.Ythbgbeelcnfofaa.Q
