/- Texts of numbers are read back: what num.Parse comes to, and the reference's. -/
import Derived.Test.YtdbpdcjlbopkbaaDoorPx2
import Derived.Test.YtdbpdcjlbopkbaaDoorPx4
import Derived.Test.YtdbpdcjlbopkbaaDoorQBits
import Derived.Test.YtdbpdcjlbopkbaaDoorQStr
import Derived.Test.YtdbpdcjlbopkbaaDoorQText
-- use: QBits
-- use: QStr
-- use: QText
namespace Go.Proofs.YtdbpdcjlbopkbaaDoor.Q
set_option linter.unusedVariables false
set_option linter.unusedSimpArgs false
open Go.RowKit Go.Proofs.YtdbpdcjlbopkbaaDoorW.PrintWords Go.Proofs.YtdbpdcjlbopkbaaDoorW.PrintLast Go.Proofs.YtdbpdcjlbopkbaaDoorW.PrintMore Go.Proofs.YtdbpdcjlbopkbaaDoor.P

/-- Digits read, behind some number; nothing, if one is none, or the number is beyond 2 to the 63. -/
def run : List Int → Nat → Option Nat
  | [], u => some u
  | c :: l, u => if 48 ≤ c ∧ c ≤ 57 ∧ u * 10 + (c - 48).toNat ≤ 9223372036854775808 then run l (u * 10 + (c - 48).toNat) else none
def fin (below : Bool) : Option Nat → Int × Int
  | none => (0, 10)
  | some u => if u = 9223372036854775808 ∧ below = false then (0, 10) else (if below = true then wrap64 (-(u : Int)) else wrap64 (u : Int), 0)

theorem run_some : ∀ (l : List Int) (u v : Nat), u ≤ 9223372036854775808 → run l u = some v → (∀ c ∈ l, Digit c) ∧ v = dv l u ∧ v ≤ 9223372036854775808
  | [], u, v, h, e => by
    simp only [run, Option.some.injEq] at e
    subst e
    exact ⟨(fun _ h => by cases h), rfl, h⟩
  | c :: l, u, v, h, e => by
    simp only [run] at e
    split at e
    · rename_i hc
      obtain ⟨h1, h2, h3⟩ := hc
      obtain ⟨a, b, d⟩ := run_some l _ v h3 e
      refine ⟨fun x hx => ?_, b, d⟩
      rcases List.mem_cons.1 hx with rfl | hx
      · exact ⟨h1, h2⟩
      · exact a x hx
    · cases e
theorem run_digits : ∀ (l : List Int) (u : Nat), (∀ c ∈ l, Digit c) → dv l u ≤ 9223372036854775808 → run l u = some (dv l u)
  | [], u, _, _ => rfl
  | c :: l, u, hd, hv => by
    have h1 := hd c (by simp)
    have h2 := dv_mono l (u * 10 + (c - 48).toNat)
    simp only [dv] at hv ⊢
    simp only [run]
    rw [if_pos ⟨h1.1, h1.2, by omega⟩]
    exact run_digits l _ (fun x hx => hd x (by simp [hx])) hv

theorem j6_true (b : Bool) (u : Int) : Ev (fun k => num_Parse.j6 k b u true) (0, 10) := by
  refine evs ?_
  simp only [num_Parse.j6, if_true]
  exact Ev.now _
theorem j5_false (b : Bool) (u : Int) : Ev (fun k => num_Parse.j5 k b u false) (0, 10) := by
  refine evs ?_
  have c1 := ff (show ¬ (false = true) by decide)
  simp only [num_Parse.j5, c1, if_false]
  exact j6_true b u
theorem j6_false (b : Bool) (u : Nat) : Ev (fun k => num_Parse.j6 k b u false) (if b = true then wrap64 (-(u : Int)) else wrap64 (u : Int), 0) := by
  refine evs ?_
  have c1 := ff (show ¬ (false = true) by decide)
  have e : wrap64 (IntKind.u64.wrap (-(u : Int))) = wrap64 (-(u : Int)) := by rw [u64w, w64_emod]
  cases b with
  | true => simp only [num_Parse.j6, c1, if_false, if_true, e]; exact Ev.now _
  | false => simp only [num_Parse.j6, c1, if_false]; exact Ev.now _
theorem j5_true (b : Bool) (u : Nat) : Ev (fun k => num_Parse.j5 k b u true) (fin b (some u)) := by
  refine evs ?_
  simp only [num_Parse.j5, if_true]
  by_cases h : u = 9223372036854775808
  · have c1 := tt (show (u : Int) = 9223372036854775808 by omega)
    simp only [c1, if_true]
    cases b with
    | true =>
      have := j6_false true u
      simp only [fin]
      rw [if_neg (by simp)]
      exact this
    | false =>
      simp only [fin]
      rw [if_pos ⟨h, trivial⟩]
      exact j6_true _ _
  · have c1 := ff (show ¬ (u : Int) = 9223372036854775808 by omega)
    simp only [c1, if_false]
    have := j6_false b u
    simp only [fin]
    rw [if_neg (fun hh => h hh.1)]
    exact this

theorem Parse_loop (x : ByteArray) (hx : x.size ≤ 140737488351232) (b : Bool) : ∀ (d i u : Nat), i + d = x.size → u ≤ 9223372036854775808 → Ev (fun k => num_Parse.l0 k x b u true i) (fin b (run ((bytesOf x).drop i) u)) := by
  intro d
  induction d with
  | zero =>
    intro i u hd hu
    have e : (bytesOf x).drop i = [] := List.drop_of_length_le (by rw [bytesOf_length]; omega)
    rw [e]
    refine evs ?_
    have c1 : decide ((i : Int) < (x.size : Int)) = false := decide_eq_false (by omega)
    simp only [num_Parse.l0, if_true, c1]
    refine evs ?_
    have c2 := ff (show ¬ (false = true) by decide)
    simp only [num_Parse.j4, c2, if_false]
    exact j5_true b u
  | succ d ih =>
    intro i u hd hu
    have hi : i < x.size := by omega
    have c1 : decide ((i : Int) < (x.size : Int)) = true := decide_eq_true (by omega)
    have c2 := tt (show (0 : Int) ≤ i by omega)
    have c3 := tt (show (i : Int) < (x.size : Int) by omega)
    have c4 : wrap64 ((i : Int) + 1) = ((i + 1 : Nat) : Int) := by rw [w64 (by omega) (by omega)]; rfl
    obtain ⟨y0, y1⟩ := rd_byte x hi
    rw [drop_rd (show i < (bytesOf x).length by rw [bytesOf_length]; exact hi)]
    have hb := bt_cast x i
    generalize rd (bytesOf x) i = c at y0 y1 hb
    refine evs ?_
    simp only [num_Parse.l0, if_true, c1]
    refine evs ?_
    simp only [run]
    by_cases h1 : c < 48
    · have c5 := tt h1
      rw [if_neg (by omega)]
      simp only [num_Parse.j4, if_true, c2, c3, hb, c5]
      exact j5_false _ _
    · have c5 := ff h1
      have hw : IntKind.u64.wrap (IntKind.u64.wrap c - 48) = (((c - 48).toNat : Nat) : Int) := by rw [u64w, u64w]; omega
      by_cases h2 : c ≤ 57
      · have c6 := ff (show ¬ (((c - 48).toNat : Nat) : Int) > 9 by omega)
        have hd9 : (c - 48).toNat ≤ 9 := by omega
        generalize hg : (c - 48).toNat = g at hw c6 hd9
        have hq : IntKind.u64.wrap (Int.tdiv (IntKind.u64.wrap (9223372036854775808 - (g : Int))) 10) = (((9223372036854775808 - g) / 10 : Nat) : Int) := by
          rw [u64w (9223372036854775808 - (g : Int)), Int.tdiv_eq_ediv_of_nonneg (by omega), u64w]; omega
        by_cases h3 : u * 10 + g ≤ 9223372036854775808
        · have c7 := ff (show ¬ (u : Int) > (((9223372036854775808 - g) / 10 : Nat) : Int) by omega)
          have hn : IntKind.u64.wrap (IntKind.u64.wrap ((u : Int) * 10) + (g : Int)) = ((u * 10 + g : Nat) : Int) := by rw [u64w, u64w]; omega
          rw [if_pos ⟨by omega, h2, by omega⟩]
          have := ih (i + 1) (u * 10 + g) (by omega) h3
          simp only [num_Parse.j4, if_true, if_false, c2, c3, c4, hb, c5, hw, c6, hq, c7, hn]
          exact this
        · have c7 := tt (show (u : Int) > (((9223372036854775808 - g) / 10 : Nat) : Int) by omega)
          rw [if_neg (by omega)]
          simp only [num_Parse.j4, if_true, if_false, c2, c3, hb, c5, hw, c6, hq, c7]
          exact j5_false _ _
      · have c6 := tt (show (((c - 48).toNat : Nat) : Int) > 9 by omega)
        rw [if_neg (by omega)]
        simp only [num_Parse.j4, if_true, if_false, c2, c3, hb, c5, hw, c6]
        exact j5_false _ _
theorem j2_true (x : ByteArray) (hx : x.size ≤ 140737488351232) (b : Bool) : Ev (fun k => num_Parse.j2 k x b 0 true) (fin b (run (bytesOf x) 0)) := by
  refine evs ?_
  simp only [num_Parse.j2]
  exact Parse_loop x hx b x.size 0 0 (by omega) (by omega)
theorem j2_false (x : ByteArray) (b : Bool) : Ev (fun k => num_Parse.j2 k x b 0 false) (0, 10) := by
  refine evs ?_
  have c2 := ff (show ¬ (false = true) by decide)
  simp only [num_Parse.j2]
  refine evs ?_
  simp only [num_Parse.l0, c2, if_false]
  refine evs ?_
  simp only [num_Parse.j4, c2, if_false]
  exact j5_false _ _
/-- What is read behind the sign. -/
def body (n : Nat) (b : Bool) (l : List Int) : Int × Int := if l = [] then (0, 10) else if rd l 0 = 48 ∧ n ≠ 1 then (0, 10) else fin b (run l 0)
theorem j1_ok (s x : ByteArray) (hx : x.size ≤ 140737488351232) (b : Bool) : Ev (fun k => num_Parse.j1 k s x b) (body s.size b (bytesOf x)) := by
  refine evs ?_
  unfold body
  by_cases h : bytesOf x = []
  · have c1 := tt ((toList_nil x).2 h)
    simp only [num_Parse.j1, c1, if_true, if_pos h]
    exact j2_false _ _
  · have c1 := ff (fun hh => h ((toList_nil x).1 hh))
    have hp : 0 < x.size := by rw [size_len]; exact List.length_pos_iff.2 h
    have c2 := tt (show 0 < (x.size : Int) by omega)
    have hb : bt x 0 = rd (bytesOf x) 0 := bt_cast x 0
    by_cases h48 : rd (bytesOf x) 0 = 48
    · have c3 := tt h48
      by_cases h1 : s.size = 1
      · have c4 : ((s.size : Int) == 1) = true := by rw [h1]; rfl
        simp only [num_Parse.j1, c1, c2, c3, c4, hb, if_true, if_false, if_neg h]
        rw [if_neg (by omega)]
        exact j2_true x hx b
      · have c4 : ((s.size : Int) == 1) = false := beq_eq_false_iff_ne.mpr (by omega)
        simp only [num_Parse.j1, c1, c2, c3, c4, hb, if_true, if_false, if_neg h]
        rw [if_pos ⟨trivial, h1⟩]
        exact j2_false _ _
    · have c3 := ff h48
      simp only [num_Parse.j1, c1, c2, c3, hb, if_true, if_false, if_neg h]
      rw [if_neg (by simp)]
      exact j2_true x hx b
/-- What num.Parse comes to. -/
def P (l : List Int) : Int × Int := if l = [] then (0, 10) else if rd l 0 = 45 then body l.length true (l.drop 1) else body l.length false l
theorem Parse_ok (s : ByteArray) (hs : s.size ≤ 140737488351232) : Ev (fun k => num_Parse.f k s) (P (bytesOf s)) := by
  unfold num_Parse.f P
  by_cases h : bytesOf s = []
  · have c1 := tt ((toList_nil s).2 h)
    have c2 := ff (show ¬ (false = true) by decide)
    simp only [c1, if_true, if_pos h]
    refine evs ?_
    simp only [num_Parse.j0, c2, if_false]
    have := j1_ok s s hs false
    unfold body at this
    rw [if_pos h] at this
    exact this
  · have c1 := ff (fun hh => h ((toList_nil s).1 hh))
    have hp : 0 < s.size := by rw [size_len]; exact List.length_pos_iff.2 h
    have c2 := tt (show 0 < (s.size : Int) by omega)
    have hb : bt s 0 = rd (bytesOf s) 0 := bt_cast s 0
    have e : bytesOf (s.extract 1 s.size) = (bytesOf s).drop 1 := by
      rw [bytesOf_extract, List.take_of_length_le (by rw [bytesOf_length]; omega)]
    by_cases h45 : rd (bytesOf s) 0 = 45
    · have c3 : (rd (bytesOf s) 0 == 45) = true := by rw [h45]; rfl
      have c4 := tt (show 1 ≤ (s.size : Int) by omega)
      simp only [c1, c2, c3, hb, if_true, if_false, if_neg h, if_pos h45]
      refine evs ?_
      simp only [num_Parse.j0, if_true, c4]
      have := j1_ok s (s.extract 1 s.size) (by rw [size_len, e, List.length_drop, ← size_len]; omega) true
      rw [e, size_len] at this
      rw [size_len]
      exact this
    · have c3 : (rd (bytesOf s) 0 == 45) = false := beq_eq_false_iff_ne.mpr h45
      have c4 := ff (show ¬ (false = true) by decide)
      simp only [c1, c2, c3, hb, if_true, if_false, if_neg h, if_neg h45]
      refine evs ?_
      simp only [num_Parse.j0, if_false, c4]
      have := j1_ok s s hs false
      rw [size_len] at this
      exact this

theorem P_T (a : Int) (h0 : -9223372036854775808 ≤ a) (h1 : a ≤ 9223372036854775807) : P (T a) = (a, 0) := by
  obtain ⟨ds, ⟨c1, c2, c3⟩, hv, hl, e⟩ := T_form a h0 h1
  obtain ⟨x, r, rfl⟩ : ∃ x r, ds = x :: r := by
    cases ds with
    | nil => exact absurd rfl c2
    | cons x r => exact ⟨x, r, rfl⟩
  have hr := run_digits (x :: r) 0 c1 (by rw [hv]; omega)
  rw [hv] at hr
  have hx := c1 x (by simp)
  have hxx : rd (x :: r) 0 = x := rfl
  by_cases hn : a < 0
  · rw [if_pos hn] at e
    rw [e]
    unfold P
    rw [if_neg (by simp), if_pos (by rfl), show (45 :: x :: r).drop 1 = x :: r from rfl]
    unfold body
    have h48 : x ≠ 48 := by
      intro h
      have h2 := c3 (by rw [hxx]; exact h)
      have : r = [] := by simpa using h2
      subst this
      subst h
      simp [dv] at hv
      omega
    rw [if_neg (by simp), if_neg (by rw [hxx]; exact fun hh => h48 hh.1), hr]
    simp only [fin]
    rw [if_neg (by simp), if_pos trivial, w64 (by omega) (by omega)]
    congr 1
    omega
  · rw [if_neg hn] at e
    rw [e]
    unfold P
    rw [if_neg (by simp), if_neg (by rw [hxx]; have := hx.1; omega)]
    unfold body
    rw [if_neg (by simp), if_neg (by rw [hxx]; exact fun hh => hh.2 (c3 (by rw [hxx]; exact hh.1))), hr]
    simp only [fin]
    rw [if_neg (by omega), if_neg (by decide), w64 (by omega) (by omega)]
    congr 1
    omega
theorem P_or (l : List Int) : (∃ a, -9223372036854775808 ≤ a ∧ a ≤ 9223372036854775807 ∧ T a = l) ∨ P l = (0, 10) := by
  by_cases hP : P l = (0, 10)
  · exact .inr hP
  · left
    unfold P at hP
    by_cases h : l = []
    · rw [if_pos h] at hP; exact absurd rfl hP
    · rw [if_neg h] at hP
      have hlen : 0 < l.length := List.length_pos_iff.2 h
      have key : ∀ (n : Nat) (b : Bool) (m : List Int), body n b m ≠ (0, 10) → (n = m.length ∨ 2 ≤ n) → (n = 1 → m.length = 1) → ∃ u, Canon m ∧ dv m 0 = u ∧ u ≤ 9223372036854775808 ∧ (u = 9223372036854775808 → b = true) ∧ (rd m 0 = 48 → n = 1) := by
        intro n b m hb hn hn1
        unfold body at hb
        by_cases hm : m = []
        · rw [if_pos hm] at hb; exact absurd rfl hb
        · rw [if_neg hm] at hb
          by_cases hz : rd m 0 = 48 ∧ n ≠ 1
          · rw [if_pos hz] at hb; exact absurd rfl hb
          · rw [if_neg hz] at hb
            cases hr : run m 0 with
            | none => rw [hr] at hb; exact absurd rfl hb
            | some u =>
              rw [hr] at hb
              obtain ⟨d1, d2, d3⟩ := run_some m 0 u (by omega) hr
              have hn48 : rd m 0 = 48 → n = 1 := fun h => Decidable.byContradiction fun h' => hz ⟨h, h'⟩
              refine ⟨u, ⟨d1, hm, fun h => hn1 (hn48 h)⟩, d2.symm, d3, ?_, hn48⟩
              intro hu
              cases b with
              | true => rfl
              | false =>
                simp only [fin] at hb
                rw [if_pos ⟨hu, trivial⟩] at hb
                exact absurd rfl hb
      have digs20 : ∀ (m : List Int), Canon m → dv m 0 ≤ 9223372036854775808 → num_Text.digs 20 ((dv m 0 : Nat) : Int) [] = m := by
        intro m hm hv
        have h1 := digs_of m.length m (max 20 m.length) [] rfl hm (by omega)
        obtain ⟨ds, e, hc, hd, hl⟩ := digs_canon 20 (dv m 0) [] (by omega) (by omega)
        rw [e, List.append_nil]
        have h2 := digs_of ds.length ds (max 20 m.length) [] rfl hc (by omega)
        rw [hd, h1, List.append_nil, List.append_nil] at h2
        exact h2.symm
      by_cases h45 : rd l 0 = 45
      · rw [if_pos h45] at hP
        obtain ⟨u, hc, hu, hle, _, hz⟩ := key l.length true (l.drop 1) hP (by
          have : l.drop 1 ≠ [] := by
            intro hh
            unfold body at hP
            rw [if_pos hh] at hP
            exact absurd rfl hP
          have := List.length_pos_iff.2 this
          rw [List.length_drop] at this
          omega) (by
          intro hh
          exfalso
          have : l.drop 1 ≠ [] := by
            intro hh
            unfold body at hP
            rw [if_pos hh] at hP
            exact absurd rfl hP
          have := List.length_pos_iff.2 this
          rw [List.length_drop] at this
          omega)
        have hne := List.length_pos_iff.2 hc.2.1
        rw [List.length_drop] at hne
        have hu0 : 0 < u := by
          have h48 : rd (l.drop 1) 0 ≠ 48 := fun h => by have := hz h; omega
          obtain ⟨c1, c2, _⟩ := hc
          generalize l.drop 1 = m at c1 c2 hu h48
          cases m with
          | nil => exact absurd rfl c2
          | cons x r =>
            have hx := (c1 x (by simp)).1
            have hx2 : x ≠ 48 := h48
            have := dv_mono r (0 * 10 + (x - 48).toNat)
            simp only [dv] at hu
            omega
        refine ⟨-(u : Int), by omega, by omega, ?_⟩
        unfold T
        rw [if_pos (by omega), num_abs, show (-(u : Int)).natAbs = u by omega, ← hu, digs20 _ hc (by omega)]
        have : l.drop 0 = rd l ((0 : Nat) : Int) :: l.drop 1 := drop_rd hlen
        rw [List.drop_zero] at this
        rw [this]
        congr 1
        exact h45.symm
      · rw [if_neg h45] at hP
        obtain ⟨u, hc, hu, hle, hb, hz⟩ := key l.length false l hP (.inl rfl) (fun h => h)
        have hu2 : u ≠ 9223372036854775808 := fun h => by have := hb h; cases this
        refine ⟨(u : Int), by omega, by omega, ?_⟩
        unfold T
        rw [if_neg (by omega), num_abs, show ((u : Int)).natAbs = u by omega, ← hu, digs20 _ hc (by omega)]
end Go.Proofs.YtdbpdcjlbopkbaaDoor.Q
