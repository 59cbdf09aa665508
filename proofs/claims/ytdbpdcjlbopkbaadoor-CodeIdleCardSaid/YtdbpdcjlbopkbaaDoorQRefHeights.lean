/- The reference's way with heights: round by round. -/
import Derived.Test.YtdbpdcjlbopkbaaDoorPx20
import Derived.Test.YtdbpdcjlbopkbaaDoorPx21
import Derived.Test.YtdbpdcjlbopkbaaDoorQHeights
-- use: QHeights
namespace Go.Proofs.YtdbpdcjlbopkbaaDoor.Q
set_option linter.unusedVariables false
set_option linter.unusedSimpArgs false
open Go.RowKit Go.Proofs.YtdbpdcjlbopkbaaDoorW.PrintWords Go.Proofs.YtdbpdcjlbopkbaaDoorW.PrintLast Go.Proofs.YtdbpdcjlbopkbaaDoorW.PrintMore Go.Proofs.YtdbpdcjlbopkbaaDoor.P

/-- What the reference's answer says of a net. -/
def RTells (N : Net) (r : List Int × Bool) : Prop := (r.2 = true ∧ N.True_ r.1 ∧ N.Whole r.1) ∨ (r = ([], false) ∧ N.Bad)

section
variable (l : List Cod) (ins : List Ins) (a b : Int) (c : Bool) (hv : ∀ p, p < ins.length → Valid l.length ins.length (rdI ins p))

/-- What holds in a round, ahead of place i; 'more' tells whether a height was told in it. -/
structure Round (N : Net) (m : Nat) (more : Bool) (i : Nat) (H : List Int) : Prop where
  tr : N.True_ H
  le : Net.left H ≤ m
  lt : more = true → Net.left H + 1 ≤ m
  done : more = false → ∀ p, p < i → p < N.n → 0 ≤ rd H p → N.Done H p

theorem rinner (hn : ins.length ≤ 65536) (at_ : Nat) (hat : at_ < ins.length) (h : Int) (h0 : 0 ≤ h) (hk : (net l ins hv).ok at_ h = true) (hr : (net l ins hv).R at_ h) (m : Nat)
    (out : ∀ more H, Round (net l ins hv) m more (at_ + 1) H → ∃ r, Ev (fun k => parallaxref08_Heights.l2 k l H more ((at_ + 1 : Nat) : Int) ins a b c) r ∧ RTells (net l ins hv) r) :
    ∀ (d j : Nat) (more : Bool) (H : List Int), j + d = (nxt (rdI ins at_) at_).length → Round (net l ins hv) m more at_ H → rd H at_ = h →
      (more = false → ∀ i, (hi : i < (nxt (rdI ins at_) at_).length) → i < j → ((nxt (rdI ins at_) at_)[i]) < (ins.length : Int) ∧ 0 ≤ rd H ((nxt (rdI ins at_) at_)[i]) ∧ rd H ((nxt (rdI ins at_) at_)[i]) = (net l ins hv).d at_ h) →
      ∃ r, Ev (fun k => parallaxref08_Heights.l3 k l H more (at_ : Int) (mv l (rdI ins at_)).1 (mv l (rdI ins at_)).2 (nxt (rdI ins at_) at_) (j : Int) ins a b c) r ∧ RTells (net l ins hv) r := by
  have hmv := mv_in l (hv at_ hat)
  have hh := okH_iff.1 hk
  have hd : (net l ins hv).d at_ h = h - (mv l (rdI ins at_)).1 + (mv l (rdI ins at_)).2 := rfl
  have hw := step_wrap h0 (by omega : h ≤ 5000) hmv.1 hmv.2.1 hmv.2.2.1 hmv.2.2.2
  have hdp : 0 ≤ (net l ins hv).d at_ h := (net l ins hv).pos at_ h hat h0 hk
  have hqs : (nxt (rdI ins at_) at_).length ≤ 2 := nxt_len _ _
  have hq0 := fun q hq => nxt_in (hv at_ hat) at_ q hq
  have hnx : (net l ins hv).nx at_ = nxt (rdI ins at_) at_ := rfl
  have hN : (net l ins hv).n = ins.length := rfl
  intro d
  induction d with
  | zero =>
    intro j more H hj hS hH hpre
    obtain rfl : j = (nxt (rdI ins at_) at_).length := by omega
    obtain ⟨r, h1, h2⟩ := out more H ⟨hS.tr, hS.le, hS.lt, fun hm p hp hpn hp0 => by
      by_cases e : p = at_
      · subst e
        refine ⟨by rw [hH]; exact hk, fun q hq => ?_⟩
        obtain ⟨i, hi, rfl⟩ := List.getElem_of_mem hq
        obtain ⟨x, y, z⟩ := hpre hm i hi hi
        exact ⟨x, y, by rw [hH]; exact z⟩
      · exact hS.done hm p (by omega) hpn hp0⟩
    refine ⟨r, ?_, h2⟩
    refine evs ?_
    have c1 := ff (Int.lt_irrefl ((nxt (rdI ins at_) at_).length : Int))
    have b1 : at_ + 1 ≤ 1000000000000 := by omega
    simp only [parallaxref08_Heights.l3, c1, if_false, wsucc b1]
    exact h1
  | succ d ih =>
    intro j more H hj hS hH hpre
    have hlt : j < (nxt (rdI ins at_) at_).length := by omega
    have hmem : (nxt (rdI ins at_) at_)[j] ∈ nxt (rdI ins at_) at_ := List.getElem_mem hlt
    have hpj : ∀ i (hi : i < (nxt (rdI ins at_) at_).length), i < j + 1 → i < j ∨ i = j := fun i _ h => by omega
    have c1 := tt (show (j : Int) < ((nxt (rdI ins at_) at_).length : Int) by omega)
    have c2 := tt (show (0 : Int) ≤ (j : Int) by omega)
    have b1 : j + 1 ≤ 1000000000000 := by omega
    have e1 := rd_at (l := nxt (rdI ins at_) at_) hlt
    obtain ⟨g0, g1⟩ := hq0 _ hmem
    obtain ⟨q, hq⟩ : ∃ q : Nat, (nxt (rdI ins at_) at_)[j] = q := ⟨((nxt (rdI ins at_) at_)[j]).toNat, by omega⟩
    rw [hq] at e1 g0 g1 hmem
    have hT := hS.tr
    have hlen := hT.len
    rw [hN] at hlen
    by_cases f1 : (q : Int) ≥ (H.length : Int)
    · refine ⟨([], false), ?_, .inr ⟨rfl, bad_far hr hat hk hmem (by rw [hN]; omega)⟩⟩
      refine evs ?_
      simp only [parallaxref08_Heights.l3, c1, c2, if_true, e1, tt f1]
      exact Ev.now _
    have d1 := ff f1
    have d2 := tt (show (0 : Int) ≤ (q : Int) by omega)
    have d3 := tt (show (q : Int) < (H.length : Int) by omega)
    have d4 := tt (show (0 : Int) ≤ (at_ : Int) by omega)
    have d5 := tt (show (at_ : Int) < (H.length : Int) by omega)
    by_cases f2 : rd H (q : Int) < 0
    · have hne : q ≠ at_ := by rintro rfl; omega
      have hR : (net l ins hv).R q ((net l ins hv).d at_ h) := .step hr hat hk hmem
      have hT' := Net.true_set hT (v := (net l ins hv).d at_ h) f2 (by rw [hN]; omega) hdp hR
      have hl' := Net.left_set (H := H) (q := q) (v := (net l ins hv).d at_ h) (by omega) f2 hdp
      have hat' : rd (H.set q ((net l ins hv).d at_ h)) at_ = h := by rw [Net.rd_set_ne' hne]; exact hH
      have hhere : rd (H.set q ((net l ins hv).d at_ h)) q = (net l ins hv).d at_ h := rd_set_eq _ _ _ (by omega)
      have hle := hS.le
      obtain ⟨r, h1, h2⟩ := ih (j + 1) true (H.set q ((net l ins hv).d at_ h)) (by omega) ⟨hT', by omega, fun _ => by omega, fun h => by cases h⟩ hat' (fun h => by cases h)
      refine ⟨r, ?_, h2⟩
      refine evs ?_
      rw [hd] at hat' hhere h1
      simp only [parallaxref08_Heights.l3, c1, c2, if_true, e1, d1, if_false, d2, d3, tt f2, d4, d5, hH, hw, wsucc b1, Int.toNat_natCast, Option.bind_some, hat', hhere]
      exact h1
    · have hR : (net l ins hv).R q (rd H q) := hT.here q (by rw [hN]; omega) (by omega)
      by_cases f3 : rd H (q : Int) = (net l ins hv).d at_ h
      · obtain ⟨r, h1, h2⟩ := ih (j + 1) more H (by omega) hS hH (fun hm i hi' hij => by
          rcases hpj i hi' hij with h | rfl
          · exact hpre hm i hi' h
          · rw [hq]
            exact ⟨by omega, by omega, f3⟩)
        refine ⟨r, ?_, h2⟩
        refine evs ?_
        simp only [parallaxref08_Heights.l3, c1, c2, if_true, e1, d1, if_false, d2, d3, ff f2, d4, d5, hH, hw, wsucc b1, tt (hd ▸ f3)]
        exact h1
      · refine ⟨([], false), ?_, .inr ⟨rfl, bad_two hr hat hk hmem hR f3⟩⟩
        refine evs ?_
        simp only [parallaxref08_Heights.l3, c1, c2, if_true, e1, d1, if_false, d2, d3, ff f2, d4, d5, hH, hw, ff (hd ▸ f3)]
        exact Ev.now _

theorem rplaces (hn : ins.length ≤ 65536) (m : Nat) (out : ∀ more H, Round (net l ins hv) m more ins.length H → ∃ r, Ev (fun k => parallaxref08_Heights.l1 k l H more ins a b c) r ∧ RTells (net l ins hv) r) :
    ∀ (d at_ : Nat) (more : Bool) (H : List Int), at_ + d = ins.length → Round (net l ins hv) m more at_ H → ∃ r, Ev (fun k => parallaxref08_Heights.l2 k l H more (at_ : Int) ins a b c) r ∧ RTells (net l ins hv) r := by
  have hN : (net l ins hv).n = ins.length := rfl
  intro d
  induction d with
  | zero =>
    intro at_ more H he hS
    obtain rfl : at_ = ins.length := by omega
    have hlen := hS.tr.len
    rw [hN] at hlen
    obtain ⟨r, h1, h2⟩ := out more H hS
    refine ⟨r, ?_, h2⟩
    refine evs ?_
    have c1 := ff (show ¬ (ins.length : Int) < (H.length : Int) by omega)
    simp only [parallaxref08_Heights.l2, c1, if_false]
    exact h1
  | succ d ih =>
    intro at_ more H he hS
    have hlen := hS.tr.len
    rw [hN] at hlen
    have hat : at_ < ins.length := by omega
    have c1 := tt (show (at_ : Int) < (H.length : Int) by omega)
    have c2 := tt (show (0 : Int) ≤ (at_ : Int) by omega)
    have c3 := tt (show (at_ : Int) < (ins.length : Int) by omega)
    have b1 : at_ + 1 ≤ 1000000000000 := by omega
    by_cases f : rd H (at_ : Int) < 0
    · obtain ⟨r, h1, h2⟩ := ih (at_ + 1) more H (by omega) ⟨hS.tr, hS.le, hS.lt, fun hm p hp hpn hp0 => by
        by_cases e : p = at_
        · subst e; omega
        · exact hS.done hm p (by omega) hpn hp0⟩
      refine ⟨r, ?_, h2⟩
      refine evs ?_
      simp only [parallaxref08_Heights.l2, c1, c2, if_true, tt f, wsucc b1]
      exact h1
    · have hat0 : 0 ≤ rd H (at_ : Int) := by omega
      have hV := hv at_ hat
      have hmv := effect_at l hV
      have hnx := follow_at (rdI ins at_) at_ (by omega)
      have hR := hS.tr.here at_ hat hat0
      have fin : ∃ r, Ev (fun k => parallaxref08_Heights.j4 k l H more at_ (mv l (rdI ins at_)).1 (mv l (rdI ins at_)).2 (!okH l (rdI ins at_) (rd H at_)) ins a b c (rdI ins at_).f0 (rdI ins at_).f1 (rdI ins at_).f2) r ∧ RTells (net l ins hv) r := by
        by_cases hk : okH l (rdI ins at_) (rd H at_) = true
        · obtain ⟨r, h1, h2⟩ := rinner l ins a b c hv hn at_ hat (rd H at_) hat0 hk hR m (fun more H hS => ih (at_ + 1) more H (by omega) hS) (nxt (rdI ins at_) at_).length 0 more H (by omega) hS rfl (fun _ i _ h => by omega)
          refine ⟨r, ?_, h2⟩
          refine evs ?_
          have d1 := ff (show ¬ ((!okH l (rdI ins at_) (rd H at_)) = true) by rw [hk]; decide)
          simp only [parallaxref08_Heights.j4, d1, if_false, hnx, Option.bind_some]
          exact h1
        · have hk' : okH l (rdI ins at_) (rd H at_) = false := by simpa using hk
          refine ⟨([], false), ?_, .inr ⟨rfl, bad_here hR hk'⟩⟩
          refine evs ?_
          have d1 := tt (show ((!okH l (rdI ins at_) (rd H at_)) = true) by rw [hk']; decide)
          simp only [parallaxref08_Heights.j4, d1, if_true]
          exact Ev.now _
      obtain ⟨r, h1, h2⟩ := fin
      refine ⟨r, ?_, h2⟩
      refine evs ?_
      simp only [parallaxref08_Heights.l2, c1, c2, c3, if_true, if_false, ff f]
      rw [show parallaxref08_effect.f l (rdI ins at_).f0 (rdI ins at_).f1 (rdI ins at_).f2 = some (mv l (rdI ins at_)) from hmv]
      simp only [Option.bind_some]
      by_cases g1 : rd H at_ < (mv l (rdI ins at_)).1
      · rw [show (!okH l (rdI ins at_) (rd H at_)) = true by simp [okH, g1]] at h1
        simp only [tt g1, if_true]
        exact h1
      by_cases g2 : rd H at_ > 4096
      · rw [show (!okH l (rdI ins at_) (rd H at_)) = true by simp [okH, g1]; omega] at h1
        simp only [ff g1, tt g2, if_true, if_false]
        exact h1
      by_cases g3 : (rdI ins at_).f0 = 24
      · by_cases g5 : rd H at_ = 0
        · rw [show (!okH l (rdI ins at_) (rd H at_)) = false by simp [okH, g3, g5]; omega] at h1
          simp only [ff g1, ff g2, tt g3, tt g5, ff (show ¬ (rdI ins at_).f0 = 20 by omega), if_true, if_false]
          exact h1
        · rw [show (!okH l (rdI ins at_) (rd H at_)) = true by simp [okH, g1, g3, g5]] at h1
          simp only [ff g1, ff g2, tt g3, ff g5, if_true, if_false]
          exact h1
      · by_cases g4 : (rdI ins at_).f0 = 20
        · have e9 : (!okH l (rdI ins at_) (rd H at_)) = (rd H at_ != (mv l (rdI ins at_)).1) := by
            by_cases g5 : rd H at_ = (mv l (rdI ins at_)).1
            · simp [okH, g4, g5]; omega
            · simp [okH, g1, g4, g5]
          rw [e9] at h1
          simp only [ff g1, ff g2, ff g3, tt g4, if_true, if_false]
          exact h1
        · rw [show (!okH l (rdI ins at_) (rd H at_)) = false by simp [okH, g3, g4]; omega] at h1
          simp only [ff g1, ff g2, ff g3, ff g4, if_true, if_false]
          exact h1

theorem rouner (hn : ins.length ≤ 65536) : ∀ (m : Nat) (more : Bool) (H : List Int), (net l ins hv).True_ H → (more = true → Net.left H ≤ m) → (more = false → (net l ins hv).Whole H) → ∃ r, Ev (fun k => parallaxref08_Heights.l1 k l H more ins a b c) r ∧ RTells (net l ins hv) r := by
  have stop : ∀ H, (net l ins hv).True_ H → (net l ins hv).Whole H → ∃ r, Ev (fun k => parallaxref08_Heights.l1 k l H false ins a b c) r ∧ RTells (net l ins hv) r := fun H hT hW => by
    refine ⟨(H, true), ?_, .inl ⟨rfl, hT, hW⟩⟩
    refine evs ?_
    have c1 := ff (show ¬ (false = true) by decide)
    simp only [parallaxref08_Heights.l1, c1, if_false]
    exact Ev.now _
  intro m
  induction m with
  | zero =>
    intro more H hT hm hW
    cases more with
    | false => exact stop H hT (hW rfl)
    | true =>
      have h0 := hm rfl
      obtain ⟨r, h1, h2⟩ := rplaces l ins a b c hv hn 0 (fun more H hS => by
        cases more with
        | false => exact stop H hS.tr (fun p hp h0 => hS.done rfl p hp hp h0)
        | true => have := hS.lt rfl; omega) ins.length 0 false H (by omega) ⟨hT, h0, (fun h => by cases h), fun _ p hp => by omega⟩
      refine ⟨r, ?_, h2⟩
      refine evs ?_
      simp only [parallaxref08_Heights.l1, if_true]
      exact h1
  | succ m ih =>
    intro more H hT hm hW
    cases more with
    | false => exact stop H hT (hW rfl)
    | true =>
      have h0 := hm rfl
      obtain ⟨r, h1, h2⟩ := rplaces l ins a b c hv hn (m + 1) (fun more H hS => by
        cases more with
        | false => exact stop H hS.tr (fun p hp h0 => hS.done rfl p hp hp h0)
        | true => exact ih true H hS.tr (fun _ => by have := hS.lt rfl; omega) (fun h => by cases h)) ins.length 0 false H (by omega) ⟨hT, h0, (fun h => by cases h), fun _ p hp => by omega⟩
      refine ⟨r, ?_, h2⟩
      refine evs ?_
      simp only [parallaxref08_Heights.l1, if_true]
      exact h1
end
end Go.Proofs.YtdbpdcjlbopkbaaDoor.Q
