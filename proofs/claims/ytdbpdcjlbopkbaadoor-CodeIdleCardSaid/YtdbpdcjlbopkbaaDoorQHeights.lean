/- The program's way with heights: places wait, one after the other is taken. -/
import Derived.Test.YtdbpdcjlbopkbaaDoorPx7
import Derived.Test.YtdbpdcjlbopkbaaDoorPx8
import Derived.Test.YtdbpdcjlbopkbaaDoorQNet
-- use: QNet
namespace Go.Proofs.YtdbpdcjlbopkbaaDoor.Q
set_option linter.unusedVariables false
set_option linter.unusedSimpArgs false
open Go.RowKit Go.Proofs.YtdbpdcjlbopkbaaDoorW.PrintWords Go.Proofs.YtdbpdcjlbopkbaaDoorW.PrintLast Go.Proofs.YtdbpdcjlbopkbaaDoorW.PrintMore Go.Proofs.YtdbpdcjlbopkbaaDoor.P

/-- What an answer says of a net. -/
def Tells (N : Net) (r : Bool × List Int) : Prop := (r.1 = true ∧ N.True_ r.2 ∧ N.Whole r.2) ∨ (r.1 = false ∧ N.Bad)

section
variable (l : List Cod) (ins : List Ins) (a b : Int) (c : Bool) (hv : ∀ p, p < ins.length → Valid l.length ins.length (rdI ins p))
/-- What holds while places wait. -/
structure Waits (N : Net) (W : List Int) (H : List Int) : Prop where
  tr : N.True_ H
  inn : ∀ w ∈ W, ∃ p : Nat, w = p ∧ p < N.n ∧ 0 ≤ rd H p
  cov : ∀ p, p < N.n → 0 ≤ rd H p → (p : Int) ∈ W ∨ N.Done H p

theorem bad_far {N : Net} {p q : Nat} {h : Int} (hr : N.R p h) (hp : p < N.n) (hk : N.ok p h = true) (hq : (q : Int) ∈ N.nx p) (hf : N.n ≤ q) : N.Bad := ⟨q, _, .step hr hp hk hq, .inl hf⟩
theorem bad_two {N : Net} {p q : Nat} {h g : Int} (hr : N.R p h) (hp : p < N.n) (hk : N.ok p h = true) (hq : (q : Int) ∈ N.nx p) (hg : N.R q g) (hne : g ≠ N.d p h) : N.Bad := ⟨q, _, .step hr hp hk hq, .inr (.inr ⟨g, hg, hne⟩)⟩
theorem bad_here {N : Net} {p : Nat} {h : Int} (hr : N.R p h) (hk : N.ok p h = false) : N.Bad := ⟨p, h, hr, .inr (.inl hk)⟩

/-- The places that come next of one, one after the other. -/
theorem inner (at_ : Nat) (hat : at_ < ins.length) (h : Int) (h0 : 0 ≤ h) (hk : (net l ins hv).ok at_ h = true) (hr : (net l ins hv).R at_ h) (m : Nat) (hm : m ≤ 70000)
    (out : ∀ W H, Waits (net l ins hv) W H → W.length + Net.left H ≤ m → ∃ r, Ev (fun k => code_checker_heights.l1 k W l ins a b c H) r ∧ Tells (net l ins hv) r) :
    ∀ (d j : Nat) (W H : List Int), j + d = (nxt (rdI ins at_) at_).length → (net l ins hv).True_ H → rd H at_ = h → W.length + Net.left H ≤ m → (∀ w ∈ W, ∃ p : Nat, w = p ∧ p < ins.length ∧ 0 ≤ rd H p) →
      (∀ p, p < ins.length → 0 ≤ rd H p → (p : Int) ∈ W ∨ p = at_ ∨ (net l ins hv).Done H p) →
      (∀ i, (hi : i < (nxt (rdI ins at_) at_).length) → i < j → ((nxt (rdI ins at_) at_)[i]) < (ins.length : Int) ∧ 0 ≤ rd H ((nxt (rdI ins at_) at_)[i]) ∧ rd H ((nxt (rdI ins at_) at_)[i]) = (net l ins hv).d at_ h) →
      ∃ r, Ev (fun k => code_checker_heights.l2 k W h (mv l (rdI ins at_)).1 (mv l (rdI ins at_)).2 (nxt (rdI ins at_) at_) ((nxt (rdI ins at_) at_).length : Int) (j : Int) l ins a b c H) r ∧ Tells (net l ins hv) r := by
  have hmv := mv_in l (hv at_ hat)
  have hh := okH_iff.1 hk
  have hd : (net l ins hv).d at_ h = h - (mv l (rdI ins at_)).1 + (mv l (rdI ins at_)).2 := rfl
  have hw := step_wrap h0 (by omega : h ≤ 5000) hmv.1 hmv.2.1 hmv.2.2.1 hmv.2.2.2
  have hdp : 0 ≤ (net l ins hv).d at_ h := (net l ins hv).pos at_ h hat h0 hk
  have hqs : (nxt (rdI ins at_) at_).length ≤ 2 := nxt_len _ _
  have hq0 := fun q hq => nxt_in (hv at_ hat) at_ q hq
  have hnx : (net l ins hv).nx at_ = nxt (rdI ins at_) at_ := rfl
  intro d
  induction d with
  | zero =>
    intro j W H hj hT hH hW hi hc hpre
    obtain rfl : j = (nxt (rdI ins at_) at_).length := by omega
    obtain ⟨r, h1, h2⟩ := out W H ⟨hT, hi, fun p hp hp0 => by
      rcases hc p hp hp0 with h | rfl | h
      · exact .inl h
      · right
        refine ⟨by rw [hH]; exact hk, fun q hq => ?_⟩
        obtain ⟨i, hi, rfl⟩ := List.getElem_of_mem hq
        obtain ⟨x, y, z⟩ := hpre i hi hi
        exact ⟨x, y, by rw [hH]; exact z⟩
      · exact .inr h⟩ hW
    refine ⟨r, ?_, h2⟩
    refine evs ?_
    have c1 := ff (Int.lt_irrefl ((nxt (rdI ins at_) at_).length : Int))
    simp only [code_checker_heights.l2, c1, if_false]
    exact h1
  | succ d ih =>
    intro j W H hj hT hH hW hi hc hpre
    have hlt : j < (nxt (rdI ins at_) at_).length := by omega
    have hmem : (nxt (rdI ins at_) at_)[j] ∈ nxt (rdI ins at_) at_ := List.getElem_mem hlt
    have hpj : ∀ i (hi : i < (nxt (rdI ins at_) at_).length), i < j + 1 → i < j ∨ i = j := fun i _ h => by omega
    have c1 := tt (show (j : Int) < ((nxt (rdI ins at_) at_).length : Int) by omega)
    have c2 := tt (show (0 : Int) ≤ (j : Int) by omega)
    have b1 : j + 1 ≤ 1000000000000 := by omega
    have e1 := rd_at (l := nxt (rdI ins at_) at_) hlt
    obtain ⟨g0, g1⟩ := hq0 _ hmem
    obtain ⟨q, hq⟩ : ∃ q : Nat, (nxt (rdI ins at_) at_)[j] = q := ⟨((nxt (rdI ins at_) at_)[j]).toNat, by omega⟩
    rw [hq] at e1 g0 g1 hmem
    have hlen := hT.len
    have hN : (net l ins hv).n = ins.length := rfl
    rw [hN] at hlen
    by_cases f1 : (q : Int) ≥ (H.length : Int)
    · refine ⟨(false, H), ?_, .inr ⟨rfl, bad_far hr hat hk hmem (by rw [hN]; omega)⟩⟩
      refine evs ?_
      simp only [code_checker_heights.l2, c1, c2, if_true, e1, tt f1]
      exact Ev.now _
    have d1 := ff f1
    have d2 := tt (show (0 : Int) ≤ (q : Int) by omega)
    have d3 := tt (show (q : Int) < (H.length : Int) by omega)
    by_cases f2 : rd H (q : Int) < 0
    · have hne : q ≠ at_ := by rintro rfl; omega
      have hR : (net l ins hv).R q ((net l ins hv).d at_ h) := .step hr hat hk hmem
      have hT' := Net.true_set hT (v := (net l ins hv).d at_ h) f2 (by rw [hN]; omega) hdp hR
      have hl' := Net.left_set (H := H) (q := q) (v := (net l ins hv).d at_ h) (by omega) f2 hdp
      have hat' : rd (H.set q ((net l ins hv).d at_ h)) at_ = h := by rw [Net.rd_set_ne' hne]; exact hH
      have hmono : ∀ p : Nat, 0 ≤ rd H p → rd (H.set q ((net l ins hv).d at_ h)) p = rd H p := fun p hp => rd_set_ne _ _ _ _ (by rintro rfl; omega)
      have hhere : rd (H.set q ((net l ins hv).d at_ h)) q = (net l ins hv).d at_ h := rd_set_eq _ _ _ (by omega)
      obtain ⟨r, h1, h2⟩ := ih (j + 1) (W ++ [(q : Int)]) (H.set q ((net l ins hv).d at_ h)) (by omega) hT' hat' (by simp only [List.length_append, List.length_cons, List.length_nil]; omega)
        (fun w hw => by
          rcases List.mem_append.1 hw with hw | hw
          · obtain ⟨p, rfl, x, y⟩ := hi w hw
            exact ⟨p, rfl, x, by rw [hmono p y]; exact y⟩
          · simp at hw
            exact ⟨q, hw, by omega, by rw [hhere]; exact hdp⟩)
        (fun p hp hp0 => by
          by_cases e : p = q
          · left; subst e; simp
          · rw [rd_set_ne _ _ _ _ (fun h => e h.symm)] at hp0
            rcases hc p hp hp0 with h | h | h
            · left; simp [h]
            · exact .inr (.inl h)
            · exact .inr (.inr (Net.done_set (by rw [hN]; exact hlen) f2 hp hp0 (net l ins hv).fwd h)))
        (fun i hi' hij => by
          rcases hpj i hi' hij with h | rfl
          · obtain ⟨x, y, z⟩ := hpre i hi' h
            obtain ⟨g, _⟩ := hq0 _ (List.getElem_mem hi')
            obtain ⟨u, hu⟩ : ∃ u : Nat, (nxt (rdI ins at_) at_)[i] = u := ⟨((nxt (rdI ins at_) at_)[i]).toNat, by omega⟩
            rw [hu] at x y z ⊢
            rw [hmono u y]
            exact ⟨x, y, z⟩
          · rw [hq, hhere]
            exact ⟨by omega, hdp, rfl⟩)
      refine ⟨r, ?_, h2⟩
      refine evs ?_
      have d4 := tt (show W.length < 17592186044416 by omega)
      simp only [code_checker_heights.l2, c1, c2, if_true, e1, d1, if_false, d2, d3, tt f2, d4, hw, wsucc b1, Int.toNat_natCast]
      exact h1
    · have hR : (net l ins hv).R q (rd H q) := hT.here q (by rw [hN]; omega) (by omega)
      by_cases f3 : rd H (q : Int) = (net l ins hv).d at_ h
      · obtain ⟨r, h1, h2⟩ := ih (j + 1) W H (by omega) hT hH hW hi hc (fun i hi' hij => by
          rcases hpj i hi' hij with h | rfl
          · exact hpre i hi' h
          · rw [hq]
            exact ⟨by omega, by omega, f3⟩)
        refine ⟨r, ?_, h2⟩
        refine evs ?_
        simp only [code_checker_heights.l2, c1, c2, if_true, e1, d1, if_false, d2, d3, ff f2, hw, wsucc b1, tt (hd ▸ f3)]
        exact h1
      · refine ⟨(false, H), ?_, .inr ⟨rfl, bad_two hr hat hk hmem hR f3⟩⟩
        refine evs ?_
        simp only [code_checker_heights.l2, c1, c2, if_true, e1, d1, if_false, d2, d3, ff f2, hw, ff (hd ▸ f3)]
        exact Ev.now _

theorem outer (hn : ins.length ≤ 65536) : ∀ (m : Nat) (W H : List Int), m ≤ 70000 → Waits (net l ins hv) W H → W.length + Net.left H ≤ m → ∃ r, Ev (fun k => code_checker_heights.l1 k W l ins a b c H) r ∧ Tells (net l ins hv) r := by
  intro m
  induction m with
  | zero =>
    intro W H _ hS hm
    obtain rfl : W = [] := List.length_eq_zero_iff.1 (by omega)
    refine ⟨(true, H), ?_, .inl ⟨rfl, hS.tr, fun p hp h0 => (hS.cov p hp h0).resolve_left (by simp)⟩⟩
    refine evs ?_
    have c1 := ff (show ¬ (([] : List Int).length : Int) > 0 by simp)
    simp only [code_checker_heights.l1, c1, if_false]
    exact Ev.now _
  | succ m ih =>
    intro W H hm7 hS hm
    rcases List.eq_nil_or_concat W with rfl | ⟨V, w, rfl⟩
    · refine ⟨(true, H), ?_, .inl ⟨rfl, hS.tr, fun p hp h0 => (hS.cov p hp h0).resolve_left (by simp)⟩⟩
      refine evs ?_
      have c1 := ff (show ¬ (([] : List Int).length : Int) > 0 by simp)
      simp only [code_checker_heights.l1, c1, if_false]
      exact Ev.now _
    · obtain ⟨at_, rfl, hat, hat0⟩ := hS.inn w (by simp)
      have hN : (net l ins hv).n = ins.length := rfl
      rw [hN] at hat
      have hlen := hS.tr.len
      rw [hN] at hlen
      rw [List.concat_eq_append] at hS hm ⊢
      have hVl : (V ++ [(at_ : Int)]).length = V.length + 1 := by simp
      rw [hVl] at hm
      have e1 : wrap64 (((V ++ [(at_ : Int)]).length : Int) - 1) = ((V.length : Nat) : Int) := by rw [hVl, w64 (by omega) (by omega)]; omega
      have e2 : rd (V ++ [(at_ : Int)]) ((V.length : Nat) : Int) = (at_ : Int) := by rw [rd_at (by simp)]; simp
      have e3 : (V ++ [(at_ : Int)]).take V.length = V := by simp
      have c1 := tt (show ((V ++ [(at_ : Int)]).length : Int) > 0 by rw [hVl]; omega)
      have c2 := tt (show (0 : Int) ≤ ((V.length : Nat) : Int) by omega)
      have c3 := tt (show ((V.length : Nat) : Int) < ((V ++ [(at_ : Int)]).length : Int) by rw [hVl]; omega)
      have c4 := tt (show ((V.length : Nat) : Int) ≤ ((V ++ [(at_ : Int)]).length : Int) by rw [hVl]; omega)
      have c5 := tt (show (0 : Int) ≤ (at_ : Int) by omega)
      have c6 := tt (show (at_ : Int) < (ins.length : Int) by omega)
      have c7 := tt (show (at_ : Int) < (H.length : Int) by omega)
      have hV := hv at_ hat
      have hmv := moves_at l hV
      have hnx := next_at (rdI ins at_) at_ (by omega)
      have hR := hS.tr.here at_ hat hat0
      have fin : ∃ r, Ev (fun k => code_checker_heights.j2 k V at_ (rd H at_) (mv l (rdI ins at_)).1 (mv l (rdI ins at_)).2 (!okH l (rdI ins at_) (rd H at_)) l ins a b c H (rdI ins at_).f0 (rdI ins at_).f1 (rdI ins at_).f2) r ∧ Tells (net l ins hv) r := by
        by_cases hk : okH l (rdI ins at_) (rd H at_) = true
        · obtain ⟨r, h1, h2⟩ := inner l ins a b c hv at_ hat (rd H at_) hat0 hk hR m (by omega) (fun W' H' h1 h2 => ih W' H' (by omega) h1 h2) (nxt (rdI ins at_) at_).length 0 V H (by omega) hS.tr rfl (by omega)
            (fun x hx => hS.inn x (by simp [hx]))
            (fun p hp hp0 => by
              rcases hS.cov p hp hp0 with h | h
              · rcases List.mem_append.1 h with h | h
                · exact .inl h
                · simp at h; exact .inr (.inl (by omega))
              · exact .inr (.inr h))
            (fun i _ h => by omega)
          refine ⟨r, ?_, h2⟩
          refine evs ?_
          have d1 := ff (show ¬ ((!okH l (rdI ins at_) (rd H at_)) = true) by rw [hk]; decide)
          simp only [code_checker_heights.j2, d1, if_false, hnx, Option.bind_some]
          exact h1
        · have hk' : okH l (rdI ins at_) (rd H at_) = false := by simpa using hk
          refine ⟨(false, H), ?_, .inr ⟨rfl, bad_here hR hk'⟩⟩
          refine evs ?_
          have d1 := tt (show ((!okH l (rdI ins at_) (rd H at_)) = true) by rw [hk']; decide)
          simp only [code_checker_heights.j2, d1, if_true]
          exact Ev.now _
      obtain ⟨r, h1, h2⟩ := fin
      refine ⟨r, ?_, h2⟩
      refine evs ?_
      simp only [code_checker_heights.l1, e1, e2, c1, c2, c3, c4, c5, c6, c7, if_true, Int.toNat_natCast, e3, Option.bind_some]
      rw [show code_checker_moves.f l (rdI ins at_).f0 (rdI ins at_).f1 (rdI ins at_).f2 = some (mv l (rdI ins at_)) from hmv]
      simp only [Option.bind_some]
      have hb : ∀ (P : Prop) [Decidable P] (B : Bool), (P → B = true) → (¬ P → B = false) → B = decide P := fun P _ B h1 h2 => by
        by_cases h : P
        · rw [h1 h, decide_eq_true h]
        · rw [h2 h, decide_eq_false h]
      by_cases g1 : rd H at_ < (mv l (rdI ins at_)).1
      · rw [show (!okH l (rdI ins at_) (rd H at_)) = true by simp [okH, g1]] at h1
        simp only [tt g1, if_true]
        exact h1
      by_cases g2 : rd H at_ > 4096
      · rw [show (!okH l (rdI ins at_) (rd H at_)) = true by simp [okH, g1]; omega] at h1
        simp only [ff g1, tt g2, if_true, if_false]
        exact h1
      by_cases g3 : (rdI ins at_).f0 = 20
      · by_cases g4 : rd H at_ = (mv l (rdI ins at_)).1
        · rw [show (!okH l (rdI ins at_) (rd H at_)) = false by simp [okH, g3, g4]; omega] at h1
          simp only [ff g1, ff g2, tt g3, tt g4, ff (show ¬ (rdI ins at_).f0 = 24 by omega), if_true, if_false]
          exact h1
        · rw [show (!okH l (rdI ins at_) (rd H at_)) = true by simp [okH, g1, g3, g4]] at h1
          simp only [ff g1, ff g2, tt g3, ff g4, if_true, if_false]
          exact h1
      · by_cases g4 : (rdI ins at_).f0 = 24
        · by_cases g5 : rd H at_ = 0
          · rw [show (!okH l (rdI ins at_) (rd H at_)) = (rd H at_ != 0) by simp [okH, g1, g3, g4, g5]; omega] at h1
            simp only [ff g1, ff g2, ff g3, tt g4, if_true, if_false]
            exact h1
          · rw [show (!okH l (rdI ins at_) (rd H at_)) = (rd H at_ != 0) by simp [okH, g1, g3, g4, g5]] at h1
            simp only [ff g1, ff g2, ff g3, tt g4, if_true, if_false]
            exact h1
        · rw [show (!okH l (rdI ins at_) (rd H at_)) = false by simp [okH, g3, g4]; omega] at h1
          simp only [ff g1, ff g2, ff g3, ff g4, if_true, if_false]
          exact h1
end
end Go.Proofs.YtdbpdcjlbopkbaaDoor.Q
