/- Codes made short twice are codes made short once: at every input, without a condition. -/
import Derived.Test.YtmbjogpphegoaaaDoorPx0
import Derived.Test.YtmbjogpphegoaaaDoorPx16
import Derived.Test.YtmbjogpphegoaaaDoorPx17
import Derived.Test.YtmbjogpphegoaaaDoorPx24
import Derived.Test.YtmbjogpphegoaaaDoorPx25
import Derived.Test.YtmbjogpphegoaaaDoorQM
-- use: QKnown10
namespace Go.Proofs.YtmbjogpphegoaaaDoor.Pure
set_option linter.unusedVariables false
set_option linter.unusedSimpArgs false
open Go.RowKit Go.Proofs.YtmbjogpphegoaaaDoor.P Go.Proofs.YtmbjogpphegoaaaDoorW.PrintWords Go.Proofs.YtmbjogpphegoaaaDoorW.PrintLast Go.Proofs.YtmbjogpphegoaaaDoorW.PrintMore Go.Proofs.YtmbjogpphegoaaaDoor.Q

/-- Codes at which nothing fits any more are left as they are. -/
theorem calm_make {a : List Cod} {m : Int} (fc : FitC a) (sa : SoundP a m) (hc : ∀ q, q < a.length → Stable (rdC a q).f0) : Ev (fun k => peep_Make.f k a m) (a, 0) := by
  have hsz := sound_good a fc sa
  have loop : ∀ (d i : Nat), i + d = a.length → Ev (fun k => peep_Make.l0 k (a.take i) a (a.length : Int) (i : Int)) (a, 0) := by
    intro d
    induction d with
    | zero =>
      intro i hi
      obtain rfl : i = a.length := by omega
      rw [List.take_length]
      refine evs ?_
      have c1 := ff (Int.lt_irrefl (a.length : Int))
      simp only [peep_Make.l0, c1, if_false]
      exact Ev.now _
    | succ d ih =>
      intro i hi
      have hlt : i < a.length := by omega
      have h40 := sa.1.2.1
      have c1 := tt (show (i : Int) < (a.length : Int) by omega)
      have c2 := tt (show (0 : Int) ≤ (i : Int) by omega)
      have ew : wrap64 ((i : Int) + 1) = ((i + 1 : Nat) : Int) := by rw [w64 (by omega) (by omega)]; rfl
      have hs := (hsz i hlt).shape.1
      have c3 := tt (show ([] : List Ins).length + (rd_T35 a (i : Int)).f0.length < 5864062014805 by
        have : (rd_T35 a (i : Int)).f0.length ≤ 65536 := hs.2.1
        simp only [List.length_nil]; omega)
      have c4 := tt (show (a.take i).length < 2932031007402 by rw [List.length_take]; omega)
      have next := ih (i + 1) (by omega)
      rw [List.take_succ_eq_append_getElem hlt] at next
      refine evs ?_
      simp only [peep_Make.l0, c1, c2, if_true, c3, List.nil_append]
      refine evs ?_
      simp only [peep_Make.l1, if_true]
      refine Ev.bind (hc i hlt).1 (evs ?_)
      simp only [peep_Make.l1, cff, if_false, c4, if_true, ew]
      have e : (⟨(rdC a i).f0, (rd_T35 a (i : Int)).f1, (rd_T35 a (i : Int)).f2, (rd_T35 a (i : Int)).f3⟩ : Cod) = a[i] := by rw [← rdC_at a i hlt]
      rw [e]
      exact next
  obtain ⟨r, h1, h3⟩ := Sound_ok a fc m
  unfold peep_Make.f
  refine Ev.bind h1 ?_
  rw [h3.2 sa]
  simp only [if_true]
  have := loop a.length 0 (by omega)
  simp only [List.take_zero] at this
  exact this
theorem same_ok (a : List Cod) (hl : a.length ≤ 1000) (hb : ∀ q, q < a.length → (rdC a q).f0.length ≤ 100000) : Ev (fun k => parallaxref10_Same.f k a a) true := by
  have loop : ∀ (d i : Nat), i + d = a.length → Ev (fun k => parallaxref10_Same.l0 k a a (i : Int)) true := by
    intro d
    induction d with
    | zero =>
      intro i hi
      obtain rfl : i = a.length := by omega
      refine evs ?_
      have c1 := ff (Int.lt_irrefl (a.length : Int))
      simp only [parallaxref10_Same.l0, c1, if_false]
      exact Ev.now _
    | succ d ih =>
      intro i hi
      have hlt : i < a.length := by omega
      have c1 := tt (show (i : Int) < (a.length : Int) by omega)
      have c2 := tt (show (0 : Int) ≤ (i : Int) by omega)
      have ew : wrap64 ((i : Int) + 1) = ((i + 1 : Nat) : Int) := by rw [w64 (by omega) (by omega)]; rfl
      have next := ih (i + 1) (by omega)
      have hbi : (rd_T35 a (i : Int)).f0.length ≤ 100000 := hb i hlt
      have inner : ∀ (d j : Nat), j + d = (rd_T35 a (i : Int)).f0.length → Ev (fun k => parallaxref10_Same.l1 k a a (i : Int) (j : Int)) true := by
        intro d
        induction d with
        | zero =>
          intro j hj
          refine evs ?_
          have c3 := ff (show ¬ (j : Int) < ((rd_T35 a (i : Int)).f0.length : Int) by omega)
          simp only [parallaxref10_Same.l1, c1, c2, c3, if_true, if_false, ew]
          exact next
        | succ d ihd =>
          intro j hj
          have c3 := tt (show (j : Int) < ((rd_T35 a (i : Int)).f0.length : Int) by omega)
          have c4 := tt (show (0 : Int) ≤ (j : Int) by omega)
          have ew2 : wrap64 ((j : Int) + 1) = ((j + 1 : Nat) : Int) := by rw [w64 (by omega) (by omega)]; rfl
          refine evs ?_
          simp only [parallaxref10_Same.l1, c1, c2, c3, c4, if_true, beq_self_eq_true, Bool.not_true, Bool.or_self, cff, if_false, ew2]
          exact ihd (j + 1) (by omega)
      refine evs ?_
      have e3 : ((rd_T35 a (i : Int)).f3 != (rd_T35 a (i : Int)).f3) = false := bne_self_eq_false _
      have e4 : (((rd_T35 a (i : Int)).f0.length : Int) != ((rd_T35 a (i : Int)).f0.length : Int)) = false := bne_self_eq_false _
      simp only [parallaxref10_Same.l0, c1, c2, if_true, e3, cff, if_false, e4]
      refine evs ?_
      simp only [parallaxref10_Same.j1, cff, if_false]
      exact inner (rd_T35 a (i : Int)).f0.length 0 (by omega)
  unfold parallaxref10_Same.f
  simp only [if_true]
  exact loop a.length 0 (by omega)
theorem rule_none {a : List Cod} {m : Int} (fc : FitC a) (sa : SoundP a m) {q p : Nat} (hq : q < a.length) (hp : p < (rdC a q).f0.length) (hc : Stable (rdC a q).f0) : Ev (fun k => peep_Rule.f k a (q : Int) (p : Int)) 0 := by
  obtain ⟨t, h1, ht⟩ := Heights_ok a fc q hq
  have t2 := (good_tells (sound_good a fc sa q hq) ht).1
  obtain ⟨_, rt, hl, hfit⟩ := hc
  obtain ⟨c, hc1, hc0⟩ := hfit p hp
  have d1 := ff (show ¬ (p : Int) < 0 by omega)
  have d2 := tt (show (0 : Int) ≤ (q : Int) by omega)
  have d3 := tt (show (q : Int) < (a.length : Int) by omega)
  have d4 : decide ((p : Int) ≥ (((rd_T35 a (q : Int)).f0).length : Int)) = false := decide_eq_false (by
    have : p < (rd_T35 a (q : Int)).f0.length := hp
    omega)
  unfold peep_Rule.f
  refine Ev.bind h1 ?_
  simp only [tt t2, if_true, d1, if_false, d2, d3, d4]
  refine evs ?_
  simp only [peep_Rule.j0, cff, if_false, d2, d3, if_true]
  refine Ev.bind hl (Ev.bind hc1 ?_)
  rw [hc0]
  exact Ev.now _
theorem PeepTwice : parallaxlaw10_PeepTwice.Pure := by
  intro l m hl hm
  have hlen : l.length ≤ 10000000000000 := by have := hl.1; omega
  have hf : FitC l := fun x hx => (hl.2 x hx).1.2
  have hb : ∀ x ∈ l, x.f0.length ≤ 1000000000000000 := fun x hx => by have := (hl.2 x hx).1.1; omega
  refine Ev.rounds ?_
  unfold parallaxlaw10_PeepTwice.f
  obtain ⟨g, hg⟩ := great_ok l hlen hb
  refine Ev.bind hg ?_
  cases g with
  | true =>
    simp only [if_true]
    exact known_fin
  | false =>
    simp only [cff, if_false]
    rcases Make_ok l hf m with ⟨hs, a, h1, h2, h3⟩ | ⟨hs, h1⟩
    · refine Ev.bind h1 ?_
      simp only [if_true]
      obtain ⟨fc, sa⟩ := made_sound hs h2 h3
      have hc : ∀ q, q < a.length → Stable (rdC a q).f0 := fun q hq => (h3 q (by omega)).calm
      have h40 := sa.1.2.1
      refine Ev.bind (calm_make fc sa hc) ?_
      have hsz : ∀ q, q < a.length → (rdC a q).f0.length ≤ 100000 := fun q hq => by have := (sound_good a fc sa q hq).shape.1.2.1; omega
      have loop : ∀ (d i : Nat), i + d = a.length → Ev (fun k => parallaxlaw10_PeepTwice.l0 k a a 0 (i : Int)) true := by
        intro d
        induction d with
        | zero =>
          intro i hi
          obtain rfl : i = a.length := by omega
          refine evs ?_
          have c1 := ff (Int.lt_irrefl (a.length : Int))
          simp only [parallaxlaw10_PeepTwice.l0, c1, if_false, if_true]
          refine Ev.bind (same_ok a (by omega) hsz) ?_
          simp only [if_true]
          exact known_fin
        | succ d ih =>
          intro i hi
          have hlt : i < a.length := by omega
          have c1 := tt (show (i : Int) < (a.length : Int) by omega)
          have c2 := tt (show (0 : Int) ≤ (i : Int) by omega)
          have ew : wrap64 ((i : Int) + 1) = ((i + 1 : Nat) : Int) := by rw [w64 (by omega) (by omega)]; rfl
          have next := ih (i + 1) (by omega)
          have hbi : (rd_T35 a (i : Int)).f0.length ≤ 100000 := hsz i hlt
          have inner : ∀ (d j : Nat), j + d = (rd_T35 a (i : Int)).f0.length → Ev (fun k => parallaxlaw10_PeepTwice.l1 k a a 0 (i : Int) (j : Int)) true := by
            intro d
            induction d with
            | zero =>
              intro j hj
              refine evs ?_
              have c3 := ff (show ¬ (j : Int) < ((rd_T35 a (i : Int)).f0.length : Int) by omega)
              simp only [parallaxlaw10_PeepTwice.l1, c1, c2, c3, if_true, if_false, ew]
              exact next
            | succ d ihd =>
              intro j hj
              have c3 := tt (show (j : Int) < ((rd_T35 a (i : Int)).f0.length : Int) by omega)
              have ew2 : wrap64 ((j : Int) + 1) = ((j + 1 : Nat) : Int) := by rw [w64 (by omega) (by omega)]; rfl
              have hr := rule_none fc sa hlt (show j < (rdC a i).f0.length by show j < (rd_T35 a (i : Int)).f0.length; omega) (hc i hlt)
              refine evs ?_
              simp only [parallaxlaw10_PeepTwice.l1, c1, c2, c3, if_true]
              refine Ev.bind hr ?_
              simp only [if_true, ew2]
              exact ihd (j + 1) (by omega)
          refine evs ?_
          simp only [parallaxlaw10_PeepTwice.l0, c1, if_true]
          exact inner (rd_T35 a (i : Int)).f0.length 0 (by omega)
      exact loop a.length 0 (by omega)
    · refine Ev.bind h1 ?_
      simp only [ff (show ¬ (60 : Int) = 0 by decide), if_false]
      exact known_fin
end Go.Proofs.YtmbjogpphegoaaaDoor.Pure
