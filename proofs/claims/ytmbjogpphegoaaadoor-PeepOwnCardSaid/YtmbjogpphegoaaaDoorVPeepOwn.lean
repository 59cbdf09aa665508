/- The law on ownership answers true. -/
import Derived.Test.YtmbjogpphegoaaaDoorVOwnW
namespace Go.Proofs.YtmbjogpphegoaaaDoor
open Go.RowKit Go.Proofs.YtmbjogpphegoaaaDoorW.PrintWords Go.Proofs.YtmbjogpphegoaaaDoorW.PrintLast Go.Proofs.YtmbjogpphegoaaaDoorW.PrintMore Go.Proofs.YtmbjogpphegoaaaDoor.P Go.Proofs.YtmbjogpphegoaaaDoor.Q
set_option linter.unusedVariables false
set_option linter.unusedSimpArgs false
theorem same_big (a : List Cod) (hl : a.length ≤ 3000000000000) (hb : ∀ q : Nat, q < a.length → (rdC a q).f0.length ≤ 6000000000000) : Ev (fun k => parallaxref10_Same.f k a a) true := by
  have loop : ∀ (d i : Nat), i + d = a.length → Ev (fun k => parallaxref10_Same.l0 k a a (i : Int)) true := by
    intro d
    induction d with
    | zero =>
      intro i hi
      obtain rfl : i = a.length := by omega
      refine evs ?_
      have c1 := ff (Int.lt_irrefl (a.length : Int))
      simp only [parallaxref10_Same.l0, c1, if_false]
      exact Ev.now _
    | succ d ih =>
      intro i hi
      have hlt : i < a.length := by omega
      have c1 := tt (show (i : Int) < (a.length : Int) by omega)
      have c2 := tt (show (0 : Int) ≤ (i : Int) by omega)
      have ew : wrap64 ((i : Int) + 1) = ((i + 1 : Nat) : Int) := by rw [w64 (by omega) (by omega)]; rfl
      have next := ih (i + 1) (by omega)
      have hbi : (rd_T35 a (i : Int)).f0.length ≤ 6000000000000 := hb i hlt
      have inner : ∀ (d j : Nat), j + d = (rd_T35 a (i : Int)).f0.length → Ev (fun k => parallaxref10_Same.l1 k a a (i : Int) (j : Int)) true := by
        intro d
        induction d with
        | zero =>
          intro j hj
          refine evs ?_
          have c3 := ff (show ¬ (j : Int) < ((rd_T35 a (i : Int)).f0.length : Int) by omega)
          simp only [parallaxref10_Same.l1, c1, c2, c3, if_true, if_false, ew]
          exact next
        | succ d ihd =>
          intro j hj
          have c3 := tt (show (j : Int) < ((rd_T35 a (i : Int)).f0.length : Int) by omega)
          have c4 := tt (show (0 : Int) ≤ (j : Int) by omega)
          have ew2 : wrap64 ((j : Int) + 1) = ((j + 1 : Nat) : Int) := by rw [w64 (by omega) (by omega)]; rfl
          refine evs ?_
          simp only [parallaxref10_Same.l1, c1, c2, c3, c4, if_true, beq_self_eq_true, Bool.not_true, Bool.or_self, cff, if_false, ew2]
          exact ihd (j + 1) (by omega)
      refine evs ?_
      have e3 : ((rd_T35 a (i : Int)).f3 != (rd_T35 a (i : Int)).f3) = false := bne_self_eq_false _
      have e4 : (((rd_T35 a (i : Int)).f0.length : Int) != ((rd_T35 a (i : Int)).f0.length : Int)) = false := bne_self_eq_false _
      simp only [parallaxref10_Same.l0, c1, c2, if_true, e3, cff, if_false, e4]
      refine evs ?_
      simp only [parallaxref10_Same.j1, cff, if_false]
      exact inner (rd_T35 a (i : Int)).f0.length 0 (by omega)
  unfold parallaxref10_Same.f
  simp only [if_true]
  exact loop a.length 0 (by omega)
theorem make_law (k : Nat) (A0 : Option Addr) (c0 : Nat) (l0 : List S35) (a1 : Int) (r : List S35 × Int) (w : World) (hr0 : Kd.C k35 w A0 l0.length l0) (hc0 : l0.length ≤ c0) (hLd : Laid w) (h : peep_Make.f k l0 a1 = some r) (hln : ∀ x ∈ l0, x.f0.length * 24 ≤ 140737488351232) (hl48 : l0.length * 48 ≤ 140737488351232) :
    Calls Tryd.prog 10 #[.slice A0 l0.length c0, .int .i64 a1] w (MakeP w) := by
  unfold peep_Make.f at h
  obtain ⟨t, ht, h2⟩ := ob h
  cases t with
  | true => rw [if_pos rfl] at h2; exact make_some k A0 c0 l0 a1 r.1 r.2 w hr0 hc0 hLd ht.out h2 hln hl48
  | false => exact make_none k A0 c0 l0 a1 w hr0 hc0 hLd ht.out
theorem peepOwn_calls (A0 : Option Addr) (c0 : Nat) (l : List S35) (main : Int) (w : World) (hLd : Laid w) (hl : Kd.C k35 w A0 l.length l) (hc : l.length ≤ c0)
    (g0 : l.length * 48 ≤ 140737488351232 ∧ ∀ x ∈ l, ((x.f0.length * 24 ≤ 140737488351232 ∧ ∀ y3 ∈ x.f0, ((Lit.int .i64 y3.f0).wf = true ∧ ((Lit.int .i64 y3.f1).wf = true ∧ (Lit.int .i64 y3.f2).wf = true))) ∧ ((Lit.int .i64 x.f1).wf = true ∧ ((Lit.int .i64 x.f2).wf = true ∧ True))))
    (_ : (Lit.int .i64 main).wf = true) :
    Calls Tryd.prog 6 #[.slice A0 l.length c0, .int .i64 main] w fun e w' => e = .returned (.bool true) ∧ Below w.heap.size w w' := by
  have hlen : l.length ≤ 10000000000000 := by omega
  have hb : ∀ x ∈ l, x.f0.length ≤ 1000000000000000 := fun x hx => by have := (g0.2 x hx).1.1; omega
  have hf : FitC l := fun x hx => (g0.2 x hx).1.2
  have hat : ∀ q : Nat, q < l.length → (rdC l q).f0.length * 24 ≤ 140737488351232 := fun q hq => by rw [rdC_at l q hq]; exact (g0.2 _ (List.getElem_mem hq)).1.1
  have hkn : ∀ W, Below w.heap.size w W → Calls Tryd.prog 9 #[] W fun e w' => e = .returned (.bool true) ∧ Below W.heap.size W w' := fun W hW => by
    obtain ⟨k, hk⟩ := known_ok
    exact parallaxlaw10_known.calls k true W (hLd.below hW) (hk k (Nat.le_refl _))
  obtain ⟨b, kg, hg⟩ := great_ok l hlen hb
  have hg := hg kg (Nat.le_refl _)
  cases b with
  | true => exact own_great w A0 c0 l main hl hc kg hg hkn
  | false =>
    refine own_goes w A0 c0 l main hl hc g0.1 (fun x hx => (g0.2 x hx).1.1) kg hg hkn (fun W hW => ?_) (fun W x hx hW => ?_) (fun W A c hW h1 h2 => ?_)
    · have hm : ∃ r, Ev (fun k => peep_Make.f k l main) r := by
        rcases Make_ok l hf main with ⟨_, a, h, _⟩ | ⟨_, h⟩
        · exact ⟨_, h⟩
        · exact ⟨_, h⟩
      obtain ⟨r, k, hk⟩ := hm
      exact make_law k A0 c0 l main r W (Kd.C_below hl hW) hc (hLd.below hW) (hk k (Nat.le_refl _)) (fun x hx => (g0.2 x hx).1.1) g0.1
    · obtain ⟨⟨r, b⟩, ⟨k, hk⟩, ht⟩ := Heights_ok l hf x hx
      have hk := hk k (Nat.le_refl _)
      cases b with
      | false => exact once_none A0 c0 l x W (Kd.C_below hl hW) hc (hLd.below hW) r k hk
      | true =>
        have G : Q.Good l (rdC l x) := by
          rcases ht with ⟨_, hsh, hT, hW⟩ | ⟨h, _⟩
          · exact ⟨hsh, fit_at hf x hx, Net.not_bad hsh.1.1 hT hW⟩
          · cases h
        obtain ⟨⟨r1, r2⟩, ⟨k2, hk2⟩, _⟩ := once_ok G
        exact once_some A0 c0 l x W (Kd.C_below hl hW) hc (hLd.below hW) (by omega) (by omega) r k hk k2 r1 r2 (hk2 k2 (Nat.le_refl _)) (hat x hx)
    · obtain ⟨k, hk⟩ := same_big l (by omega) (fun q hq => by have := hat q hq; omega)
      exact parallaxref10_Same.calls k A0 c0 l A c l true W (Kd.C_below hl hW) hc h1 h2 (hk k (Nat.le_refl _))
end Go.Proofs.YtmbjogpphegoaaaDoor
