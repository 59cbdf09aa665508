/- Codes that are made short are sound, and no longer; no mark that can be reached is lost: at every input, without a condition. -/
import Derived.Test.YtmbjogpphegoaaaDoorPx0
import Derived.Test.YtmbjogpphegoaaaDoorPx23
import Derived.Test.YtmbjogpphegoaaaDoorQM
namespace Go.Proofs.YtmbjogpphegoaaaDoor.Pure
set_option linter.unusedVariables false
set_option linter.unusedSimpArgs false
open Go.RowKit Go.Proofs.YtmbjogpphegoaaaDoor.P Go.Proofs.YtmbjogpphegoaaaDoorW.PrintWords Go.Proofs.YtmbjogpphegoaaaDoorW.PrintLast Go.Proofs.YtmbjogpphegoaaaDoorW.PrintMore Go.Proofs.YtmbjogpphegoaaaDoor.Q
section
variable {l a : List Cod}
theorem tell_loop (hl : a.length = l.length) (hs : l.length ≤ 40) (h : ∀ q, q < l.length → Made l (rdC l q) (rdC a q)) : ∀ (d i : Nat), i + d = l.length → Ev (fun k => parallaxlaw10_PeepSound.l0 k l a (i : Int)) true := by
 have A := made_alike hl h
 have fc : FitC a := fun x hx => by
  obtain ⟨q, hq, rfl⟩ := List.getElem_of_mem hx
  rw [← rdC_at a q hq]
  exact (h q (by omega)).good.fit
 intro d
 induction d with
 | zero =>
  intro i hi
  obtain rfl : i = l.length := by omega
  refine evs ?_
  have c1 := ff (Int.lt_irrefl (l.length : Int))
  simp only [parallaxlaw10_PeepSound.l0, c1, if_false]
  exact known_fin
 | succ d ih =>
  intro i hi
  have M := h i (by omega)
  have G := alike_good A M.good
  obtain ⟨t, _, h2, ht⟩ := Heights_both a fc i (by omega)
  obtain ⟨t2, tl, tr⟩ := good_tells G ht
  have hh : ∀ p, p < (rdC a i).f0.length → 0 ≤ rd t.1 p := fun p hp => tr p hp (by
   obtain ⟨n, hn⟩ := M.all p hp
   exact ⟨n, (alike_R A (shape_valid M.good.shape) (shape_valid G.shape)).2 hn⟩)
  have c1 := tt (show (i : Int) < (l.length : Int) by omega)
  have c2 := tt (show (0 : Int) ≤ (i : Int) by omega)
  have c3 := tt (show (i : Int) < (a.length : Int) by omega)
  have ew : wrap64 ((i : Int) + 1) = ((i + 1 : Nat) : Int) := by rw [w64 (by omega) (by omega)]; rfl
  have next := ih (i + 1) (by omega)
  have inner : ∀ (d j : Nat), j + d = t.1.length → Ev (fun k => parallaxlaw10_PeepSound.l1 k l a (i : Int) t.1 (j : Int)) true := by
   intro d
   induction d with
   | zero =>
    intro j hj
    obtain rfl : j = t.1.length := by omega
    refine evs ?_
    have c1 := ff (Int.lt_irrefl (t.1.length : Int))
    simp only [parallaxlaw10_PeepSound.l1, c1, if_false, ew]
    exact next
   | succ d ihd =>
    intro j hj
    have hsz := G.shape.1.2.1
    have hjn : 0 ≤ rd t.1 (j : Int) := hh j (by omega)
    refine evs ?_
    have c1 := tt (show (j : Int) < (t.1.length : Int) by omega)
    have c2 := tt (show (0 : Int) ≤ (j : Int) by omega)
    have c3 := ff (show ¬ rd t.1 (j : Int) < 0 by omega)
    have ew2 : wrap64 ((j : Int) + 1) = ((j + 1 : Nat) : Int) := by rw [w64 (by omega) (by omega)]; rfl
    simp only [parallaxlaw10_PeepSound.l1, c1, c2, c3, if_true, if_false, ew2]
    exact ihd (j + 1) (by omega)
  have hlen := M.len
  have d1 := ff (show ¬ (((rd_T35 a (i : Int)).f0).length : Int) > (((rd_T35 l (i : Int)).f0).length : Int) by
   have : (rd_T35 a (i : Int)).f0.length ≤ (rd_T35 l (i : Int)).f0.length := hlen
   omega)
  have d2 := tt (show (rd_T35 a (i : Int)).f1 = (rd_T35 l (i : Int)).f1 from M.f1)
  have d3 := tt (show (rd_T35 a (i : Int)).f2 = (rd_T35 l (i : Int)).f2 from M.f2)
  have d4 : ((rd_T35 a (i : Int)).f3 != (rd_T35 l (i : Int)).f3) = false := bne_eq_false_iff_eq.mpr M.f3
  refine evs ?_
  simp only [parallaxlaw10_PeepSound.l0, c1, if_true]
  refine Ev.bind h2 ?_
  simp only [c2, c3, if_true, d1, if_false, d2, d3, d4]
  refine evs ?_
  simp only [parallaxlaw10_PeepSound.j2, cff, if_false]
  exact inner t.1.length 0 (by omega)
end
theorem PeepSound : parallaxlaw10_PeepSound.Pure := by
 intro l m hl hm
 have hlen : l.length ≤ 10000000000000 := by have := hl.1; omega
 have hf : FitC l := fun x hx => (hl.2 x hx).1.2
 have hb : ∀ x ∈ l, x.f0.length ≤ 1000000000000000 := fun x hx => by have := (hl.2 x hx).1.1; omega
 refine Ev.rounds ?_
 unfold parallaxlaw10_PeepSound.f
 obtain ⟨g, hg⟩ := great_ok l hlen hb
 refine Ev.bind hg ?_
 cases g with
 | true =>
  simp only [if_true]
  exact known_fin
 | false =>
  simp only [cff, if_false]
  rcases Make_ok l hf m with ⟨hs, a, h1, h2, h3⟩ | ⟨hs, h1⟩
  ·refine Ev.bind h1 ?_
   simp only [if_true]
   obtain ⟨fc, sa⟩ := made_sound hs h2 h3
   obtain ⟨r, r1, _, r3⟩ := Sound_both a fc m
   rw [r3.2 sa] at r1
   refine Ev.bind r1 ?_
   have e : ((a.length : Int) != (l.length : Int)) = false := bne_eq_false_iff_eq.mpr (by omega)
   simp only [if_true, e]
   refine evs ?_
   simp only [parallaxlaw10_PeepSound.j0, cff, if_false]
   exact tell_loop h2 hs.1.2.1 h3 l.length 0 (by omega)
  ·refine Ev.bind h1 ?_
   simp only [ff (show ¬ (60 : Int) = 0 by decide), if_false]
   obtain ⟨r, _, r2, r3⟩ := Sound_both l hf m
   have : r = false := by
    cases r with
    | true => exact absurd (r3.1 rfl) hs
    | false => rfl
   rw [this] at r2
   refine Ev.bind r2 ?_
   simp only [cff, if_false, List.length_nil]
   simp only [tt (show ((0 : Nat) : Int) = 0 from rfl), if_true]
   exact known_fin
end Go.Proofs.YtmbjogpphegoaaaDoor.Pure
