/- Rows of codes whose instructions may be stored into. No walk. -/
import Derived.Test.YtmbjogpphegoaaaDoorPx16
namespace Go.Proofs.YtmbjogpphegoaaaDoor
open Go.RowKit Go.Proofs.YtmbjogpphegoaaaDoorW.PrintWords Go.Proofs.YtmbjogpphegoaaaDoorW.PrintLast Go.Proofs.YtmbjogpphegoaaaDoorW.PrintMore Go.Proofs.YtmbjogpphegoaaaDoor.P
set_option linter.unusedVariables false
set_option linter.unusedSimpArgs false
/-- A slice of instructions: it may be stored into, and does not lie in the block ob. -/
def InnerF (w : World) (b : Nat) (ob : Option Nat) (v : Value) : Prop := ∃ A n c, v = .slice A n c ∧ n ≤ 9223372036854775807 ∧ (0 < n → ∃ g o cs t, A = some ⟨g, o, none⟩ ∧ b ≤ g ∧ some g ≠ ob ∧ w.heap[g]? = some (.cells cs t (0, 0)) ∧ o + n * 3 ≤ cs.size)
def codeCells (vs : List (Value × Int × Int × Bool)) : List Value := vs.flatMap (fun t => [t.1, .int .i64 t.2.1, .int .i64 t.2.2.1, .bool t.2.2.2])
def OutF (w : World) (b : Nat) (v : Value) (vs : List (Value × Int × Int × Bool)) : Prop := w.ownsRow b 35 4 v vs.length (codeCells vs) ∧ ∀ t ∈ vs, InnerF w b v.ownBlock t.1
theorem innerF_of {w : World} {b B : Nat} {ob : Option Nat} {A : Option Addr} {n c : Nat} (h : Fz w B (.slice A n c) n) (hn : n ≤ 9223372036854775807) (hb : b ≤ B) (ho : ∀ k, ob = some k → k < B) : InnerF w b ob (.slice A n c) := by
  refine ⟨A, n, c, rfl, hn, fun hp => ?_⟩
  obtain ⟨g, o, c1, cs, t, e, hg, hh, hs⟩ := h hp
  obtain ⟨rfl, -, rfl⟩ := Value.slice.inj e
  exact ⟨g, o, cs, t, rfl, Nat.le_trans hb hg, fun e => by have := ho g e.symm; omega, hh, hs⟩
theorem InnerF.on {w w' : World} {b : Nat} {ob ob' : Option Nat} {v : Value} (h : InnerF w b ob v) (hk : ∀ g, g < w.heap.size → some g ≠ ob → w'.heap[g]? = w.heap[g]? ∧ some g ≠ ob') : InnerF w' b ob' v := by
  obtain ⟨A, n, c, rfl, hn, hz⟩ := h
  refine ⟨A, n, c, rfl, hn, fun hp => ?_⟩
  obtain ⟨g, o, cs, t, e, hg, hne, hh, hs⟩ := hz hp
  obtain ⟨k1, k2⟩ := hk g (blk_lt hh) hne
  exact ⟨g, o, cs, t, e, hg, k2, k1.trans hh, hs⟩
theorem codeCells_length (vs : List (Value × Int × Int × Bool)) : (codeCells vs).length = vs.length * 4 := by
  induction vs with
  | nil => rfl
  | cons t l ih => simp [codeCells] at ih ⊢; omega
theorem codeCells_at : ∀ (vs : List (Value × Int × Int × Bool)) (i : Nat) (t : Value × Int × Int × Bool), vs[i]? = some t → (codeCells vs)[i * 4]? = some t.1
  | [], i, t, h => by simp at h
  | x :: l, 0, t, h => by simp at h; subst h; rfl
  | x :: l, i + 1, t, h => by
    have h2 := codeCells_at l i t (by simpa using h)
    show ([x.1, .int .i64 x.2.1, .int .i64 x.2.2.1, .bool x.2.2.2] ++ codeCells l)[(i + 1) * 4]? = _
    rw [List.getElem?_append_right (by simp; omega)]
    simpa [show (i + 1) * 4 - 4 = i * 4 by omega] using h2
theorem codeCells_one (vs : List (Value × Int × Int × Bool)) (t : Value × Int × Int × Bool) : codeCells (vs ++ [t]) = codeCells vs ++ [t.1, .int .i64 t.2.1, .int .i64 t.2.2.1, .bool t.2.2.2] := by simp [codeCells]
/-- A code more. -/
theorem OutF.add {w w1 : World} {b : Nat} {v v1 nv : Value} {vs : List (Value × Int × Int × Bool)} {i1 i2 : Int} {b3 : Bool} (h : OutF w b v vs) (hn : InnerF w b v.ownBlock nv) (hown : w1.ownsRow b 35 4 v1 (vs.length + 1) (codeCells vs ++ [nv, .int .i64 i1, .int .i64 i2, .bool b3])) (hg : w.grownBy w1 v.ownBlock)
    (hat : v1.ownBlock = v.ownBlock ∨ ∃ k, v1.ownBlock = some k ∧ w.heap.size ≤ k) : OutF w1 b v1 (vs ++ [(nv, i1, i2, b3)]) := by
  have key : ∀ {u : Value}, InnerF w b v.ownBlock u → InnerF w1 b v1.ownBlock u := fun hu => hu.on (fun g hl hne => ⟨hg.block g hl hne, fun e => by
    rcases hat with q | ⟨k, q, hk⟩
    · exact hne (e.trans q)
    · rw [q] at e; injection e with e; omega⟩)
  refine ⟨by rw [List.length_append, codeCells_one]; exact hown, fun t ht => ?_⟩
  rcases List.mem_append.1 ht with ht | ht
  · exact key (h.2 t ht)
  · obtain rfl := List.mem_singleton.1 ht
    exact key hn
theorem OutF.below {w w' : World} {b : Nat} {v : Value} {vs : List (Value × Int × Int × Bool)} (h : OutF w b v vs) (hb : Below w.heap.size w w') : OutF w' b v vs :=
  ⟨own_move h.1 (fun k e => hb.block k (h.1.lt k e).2), fun t ht => (h.2 t ht).on (fun g hl hne => ⟨hb.block g hl, hne⟩)⟩
theorem OutF.lt {w : World} {b : Nat} {v : Value} {vs : List (Value × Int × Int × Bool)} (h : OutF w b v vs) : ∀ k, v.ownBlock = some k → k < w.heap.size := fun k e => (h.1.lt k e).2
/-- A store elsewhere, in a new block. -/
theorem OutF.far {w : World} {b g j : Nat} {v u : Value} {vs : List (Value × Int × Int × Bool)} {cs : Array Value} {t : TypeId} (h : OutF w b v vs) (hb : w.heap[g]? = some (.cells cs t (0, 0))) (hv : v.ownBlock ≠ some g) : OutF (w.setCell ⟨g, j, none⟩ u) b v vs := by
  refine ⟨own_move h.1 (fun k e => Below.heap_setCell w ⟨g, j, none⟩ u k (fun q => hv (by rw [e]; exact congrArg some q))), fun t2 ht => ?_⟩
  obtain ⟨A, n, c, e, hn, hz⟩ := h.2 t2 ht
  refine ⟨A, n, c, e, hn, fun hp => ?_⟩
  obtain ⟨g2, o, cs2, t3, e2, hg, hne, hh, hs⟩ := hz hp
  by_cases q : g2 = g
  · subst q
    exact ⟨g2, o, _, t3, e2, hg, hne, blk_set hh j u, by rw [Array.size_setIfInBounds]; exact hs⟩
  · exact ⟨g2, o, cs2, t3, e2, hg, hne, blk_far hh (p := ⟨g, j, none⟩) q u, hs⟩
theorem fz_set {w : World} {b n g j : Nat} {v u : Value} (h : Fz w b v n) : Fz (w.setCell ⟨g, j, none⟩ u) b v n := by
  intro hp
  obtain ⟨g2, o, c, cs, t, e, hg, hh, hs⟩ := h hp
  by_cases q : g2 = g
  · subst q
    exact ⟨g2, o, c, _, t, e, hg, blk_set hh j u, by rw [Array.size_setIfInBounds]; exact hs⟩
  · exact ⟨g2, o, c, cs, t, e, hg, blk_far hh (p := ⟨g, j, none⟩) q u, hs⟩
theorem R_grown_ {α : Type} {d : Kd α} {e base : Nat} {ok : Nat → Prop} {w w1 : World} {v : Value} {xs : List α} (h : Kd.R d e w base ok v xs) {row : Option Nat} (hg : w.grownBy w1 row) (hok : ∀ k, ok k → some k ≠ row) : Kd.R d e w1 base ok v xs := Kd.R_step h (fun k ho hk => hg.block k hk (hok k ho))
theorem R_set_ {α : Type} {d : Kd α} {e base : Nat} {ok : Nat → Prop} {w : World} {v : Value} {xs : List α} (h : Kd.R d e w base ok v xs) {g t : Nat} {cells : Array Value} (hb : w.heap[g]? = some (.cells cells t (0, 0))) (ht : ∀ q, q ∈ e :: d.E → q ≠ t) (j : Nat) (u : Value) : Kd.R d e (w.setCell ⟨g, j, none⟩ u) base ok v xs :=
  Kd.R_mono (Kd.R_far (p := ⟨g, j, none⟩) (Kd.R_types h hb ht) (fun k hk => hk.2) u) (fun k hk => hk.1)
theorem k35_mkM (w : World) (base : Nat) (ok : Nat → Prop) (x : S35) {v0 : Value} (g0 : k40.R 40 w base ok v0 x.f0) : k35.M w base ok x [v0, .int .i64 x.f1, .int .i64 x.f2, .bool x.f3] := ⟨[v0], [.int .i64 x.f1, .int .i64 x.f2, .bool x.f3], rfl, ⟨v0, rfl, g0⟩, ⟨[.int .i64 x.f1], [.int .i64 x.f2, .bool x.f3], rfl, rfl, ⟨[.int .i64 x.f2], [.bool x.f3], rfl, rfl, rfl⟩⟩⟩
theorem OutF.cell {w : World} {b n c : Nat} {A : Option Addr} {vs : List (Value × Int × Int × Bool)} (h : OutF w b (.slice A n c) vs) {i : Nat} {t : Value × Int × Int × Bool} (ht : vs[i]? = some t) : ∃ ad, A = some ad ∧ w.cell? (ad.add (i * 4)) = some t.1 := by
  have hi := (List.getElem?_eq_some_iff.1 ht).1
  rcases h.1.2 with ⟨_, hz⟩ | ⟨g, cap, cur, hv, _, hh, _, _, hcs, htk⟩
  · omega
  · obtain ⟨rfl, -, -⟩ := Value.slice.inj hv
    refine ⟨_, rfl, ?_⟩
    rw [add_at, Nat.zero_add, blk_cell hh]
    have h1 := codeCells_at vs i t ht
    rw [← htk, List.getElem?_take, if_pos (by omega)] at h1
    rw [← h1, Array.getElem?_toList]
/-- Three stores in a block that is not the row's own. -/
theorem OutF.three {w : World} {b g j1 j2 j3 : Nat} {v u1 u2 u3 : Value} {vs : List (Value × Int × Int × Bool)} {cs : Array Value} {t : TypeId} (h : OutF w b v vs) (hb : w.heap[g]? = some (.cells cs t (0, 0))) (hv : v.ownBlock ≠ some g) : OutF (((w.setCell ⟨g, j1, none⟩ u1).setCell ⟨g, j2, none⟩ u2).setCell ⟨g, j3, none⟩ u3) b v vs :=
  ((h.far hb hv).far (blk_set hb j1 u1) hv).far (blk_set (blk_set hb j1 u1) j2 u2) hv
end Go.Proofs.YtmbjogpphegoaaaDoor
