/- How an argument that is read as data (a slice of texts, of structs, a struct) stands in the printed functions' words. -/
import Derived.Test.YtdbpdcjlbopkbaaDoorWAll
import Derived.SizedLaws
import Derived.ChangeArms
import Derived.WideShapes
namespace Go.Proofs.YtdbpdcjlbopkbaaDoor.Q
set_option linter.unusedVariables false
set_option linter.unusedSimpArgs false
open Go.RowKit Go.Proofs.YtdbpdcjlbopkbaaDoorW.PrintWords Go.Proofs.YtdbpdcjlbopkbaaDoorW.PrintLast Go.Proofs.YtdbpdcjlbopkbaaDoorW.PrintMore

/-- Whatever cells are read as data of this type, and weigh no more than the reach, hold something of the kind, and something good. -/
def Opens {α : Type} (P : Program) (d : Kd α) (t : TypeId) (good : α → Prop) : Prop :=
  ∀ (H : Type) (enc : TypeId × Value → H) (w : World) (spare : Nat → Bool) (held : Bool) (fuel : Nat) (cs : List Value) (x : DataW H × List MemPlace),
    DataW.trod enc P w 0 spare held fuel t cs = some x → (∀ n ∈ DataW.weights P t x.1, n ≤ reachBytes) → ∃ v, d.K w v cs ∧ good v

theorem opens_int {P : Program} {t : TypeId} {k : IntKind} (ht : P.underlying t = some (.int k)) : Opens P (Kd.int k) t (fun n => (Lit.int k n).wf = true) := by
  intro H enc w spare held fuel cs x h hw
  obtain ⟨n, rfl, rfl, hn⟩ := DataW.trod_int ht h
  exact ⟨n, rfl, hn⟩
theorem opens_bool {P : Program} {t : TypeId} (ht : P.underlying t = some .bool) : Opens P Kd.bool t (fun _ => True) := by
  intro H enc w spare held fuel cs x h hw
  obtain ⟨n, rfl, rfl⟩ := DataW.trod_bool ht h
  exact ⟨n, rfl, trivial⟩
theorem opens_string {P : Program} {t : TypeId} (ht : P.underlying t = some .string) : Opens P Kd.string t (fun s => s.size ≤ 140737488351232) := by
  intro H enc w spare held fuel cs x h hw
  obtain ⟨s, rfl, rfl, hs⟩ := DataW.trod_string ht h
  refine ⟨s, rfl, ?_⟩
  have := hw s.data.toList.length (by simp [DataW.weights])
  rw [data_length] at this
  exact this
theorem cells_at {w : World} {base : Nat} {a : Addr} {n : Nat} {cs : List Value} (h : w.cells? base a n = some cs) : cs.length = n ∧ ∀ i u, cs[i]? = some u → w.cell? (a.add i) = some u := by
  refine ⟨?_, ?_⟩
  · unfold World.cells? at h
    split at h
    · simpa using mapM_some_length h
    · cases h
  · intro i u hi
    unfold World.cells? at h
    split at h
    · have hl : cs.length = n := by simpa using mapM_some_length h
      have hin : i < n := by
        rw [← hl]
        exact (List.getElem?_eq_some_iff.1 hi).1
      have := mapM_some_get h i i (by simp [hin])
      rw [hi] at this
      exact this
    · cases h
theorem opens_slice {α : Type} {P : Program} {d : Kd α} {t e : TypeId} {good : α → Prop} {B : Nat} (ht : P.underlying t = some (.slice e)) (hc : P.cellsOf e = d.sz) (hB : P.bytesOf e = B) (he : Opens P d e good) :
    Opens P (Kd.slice e d) t (fun xs => xs.length * B ≤ 140737488351232 ∧ ∀ x ∈ xs, good x) := by
  intro H enc w spare held fuel cs x h hw
  rcases DataW.trod_slice ht h with ⟨rfl, rfl⟩ | ⟨a, len, cap, elems, rest, n, rfl, rfl, rfl, hb, hl, hm, hel, hat, _, _⟩
  · exact ⟨[], ⟨none, 0, rfl, Nat.le_refl _, rfl, Nat.zero_le _, fun h => absurd h (Nat.lt_irrefl 0)⟩, by simp, fun x hx => by cases hx⟩
  · have hone : ∀ i, i < len → ∃ v c, c.length = d.sz ∧ d.K w v c ∧ good v ∧ ∀ j u, c[j]? = some u → w.cell? (a.add (i * d.sz + j)) = some u := by
      intro i hi
      have h1 := hat i hi
      rw [List.getElem?_eq_getElem (by omega)] at h1
      obtain ⟨c, hcc, hct⟩ := Option.bind_eq_some_iff.1 h1
      obtain ⟨cl, cat⟩ := cells_at hcc
      obtain ⟨v, hv, hg⟩ := he H enc w spare held n c _ hct (fun m hm2 => hw m (by
        simp only [DataW.weights, ht]
        refine List.mem_cons_of_mem _ (List.mem_append_left _ ?_)
        have : ∀ (l : List (DataW H)) (y : DataW H), y ∈ l → m ∈ DataW.weights P e y → m ∈ DataW.weightsAll P e l := by
          intro l
          induction l with
          | nil => intro y hy _; cases hy
          | cons z l ih =>
            intro y hy hmy
            simp only [DataW.weightsAll, List.mem_append]
            rcases List.mem_cons.1 hy with rfl | hy
            · exact .inl hmy
            · exact .inr (ih y hy hmy)
        exact this _ _ (List.mem_map.2 ⟨_, List.getElem_mem (h := by omega), rfl⟩) hm2))
      refine ⟨v, c, by rw [cl, hc], hv, hg, fun j u hj => ?_⟩
      have := cat j u hj
      rw [hc] at this
      rwa [Addr.add_add] at this
    have hall : ∀ m, m ≤ len → ∃ xs : List α, xs.length = m ∧ ∀ i v, xs[i]? = some v → good v ∧ ∃ c, c.length = d.sz ∧ d.K w v c ∧ ∀ j u, c[j]? = some u → w.cell? (a.add (i * d.sz + j)) = some u := by
      intro m
      induction m with
      | zero => intro _; exact ⟨[], rfl, fun i v hv => by simp at hv⟩
      | succ m ih =>
        intro hm2
        obtain ⟨xs, hx, hxs⟩ := ih (by omega)
        obtain ⟨v, c, c1, c2, c3, c4⟩ := hone m (by omega)
        refine ⟨xs ++ [v], by simp [hx], fun i u hu => ?_⟩
        rcases Nat.lt_or_ge i xs.length with hi | hi
        · rw [List.getElem?_append_left hi] at hu
          exact hxs i u hu
        · have : i = xs.length := by
            have := (List.getElem?_eq_some_iff.1 hu).1
            rw [List.length_append, List.length_singleton] at this
            omega
          subst this
          simp at hu
          subst hu
          rw [hx]
          exact ⟨c3, c, c1, c2, c4⟩
    obtain ⟨xs, hx, hxs⟩ := hall len (Nat.le_refl _)
    have hm9 : cap ≤ 9223372036854775807 := hm
    refine ⟨xs, ⟨some a, cap, by rw [hx], by rw [hx]; exact hl, rfl, by rw [hx]; omega, fun _ => ⟨a, rfl, fun j p hj => ?_⟩⟩, ?_, fun x hx2 => ?_⟩
    · obtain ⟨_, c, c1, c2, c4⟩ := hxs j p hj
      exact ⟨c, c1, c2, c4⟩
    · have := hw ((elems.map (·.1)).length + (rest.map (·.1)).length |> (· * P.bytesOf e)) (by
        simp only [DataW.weights, ht]
        exact List.mem_cons_self ..)
      rw [hB] at this
      rw [hx, ← hel]
      simp only [List.length_map] at this
      exact Nat.le_trans (Nat.mul_le_mul_right _ (Nat.le_add_right _ _)) this
    · obtain ⟨i, hi, rfl⟩ := List.mem_iff_getElem.1 hx2
      exact (hxs i _ (List.getElem?_eq_getElem hi)).1
/-- Fields that lie one behind the other, the first one at an offset. -/
def OpensF {α : Type} (P : Program) (d : Kd α) (fs : List Field) (off : Nat) (good : α → Prop) : Prop :=
  ∀ (H : Type) (enc : TypeId × Value → H) (w : World) (spare : Nat → Bool) (held : Bool) (n : Nat) (cs : List Value) (xs : List (DataW H × List MemPlace)),
    cs.length = off + d.sz → xs.length = fs.length → (∀ (i : Nat) (f : Field), fs[i]? = some f → DataW.trod enc P w 0 spare held n f.type ((cs.drop f.offset).take (P.cellsOf f.type)) = xs[i]?) →
    (∀ m ∈ DataW.weightsEach P (fs.map (·.type)) (xs.map (·.1)), m ≤ reachBytes) → ∃ v, d.K w v (cs.drop off) ∧ good v
theorem opensF_one {α : Type} {P : Program} {d : Kd α} {f : Field} {good : α → Prop} {off : Nat} (ho : f.offset = off) (hc : P.cellsOf f.type = d.sz) (h : Opens P d f.type good) : OpensF P d [f] off good := by
  intro H enc w spare held n cs xs hl hx hat hw
  have h0 := hat 0 f rfl
  have hx1 : xs.length = 1 := hx
  obtain ⟨x, rfl⟩ := List.length_eq_one_iff.1 hx1
  rw [ho, hc, List.take_of_length_le (by rw [List.length_drop]; omega)] at h0
  exact h H enc w spare held n _ x h0 (fun m hm => hw m (by simp only [List.map_cons, List.map_nil, DataW.weightsEach, List.append_nil]; exact hm))
theorem opensF_cons {α β : Type} {P : Program} {a : Kd α} {b : Kd β} {f : Field} {fs : List Field} {ga : α → Prop} {gb : β → Prop} {off : Nat} (ho : f.offset = off) (hc : P.cellsOf f.type = a.sz) (h : Opens P a f.type ga) (hs : OpensF P b fs (off + a.sz) gb) :
    OpensF P (Kd.pair a b) (f :: fs) off (fun x => ga x.1 ∧ gb x.2) := by
  intro H enc w spare held n cs xs hl hx hat hw
  have hsz : (Kd.pair a b).sz = a.sz + b.sz := rfl
  rw [hsz] at hl
  cases xs with
  | nil => simp at hx
  | cons x xs =>
    have h0 := hat 0 f rfl
    rw [ho, hc] at h0
    obtain ⟨v, hv, gv⟩ := h H enc w spare held n _ x h0 (fun m hm => hw m (by simp only [List.map_cons, DataW.weightsEach, List.mem_append]; exact .inl hm))
    obtain ⟨u, hu, gu⟩ := hs H enc w spare held n cs xs (by omega) (by simpa using hx) (fun i g hg => by simpa using hat (i + 1) g (by simpa using hg)) (fun m hm => hw m (by simp only [List.map_cons, DataW.weightsEach, List.mem_append]; exact .inr hm))
    refine ⟨(v, u), ⟨(cs.drop off).take a.sz, cs.drop (off + a.sz), ?_, hv, hu⟩, gv, gu⟩
    rw [← List.drop_drop, List.take_append_drop]
theorem opens_struct {α β : Type} {P : Program} {d : Kd α} {t : TypeId} {fs : Array Field} {good : α → Prop} {good' : β → Prop} (f : β → α) (g : α → β) (hfg : ∀ a, f (g a) = a) (ht : P.underlying t = some (.struct fs)) (hc : P.cellsOf t = d.sz) (h : OpensF P d fs.toList 0 good) (hg : ∀ a, good a → good' (g a)) :
    Opens P (Kd.iso d f) t good' := by
  intro H enc w spare held fuel cs x hh hw
  obtain ⟨xs, n, rfl, rfl, hl, hxl, hat⟩ := DataW.trod_struct ht hh
  obtain ⟨v, hv, gv⟩ := h H enc w spare held n cs xs (by omega) (by simpa using hxl) (fun i ff hf => hat i ff (by simpa using hf)) (fun m hm => hw m (by simp only [DataW.weights, ht]; exact hm))
  exact ⟨g v, by show d.K w (f (g v)) cs; rw [hfg]; exact hv, hg v gv⟩
/-- An argument's weights are among all. -/
theorem weights_at {H : Type} {P : Program} {ts : List TypeId} {ds : List (DataW H)} (h : (DataW.weightsEach P ts ds).all (· ≤ reachBytes) = true) {j : Nat} {t : TypeId} {d : DataW H} (ht : ts[j]? = some t) (hd : ds[j]? = some d) : ∀ n ∈ DataW.weights P t d, n ≤ reachBytes := by
  intro n hn
  have := List.all_eq_true.1 h n (DataW.weights_mem_each ht hd n hn)
  simpa using this
/-- A slice that came in. -/
theorem open_slice_arg {α : Type} {P : Program} {d : Kd α} {t e : TypeId} {good : List α → Prop} (ho : Opens P (Kd.slice e d) t good) {H : Type} {enc : TypeId × Value → H} {W : World} {spare : Nat → Bool} {held : Bool} {a : Option Addr} {len cap : Nat} {dd : DataW H} {ps : List MemPlace}
    (h : DataW.Trod enc P W 0 spare held t (.slice a len cap) dd ps) (hw : ∀ n ∈ DataW.weights P t dd, n ≤ reachBytes) : ∃ xs : List α, len = xs.length ∧ good xs ∧ xs.length ≤ cap ∧ d.C W a xs.length xs := by
  obtain ⟨fuel, hf⟩ := h
  obtain ⟨xs, ⟨A, c, hcs, hl, hr⟩, hg⟩ := ho H enc W spare held fuel _ _ hf hw
  simp [Value.cells] at hcs
  obtain ⟨rfl, rfl, rfl⟩ := hcs
  exact ⟨xs, rfl, hg, hl, hr⟩
/-- A struct that came in. -/
theorem open_struct_arg {α : Type} {P : Program} {d : Kd α} {t : TypeId} {good : α → Prop} (ho : Opens P d t good) {H : Type} {enc : TypeId × Value → H} {W : World} {spare : Nat → Bool} {held : Bool} {cells : Array Value} {dd : DataW H} {ps : List MemPlace}
    (h : DataW.Trod enc P W 0 spare held t (.agg cells) dd ps) (hw : ∀ n ∈ DataW.weights P t dd, n ≤ reachBytes) : ∃ x : α, d.K W x cells.toList ∧ good x := by
  obtain ⟨fuel, hf⟩ := h
  exact ho H enc W spare held fuel _ _ hf hw
end Go.Proofs.YtdbpdcjlbopkbaaDoor.Q
