-- Written by a program of this session (its own turn of the print: wip/patch_print.py), not by hand. Lean checks it.
import Derived.Test.YthbgbeelcnfofaaPx0
import Derived.Test.YthbgbeelcnfofaaPx1
namespace Go.Proofs.Ythbgbeelcnfofaa.P
open Go.RowKit Go.Proofs.YthbgbeelcnfofaaW.PrintWords Go.Proofs.YthbgbeelcnfofaaW.PrintLast Go.Proofs.YthbgbeelcnfofaaW.PrintMore
attribute [local go_sem] max2_int min2_int max_two min_two max_three min_three max_four min_four   -- for this text's walks alone
set_option linter.unusedVariables false
set_option linter.unusedSimpArgs false

attribute [local go_sem high] eqA24
/-- A state of type 92 at block g of W; what its slices lead to came in by w0. -/
def IsS92 (w0 W : World) (g : Nat) (f0 : Int) (f1 : List Int) : Prop := ∃ A1 c1, W.heap[g]? = some (.cells #[.int .i64 f0, .slice A1 f1.length c1] 92 (0, 0)) ∧ w0.heap.size ≤ g ∧ Kd.C (Kd.int .i64) w0 A1 f1.length f1
theorem IsS92.grown {w0 W : World} {g : Nat} {f0 : Int} {f1 : List Int} {W1 : World} {row : Option Nat} (h : IsS92 w0 W g f0 f1) (hw : W.grownBy W1 row) (hne : some g ≠ row) : IsS92 w0 W1 g f0 f1 := by
  obtain ⟨A1, c1, hb, hg, hr1⟩ := h
  exact ⟨A1, c1, blk_grown hb hw hne, hg, hr1⟩
theorem IsS92.own_neN {w0 W : World} {g : Nat} {f0 : Int} {f1 : List Int} {α : Type} {d : Kd α} {e : Nat} {base : Nat} {ok : Nat → Prop} {v : Value} {xs : List α} (h : IsS92 w0 W g f0 f1) (ho : Kd.N d e W base ok v xs) (ht : e ≠ 92) : some g ≠ v.ownBlock := by
  obtain ⟨A1, c1, hb, hg, hr1⟩ := h
  exact Kd.N_ne ho hb ht
theorem IsS92.fresh {w0 W : World} {g : Nat} {f0 : Int} {f1 : List Int} (h : IsS92 w0 W g f0 f1) : ∀ k, W.heap.size ≤ k → k ≠ g := by
  obtain ⟨A1, c1, hb, hg, hr1⟩ := h
  exact Kd.freshB hb
theorem IsS92.kept {w0 W : World} {g : Nat} {f0 : Int} {f1 : List Int} {W1 : World} {S : Nat → Prop} (h : IsS92 w0 W g f0 f1) (hk : Kept W W1 S) (hne : ¬ S g) : IsS92 w0 W1 g f0 f1 := by
  obtain ⟨A1, c1, hb, hg, hr1⟩ := h
  exact ⟨A1, c1, blk_kept hb hk hne, hg, hr1⟩
theorem IsS92.below {w0 W : World} {g : Nat} {f0 : Int} {f1 : List Int} {W1 : World} (h : IsS92 w0 W g f0 f1) (hw : Below W.heap.size W W1) : IsS92 w0 W1 g f0 f1 := h.grown (grown_of_below hw none) (by simp)
theorem IsS92.alloc {w0 W : World} {g : Nat} {f0 : Int} {f1 : List Int} (h : IsS92 w0 W g f0 f1) (o : Obj) : IsS92 w0 (W.alloc o) g f0 f1 := h.below (below_alloc (Below.refl _ _) o)
theorem IsS92.drewN {w0 W : World} {g : Nat} {f0 : Int} {f1 : List Int} (h : IsS92 w0 W g f0 f1) (m : Nat) : IsS92 w0 (W.drewN m) g f0 f1 := h
theorem IsS92.drew {w0 W : World} {g : Nat} {f0 : Int} {f1 : List Int} (h : IsS92 w0 W g f0 f1) : IsS92 w0 W.drew g f0 f1 := h
theorem IsS92.at_ {w0 W : World} {g : Nat} {f0 : Int} {f1 : List Int} {w' : World} {m : Nat} (hq : W.drewN m = w') (h : IsS92 w0 W g f0 f1) : IsS92 w0 w' g f0 f1 := by subst hq; exact IsS92.drewN h m
theorem IsS92.apart {w0 W : World} {g : Nat} {f0 : Int} {f1 : List Int} {α : Type} {d : Kd α} {e : Nat} {base : Nat} {ok : Nat → Prop} {v : Value} {xs : List α} (h : IsS92 w0 W g f0 f1) (ho : d.R e W base ok v xs) (ht : ∀ q, q ∈ e :: d.E → q ≠ 92) : d.R e W base (fun k => ok k ∧ k ≠ g) v xs := by
  obtain ⟨A1, c1, hb, hg, hr1⟩ := h
  exact Kd.R_types ho hb ht
theorem IsS92.own_ne {w0 W : World} {g : Nat} {f0 : Int} {f1 : List Int} {α : Type} {d : Kd α} {e : Nat} {base : Nat} {ok : Nat → Prop} {v : Value} {xs : List α} (h : IsS92 w0 W g f0 f1) (ho : d.R e W base ok v xs) (ht : e ≠ 92) : some g ≠ v.ownBlock := by
  obtain ⟨A1, c1, hb, hg, hr1⟩ := h
  exact Kd.R_ne ho hb ht
theorem IsS92.apartQ {w0 W : World} {g : Nat} {f0 : Int} {f1 : List Int} {α : Type} {d : Kd α} {e : Nat} {base : Nat} {ok : Nat → Prop} {v : Value} {xs : List α} (h : IsS92 w0 W g f0 f1) (ho : d.Q e W base ok v xs) (ht : ∀ q, q ∈ e :: d.E → q ≠ 92) : d.Q e W base (fun k => ok k ∧ k ≠ g) v xs := by
  obtain ⟨A1, c1, hb, hg, hr1⟩ := h
  exact Kd.Q_types ho hb ht
theorem IsS92.own_neQ {w0 W : World} {g : Nat} {f0 : Int} {f1 : List Int} {α : Type} {d : Kd α} {e : Nat} {base : Nat} {ok : Nat → Prop} {v : Value} {xs : List α} (h : IsS92 w0 W g f0 f1) (ho : d.Q e W base ok v xs) (ht : e ≠ 92) : some g ≠ v.ownBlock := by
  obtain ⟨A1, c1, hb, hg, hr1⟩ := h
  exact Kd.Q_ne ho hb ht
theorem IsS92.apartS {w0 W : World} {g : Nat} {f0 : Int} {f1 : List Int} {α : Type} {d : Kd α} {e : Nat} {base : Nat} {ok : Nat → Prop} {v : Value} {xs : List α} (h : IsS92 w0 W g f0 f1) (ho : d.S e W base ok v xs) (ht : ∀ q, q ∈ e :: d.E → q ≠ 92) : d.S e W base (fun k => ok k ∧ k ≠ g) v xs := by
  obtain ⟨A1, c1, hb, hg, hr1⟩ := h
  exact Kd.S_types ho hb ht
theorem IsS92.own_neS {w0 W : World} {g : Nat} {f0 : Int} {f1 : List Int} {α : Type} {d : Kd α} {e : Nat} {base : Nat} {ok : Nat → Prop} {v : Value} {xs : List α} (h : IsS92 w0 W g f0 f1) (ho : d.S e W base ok v xs) (ht : e ≠ 92) : some g ≠ v.ownBlock := by
  obtain ⟨A1, c1, hb, hg, hr1⟩ := h
  exact Kd.S_ne ho hb ht
theorem IsS92.lt {w0 W : World} {g : Nat} {f0 : Int} {f1 : List Int} (h : IsS92 w0 W g f0 f1) : g < W.heap.size := by
  obtain ⟨A1, c1, hb, hg, hr1⟩ := h
  exact blk_lt hb
theorem IsS92.ge {w0 W : World} {g : Nat} {f0 : Int} {f1 : List Int} (h : IsS92 w0 W g f0 f1) : w0.heap.size ≤ g := by
  obtain ⟨A1, c1, hb, hg, hr1⟩ := h
  exact hg
theorem IsS92.ne_blk {w0 W : World} {g : Nat} {f0 : Int} {f1 : List Int} {a : Nat} {cs : Array Value} {t : TypeId} {fr : Nat × Nat} (h : IsS92 w0 W g f0 f1) (hb2 : W.heap[a]? = some (.cells cs t fr)) (ht : t ≠ 92) : g ≠ a := by
  obtain ⟨A1, c1, hb, hg, hr1⟩ := h
  rintro rfl
  rw [hb] at hb2
  injection hb2 with hb2
  injection hb2 with _ ht2
  exact ht ht2.symm
theorem IsS92.far {w0 W : World} {g : Nat} {f0 : Int} {f1 : List Int} {p : Addr} (h : IsS92 w0 W g f0 f1) (hne : g ≠ p.block) (u : Value) : IsS92 w0 (W.setCell p u) g f0 f1 := by
  obtain ⟨A1, c1, hb, hg, hr1⟩ := h
  exact ⟨A1, c1, blk_far hb hne u, hg, hr1⟩
theorem cellS92_0 {W : World} {g : Nat} {A1 : Option Addr} {c1 : Nat} {f0 : Int} {f1 : List Int} (h : W.heap[g]? = some (.cells #[.int .i64 f0, .slice A1 f1.length c1] 92 (0, 0))) : W.cell? ⟨g, 0, none⟩ = some (.int .i64 f0) := (blk_cell h 0).trans rfl
theorem IsS92.set_0 {w0 W : World} {g : Nat} {f0 : Int} {f1 : List Int} (h : IsS92 w0 W g f0 f1) (x : Int) : IsS92 w0 (W.setCell ⟨g, 0, none⟩ (.int .i64 x)) g x f1 := by
  obtain ⟨A1, c1, hb, hg, hr1⟩ := h
  exact ⟨A1, c1, by simpa using blk_set hb 0 (.int .i64 x), hg, hr1⟩
theorem cellS92_1 {W : World} {g : Nat} {A1 : Option Addr} {c1 : Nat} {f0 : Int} {f1 : List Int} (h : W.heap[g]? = some (.cells #[.int .i64 f0, .slice A1 f1.length c1] 92 (0, 0))) : W.cell? ⟨g, 1, none⟩ = some (.slice A1 f1.length c1) := (blk_cell h 1).trans rfl
theorem IsS92.new (w0 W : World) (A1 : Option Addr) (c1 : Nat) (f0 : Int) (f1 : List Int) (hB : Below w0.heap.size w0 W) (hr1 : Kd.C (Kd.int .i64) w0 A1 f1.length f1) : IsS92 w0 (W.alloc (.cells #[.int .i64 f0, .slice A1 f1.length c1] 92)) W.heap.size f0 f1 := ⟨A1, c1, by simpa using heap_alloc_new W _, hB.size, hr1⟩
/-! ### align_sizes: function 48 -/
-- EQ api.Event
def align_sizes.eqv (x y : S24) : Bool := x.f0 == y.f0 && (x.f1 == y.f1)
/-- A row of the table out of the one below it. -/
def align_sizes.row (x : S24) : List S24 → List Int → List Int
  | [], _ => [0]
  | y :: b, ps => (if align_sizes.eqv x y then wrap64 (rd ps 1 + 1) else mx (rd ps 0) (rd (align_sizes.row x b ps.tail) 0)) :: align_sizes.row x b ps.tail
/-- The table's rows. -/
def align_sizes.tab : List S24 → List S24 → List (List Int)
  | [], b => [List.replicate (b.length + 1) 0]
  | x :: a, b => align_sizes.row x b ((align_sizes.tab a b).headD []) :: align_sizes.tab a b
def align_sizes.f (l0 l1 : List S24) : Option (Int × List Int) := if l0.length ≤ 1000000 then (if l1.length ≤ 1000000 then some ((l1.length : Int) + 1, (align_sizes.tab l0 l1).flatten) else none) else none


/-- What stands in memory: the table's row of numbers, the table. -/
def align_sizes.Rel (w wr : World) (m N : Nat) (L : List Int) : Prop := L.length = N ∧ wr.heap[w.heap.size]? = some (.cells (nums .i64 L).toArray 3 (0, 0)) ∧
  wr.heap[w.heap.size + 1]? = some (.cells #[.int .i64 ((m : Int) + 1), .slice (some ⟨w.heap.size, 0, none⟩) N N] 92 (0, 0)) ∧ Below w.heap.size w wr
theorem align_sizes.made (N : Nat) : madeCells (Value.int .i64 0).cells (N * 1) = (nums .i64 (List.replicate N 0)).toArray := by
  apply Array.ext
  · rw [size_madeCells]; simp [nums]
  · intro i h1 h2
    simp [madeCells, nums, Value.cells, Nat.mod_one]
theorem align_sizes.Rel.cell {w wr : World} {m N : Nat} {L : List Int} (h : align_sizes.Rel w wr m N L) (i : Nat) (hi : i < N) : wr.cell? ⟨w.heap.size, i, none⟩ = some (.int .i64 (rd L i)) ∧ wr.frozen? ⟨w.heap.size, i, none⟩ = false := by
  obtain ⟨hL, hb, _, _⟩ := h
  refine ⟨?_, blk_frozen hb i⟩
  rw [blk_cell hb]
  simp [nums, rd, List.getD, List.getElem?_eq_getElem (show i < L.length by omega)]
theorem align_sizes.Rel.wide {w wr : World} {m N : Nat} {L : List Int} (h : align_sizes.Rel w wr m N L) : wr.cell? ⟨w.heap.size + 1, 0, none⟩ = some (.int .i64 ((m : Int) + 1)) ∧ wr.cell? ⟨w.heap.size + 1, 1, none⟩ = some (.slice (some ⟨w.heap.size, 0, none⟩) N N) := by
  obtain ⟨_, _, hb, _⟩ := h
  exact ⟨blk_cell hb 0, blk_cell hb 1⟩
theorem align_sizes.Rel.drew {w wr : World} {m N : Nat} {L : List Int} (h : align_sizes.Rel w wr m N L) (q : Nat) : align_sizes.Rel w (wr.drewN q) m N L := ⟨h.1, h.2.1, h.2.2.1, pw_below_drewN h.2.2.2 q⟩
theorem align_sizes.Rel.drew1 {w wr : World} {m N : Nat} {L : List Int} (h : align_sizes.Rel w wr m N L) : align_sizes.Rel w wr.drew m N L := ⟨h.1, h.2.1, h.2.2.1, below_drew h.2.2.2⟩
theorem align_sizes.Rel.set {w wr : World} {m N : Nat} {L : List Int} (h : align_sizes.Rel w wr m N L) (i : Nat) (v : Int) : align_sizes.Rel w (wr.setCell ⟨w.heap.size, i, none⟩ (.int .i64 v)) m N (L.set i v) := by
  obtain ⟨hL, hb, hg, hB⟩ := h
  refine ⟨by simpa using hL, ?_, blk_far hg (by simp) _, hB.setCell (Nat.le_refl _) _⟩
  rw [blk_set hb]
  simp [nums, List.map_set]
def align_sizes.out (a b : List S24) (i : Nat) : List Int := List.replicate (i * (b.length + 1)) 0 ++ (align_sizes.tab (a.drop i) b).flatten
def align_sizes.inn (a b : List S24) (x : S24) (i j : Nat) : List Int := List.replicate (i * (b.length + 1) + j) 0 ++ ((align_sizes.row x b ((align_sizes.tab (a.drop (i + 1)) b).headD [])).drop j ++ (align_sizes.tab (a.drop (i + 1)) b).flatten)


theorem align_sizes.row_length (x : S24) : ∀ (b : List S24) (ps : List Int), (align_sizes.row x b ps).length = b.length + 1
  | [], _ => rfl
  | y :: b, ps => by simp only [align_sizes.row, List.length_cons, align_sizes.row_length x b]
theorem align_sizes.rd_cons (v : Int) (l : List Int) (j : Nat) : rd (v :: l) ((j + 1 : Nat) : Int) = rd l (j : Int) := by simp [rd]
theorem align_sizes.rd_tail (l : List Int) (j : Nat) : rd l.tail (j : Int) = rd l ((j + 1 : Nat) : Int) := by cases l <;> simp [rd]
theorem align_sizes.row_at (x : S24) : ∀ (b : List S24) (ps : List Int) (j : Nat), j < b.length →
    rd (align_sizes.row x b ps) (j : Int) = if align_sizes.eqv x (rd_T24 b (j : Int)) = true then wrap64 (rd ps ((j + 1 : Nat) : Int) + 1) else mx (rd ps (j : Int)) (rd (align_sizes.row x b ps) ((j + 1 : Nat) : Int))
  | [], _, j, h => by simp at h
  | y :: b, ps, 0, _ => by
    simp only [align_sizes.row]
    rw [show rd ((if align_sizes.eqv x y = true then wrap64 (rd ps 1 + 1) else mx (rd ps 0) (rd (align_sizes.row x b ps.tail) 0)) :: align_sizes.row x b ps.tail) ((0 : Nat) : Int) = (if align_sizes.eqv x y = true then wrap64 (rd ps 1 + 1) else mx (rd ps 0) (rd (align_sizes.row x b ps.tail) 0)) from rfl]
    rw [align_sizes.rd_cons]
    rfl
  | y :: b, ps, j + 1, h => by
    simp only [align_sizes.row]
    rw [align_sizes.rd_cons, align_sizes.rd_cons, align_sizes.row_at x b ps.tail j (by simpa using h), align_sizes.rd_tail, align_sizes.rd_tail]
    have : rd_T24 (y :: b) ((j + 1 : Nat) : Int) = rd_T24 b (j : Int) := by simp [rd_T24]
    rw [this]
theorem align_sizes.row_last (x : S24) : ∀ (b : List S24) (ps : List Int), (align_sizes.row x b ps).drop b.length = [0]
  | [], _ => rfl
  | y :: b, ps => by simp only [align_sizes.row, List.length_cons, List.drop_succ_cons, align_sizes.row_last x b]
theorem align_sizes.tab_head (a b : List S24) : ∃ r t, align_sizes.tab a b = r :: t ∧ r.length = b.length + 1 := by
  cases a with
  | nil => exact ⟨_, _, rfl, by simp⟩
  | cons x a => exact ⟨_, _, rfl, align_sizes.row_length ..⟩
theorem align_sizes.tab_len : ∀ (a b : List S24), (align_sizes.tab a b).flatten.length = (a.length + 1) * (b.length + 1)
  | [], b => by simp [align_sizes.tab]
  | x :: a, b => by
    simp only [align_sizes.tab, List.flatten_cons, List.length_append, align_sizes.row_length, align_sizes.tab_len a b, List.length_cons]
    rw [Nat.add_mul (a.length + 1) 1]
    omega
theorem align_sizes.rd_right (a b : List Int) (n j : Nat) (h : a.length = n) : rd (a ++ b) ((n + j : Nat) : Int) = rd b (j : Int) := by
  subst h
  unfold rd
  rw [Int.toNat_natCast, Int.toNat_natCast, List.getD_eq_getElem?_getD, List.getD_eq_getElem?_getD, List.getElem?_append_right (by omega), Nat.add_sub_cancel_left]
theorem align_sizes.rd_left (a b : List Int) (j : Nat) (h : j < a.length) : rd (a ++ b) (j : Int) = rd a (j : Int) := by
  simp [rd, List.getD, List.getElem?_append_left h]
theorem align_sizes.rd_drop (a : List Int) (i j : Nat) : rd (a.drop i) (j : Int) = rd a ((i + j : Nat) : Int) := by
  unfold rd
  rw [Int.toNat_natCast, Int.toNat_natCast]
  simp [List.getD]
theorem align_sizes.inn_below (a b : List S24) (x : S24) (i j u : Nat) (hj : j ≤ b.length) (hu : u ≤ b.length) : rd (align_sizes.inn a b x i j) ((i * (b.length + 1) + (b.length + 1) + u : Nat) : Int) = rd ((align_sizes.tab (a.drop (i + 1)) b).headD []) (u : Int) := by
  unfold align_sizes.inn
  obtain ⟨r, t, e, hr⟩ := align_sizes.tab_head (a.drop (i + 1)) b
  rw [← List.append_assoc, align_sizes.rd_right _ _ _ _ (by simp only [List.length_append, List.length_replicate, List.length_drop, align_sizes.row_length]; omega), e]
  simp only [List.headD_cons, List.flatten_cons]
  rw [align_sizes.rd_left _ _ _ (by omega)]
theorem align_sizes.inn_right (a b : List S24) (x : S24) (i j : Nat) (hj : j ≤ b.length) : rd (align_sizes.inn a b x i j) ((i * (b.length + 1) + j : Nat) : Int) = rd (align_sizes.row x b ((align_sizes.tab (a.drop (i + 1)) b).headD [])) (j : Int) := by
  unfold align_sizes.inn
  have := align_sizes.rd_right (List.replicate (i * (b.length + 1) + j) 0) ((align_sizes.row x b ((align_sizes.tab (a.drop (i + 1)) b).headD [])).drop j ++ (align_sizes.tab (a.drop (i + 1)) b).flatten) (i * (b.length + 1) + j) 0 (by simp)
  rw [show i * (b.length + 1) + j + 0 = i * (b.length + 1) + j from rfl] at this
  rw [this, align_sizes.rd_left _ _ _ (by simp only [List.length_drop, align_sizes.row_length]; omega), align_sizes.rd_drop]
  rfl
theorem align_sizes.inn_set (a b : List S24) (x : S24) (i j : Nat) (hj : j < b.length) (v : Int) (hv : v = rd (align_sizes.row x b ((align_sizes.tab (a.drop (i + 1)) b).headD [])) (j : Int)) :
    (align_sizes.inn a b x i (j + 1)).set (i * (b.length + 1) + j) v = align_sizes.inn a b x i j := by
  unfold align_sizes.inn
  have hl := align_sizes.row_length x b ((align_sizes.tab (a.drop (i + 1)) b).headD [])
  generalize align_sizes.row x b ((align_sizes.tab (a.drop (i + 1)) b).headD []) = r at hv hl
  rw [← Nat.add_assoc, List.replicate_succ', List.append_assoc, List.set_append_right _ _ (by simp), List.length_replicate, Nat.sub_self]
  simp only [List.cons_append, List.nil_append, List.set_cons_zero]
  rw [List.drop_eq_getElem_cons (show j < r.length by omega), List.cons_append, hv]
  simp [rd, List.getD, show j < r.length by omega]
theorem align_sizes.inn_start (a b : List S24) (x : S24) (i : Nat) : align_sizes.inn a b x i b.length = align_sizes.out a b (i + 1) := by
  unfold align_sizes.inn align_sizes.out
  rw [align_sizes.row_last, Nat.add_mul, Nat.one_mul, ← Nat.add_assoc, List.replicate_succ', List.append_assoc]
theorem align_sizes.inn_end (a b : List S24) (i : Nat) (hi : i < a.length) : align_sizes.inn a b (rd_T24 a (i : Int)) i 0 = align_sizes.out a b i := by
  unfold align_sizes.inn align_sizes.out
  have : a.drop i = rd_T24 a (i : Int) :: a.drop (i + 1) := by
    rw [List.drop_eq_getElem_cons hi]
    simp [rd_T24, List.getD, hi]
  rw [this]
  rfl
set_option maxHeartbeats 1600000 in
set_option maxRecDepth 100000 in
theorem align_sizes.walk (A0 : Option Addr) (c0 : Nat) (l0 : List (S24)) (A1 : Option Addr) (c1 : Nat) (l1 : List (S24)) (w : World) (h0 : l0.length ≤ 1000000) (h1 : l1.length ≤ 1000000) (hr0 : Kd.C k24 w A0 l0.length l0) (hc0 : l0.length ≤ c0) (hr1 : Kd.C k24 w A1 l1.length l1) (hc1 : l1.length ≤ c1) :
    Calls Try.prog 48 #[.slice A0 l0.length c0, .slice A1 l1.length c1] w fun e w' => e = .returned (.pointer (some ⟨w.heap.size + 1, 0, none⟩)) ∧ align_sizes.Rel w w' l1.length ((l0.length + 1) * (l1.length + 1)) (align_sizes.tab l0 l1).flatten := by
  obtain ⟨n, hn⟩ : ∃ n, n = l0.length := ⟨_, rfl⟩
  obtain ⟨m, hm⟩ : ∃ n, n = l1.length := ⟨_, rfl⟩
  rw [← hn] at hr0 hc0 h0 ⊢
  rw [← hm] at hr1 hc1 h1 ⊢
  have HN := Aside0.mk hn
  have HM := Aside0.mk hm
  have HR0 := Aside0.mk hr0
  have HR1 := Aside0.mk hr1
  clear hn hm hr0 hr1
  obtain ⟨N, hN⟩ : ∃ N : Nat, N = (n + 1) * (m + 1) := ⟨_, rfl⟩
  have hNb : N ≤ 2000000000000 := by rw [hN]; exact Nat.le_trans (Nat.mul_le_mul (by omega : n + 1 ≤ 1000001) (by omega : m + 1 ≤ 1000001)) (by decide)
  have hNe : ((n : Int) + 1) * ((m : Int) + 1) = (N : Int) := by
    rw [hN, Int.natCast_mul]; rfl
  have HNN := Aside0.mk hN
  obtain ⟨i0, hi0, hzz⟩ := Option.map_eq_some_iff.1 info3
  simp only [Prod.mk.injEq] at hzz
  obtain ⟨hz0, hz1, hz2⟩ := hzz
  have hmk := run_make (P := Try.prog) w 47 3 i0 _ Try.underlying47 hi0 hz0 .i64 .i64 (N : Int) (N : Int) (by omega) (by omega) (by rw [hz2]; omega) (by omega)
  simp only [Int.toNat_natCast, hz1, align_sizes.made] at hmk
  clear hi0 hz0 hz1 hz2 hN
  have hu92 := Try.underlying92
  have hu24 := Try.underlying24
  go_enter Try.func48, Try.ntmps48
  go_wp2_with fail
  clear hmk hNe
  have HNB := Aside0.mk hNb
  clear hNb
  go_loopw [29] (fun s29 wr => ∃ k : Nat, s29 = .int .i64 k ∧ k ≤ n ∧ align_sizes.Rel w wr m N (align_sizes.out l0 l1 (n - k))) (fun s29 _ => (n - (intOf s29).toNat))
  case atStart =>
    refine ⟨0, rfl, Nat.zero_le _, ?_, ?_, ?_, ?_⟩
    · rw [Nat.sub_zero]
      unfold align_sizes.out
      rw [HN.out, List.drop_of_length_le (Nat.le_refl _)]
      simp only [align_sizes.tab, List.flatten_cons, List.flatten_nil, List.append_nil, List.length_append, List.length_replicate]
      rw [HNN.out, HN.out, HM.out, Nat.add_mul (l0.length) 1, Nat.one_mul]
    · rw [Nat.sub_zero]
      have e : align_sizes.out l0 l1 n = List.replicate N 0 := by
        unfold align_sizes.out
        rw [HN.out, List.drop_of_length_le (Nat.le_refl _)]
        simp only [align_sizes.tab, List.flatten_cons, List.flatten_nil, List.append_nil, List.replicate_append_replicate]
        rw [HNN.out, HN.out, HM.out, Nat.add_mul (l0.length) 1, Nat.one_mul]
      rw [e]
      exact (((Below.refl (w.alloc (.cells (nums .i64 (List.replicate N 0)).toArray 3)).heap.size _).alloc (Nat.le_refl _) _).block _ (by simp)).trans (heap_alloc_new w _)
    · have := heap_alloc_new (w.alloc (.cells (nums .i64 (List.replicate N 0)).toArray 3)) (.cells #[.int .i64 ((m : Int) + 1), .slice (some ⟨w.heap.size, 0, none⟩) N N] 92)
      rw [show (w.alloc (.cells (nums .i64 (List.replicate N 0)).toArray 3)).heap.size = w.heap.size + 1 by simp] at this
      exact this
    · exact ((Below.refl _ _).alloc (Nat.le_refl _) _).alloc (by simp) _
  case round =>
    obtain ⟨k, rfl, hk, hR0⟩ := hrel
    have HR := Aside0.mk hR0
    clear hR0
    by_cases hlt : k < n
    · have hlt2 : decide ((k : Int) < (n : Int)) = true := decide_eq_true (by omega)
      obtain ⟨i, hi⟩ : ∃ i, n = i + 1 + k := ⟨n - 1 - k, by omega⟩
      obtain ⟨p, hp⟩ : ∃ p, p = i * (m + 1) := ⟨_, rfl⟩
      have hp3 : p + (m + 1) + (m + 1) ≤ N := by
        rw [HNN.out, hp]
        have : (i + 2) * (m + 1) ≤ (n + 1) * (m + 1) := Nat.mul_le_mul_right _ (by omega)
        rw [show (i + 2) * (m + 1) = i * (m + 1) + (m + 1) + (m + 1) by rw [Nat.add_mul]; omega] at this
        exact this
      have hNb := HNB.out
      obtain ⟨p2, hp2⟩ : ∃ p2, p2 = p + (m + 1) := ⟨_, rfl⟩
      obtain ⟨p3, hp3'⟩ : ∃ p3, p3 = p2 + (m + 1) := ⟨_, rfl⟩
      have hib : i ≤ 1000000 := by omega
      have q0 : (n : Int) - 1 - (k : Int) = (i : Int) := by omega
      have q1 : (i : Int) * ((m : Int) + 1) = (p : Int) := by rw [hp, Int.natCast_mul]; rfl
      have q2 : ((i : Int) + 1) * ((m : Int) + 1) = (p2 : Int) := by rw [Int.add_mul, q1]; omega
      have q3 : ((i : Int) + 2) * ((m : Int) + 1) = (p3 : Int) := by rw [Int.add_mul, q1]; omega
      have z1 : IntKind.i64.wrap (p : Int) = (p : Int) := by rw [i64_w, wrap64]; omega
      have z2 : IntKind.i64.wrap (p2 : Int) = (p2 : Int) := by rw [i64_w, wrap64]; omega
      have z3 : IntKind.i64.wrap (p3 : Int) = (p3 : Int) := by rw [i64_w, wrap64]; omega
      have z4 : IntKind.i64.wrap ((i : Int) + 1) = (i : Int) + 1 := by rw [i64_w, wrap64]; omega
      have z5 : IntKind.i64.wrap ((i : Int) + 2) = (i : Int) + 2 := by rw [i64_w, wrap64]; omega
      have hsl : ∀ (W : World) (u v : Nat), v = u + (m + 1) → v ≤ N → (Instr.sliceAt 47 (.slice (some ⟨w.heap.size, 0, none⟩) N N) (some (.int .i64 (u : Int))) (some (.int .i64 (v : Int))) (some (.int .i64 (v : Int)))).run Try.prog W = .ok (.slice (some ⟨w.heap.size, u, none⟩) (m + 1) (m + 1)) W := by
        intro W u v hv hu
        have hel : Try.prog.elem 47 = 3 := by kernel_rfl
        have hun : Try.prog.underlying 47 = some (.slice (Try.prog.elem 47)) := by rw [hel]; exact Try.underlying47
        have hsz : (sizeOf (Try.prog.elem 47)).run Try.prog W = .ok 1 W := by rw [hel]; rfl
        rw [run_sliceAt_slice W 47 _ _ _ _ hun, run_slice_lhm W 47 _ N N hun .i64 .i64 .i64 u v v (by omega) (by omega) (by omega) (by omega), hsz]
        simp only [Result.andThen, sliced, Int.toNat_natCast, Nat.mul_one]
        rw [if_neg (by omega), show v - u = m + 1 by omega]
        simp [add_plain]
      have s1 := fun W => hsl W p p2 hp2 (by omega)
      have s2 := fun W => hsl W p2 p3 hp3' (by omega)
      obtain ⟨cw, cl⟩ := HR.out.wide
      have P1 := Aside0.mk hp
      have P2 := Aside0.mk hp2
      have P3 := Aside0.mk hp3'
      have P4 := Aside0.mk hi
      have P5 := Aside0.mk hp3
      clear hsl hi hp hp3 hNb hp2 hp3'
      go_wp2_with fail
      go_quiet (fail)
      go_wp2_with fail
      go_quiet (fail)
      go_wp2_with fail
      clear q0 q1 q2 q3 z1 z2 z3 z4 z5 s1 s2 cw cl hlt2
      obtain ⟨x, hx⟩ : ∃ x : S24, x = rd_T24 l0 i := ⟨_, rfl⟩
      have HX := Aside0.mk hx
      clear hx
      go_loopw [88] (fun s88 wi => ∃ t : Nat, s88 = .int .i64 t ∧ t ≤ m ∧ align_sizes.Rel w wi m N (align_sizes.inn l0 l1 x i (m - t))) (fun s88 _ => (m - (intOf s88).toNat))
      case atStart =>
        refine ⟨0, rfl, Nat.zero_le _, ?_⟩
        have e : align_sizes.inn l0 l1 x i (m - 0) = align_sizes.out l0 l1 (n - k) := by
          have := P4.out
          rw [Nat.sub_zero, HM.out, align_sizes.inn_start, show n - k = i + 1 by omega]
        rw [e]
        exact (HR.out.drew _).drew _
      case round =>
        obtain ⟨t, rfl, hh, hR1⟩ := hrel
        have HI := Aside0.mk hR1
        clear hR1
        by_cases hl2 : t < m
        · have hlt2 : decide ((t : Int) < (m : Int)) = true := decide_eq_true (by omega)
          obtain ⟨j, hj⟩ : ∃ j, m = j + 1 + t := ⟨m - 1 - t, by omega⟩
          have q0 : (m : Int) - 1 - (t : Int) = (j : Int) := by omega
          have hb9 := HNB.out
          have hb8 := P5.out
          obtain ⟨vb, hvb⟩ : ∃ v, v = rd (align_sizes.inn l0 l1 x i (m - t)) ((p2 + j : Nat) : Int) := ⟨_, rfl⟩
          obtain ⟨vr, hvr⟩ : ∃ v, v = rd (align_sizes.inn l0 l1 x i (m - t)) ((p + (j + 1) : Nat) : Int) := ⟨_, rfl⟩
          obtain ⟨vs, hvs⟩ : ∃ v, v = rd (align_sizes.inn l0 l1 x i (m - t)) ((p + j : Nat) : Int) := ⟨_, rfl⟩
          obtain ⟨vc, hvc⟩ : ∃ v, v = rd (align_sizes.inn l0 l1 x i (m - t)) ((p2 + (j + 1) : Nat) : Int) := ⟨_, rfl⟩
          have cb := (HI.out.cell (p2 + j) (by rw [P2.out]; omega)).1
          have cr := (HI.out.cell (p + (j + 1)) (by omega)).1
          obtain ⟨cs, fs⟩ := HI.out.cell (p + j) (by omega)
          rw [← hvb] at cb
          rw [← hvr] at cr
          rw [← hvs] at cs
          have z4 : IntKind.i64.wrap ((j : Int) + 1) = (j : Int) + 1 := by rw [i64_w, wrap64]; omega
          have k1 : (0 : Int) ≤ (j : Int) + 1 := by omega
          have k2 : (j : Int) + 1 < (m : Int) + 1 := by omega
          have k3 : (j : Int) < (m : Int) + 1 := by omega
          have k4 : ((j : Int) + 1).toNat = j + 1 := by omega
          have PJ := Aside0.mk hj
          have VB := Aside0.mk hvb
          have VR := Aside0.mk hvr
          have VC := Aside0.mk hvc
          have b8 := Aside0.mk hb8
          clear hj hb9 hb8 hvb hvr hvs hvc
          go_wp2_with fail
          go_region
          generalize hvm : (if vb < vr then vr else vb) = vm
          have hvm2 : vm = mx vb vr := hvm.symm
          have VM := Aside0.mk hvm2
          clear hvm hvm2
          have HI2 : align_sizes.Rel w (wr.setCell ⟨w.heap.size, p + j, none⟩ (.int .i64 vm)).drew m N ((align_sizes.inn l0 l1 x i (m - t)).set (p + j) vm) := (HI.out.set (p + j) vm).drew1
          generalize (wr.setCell ⟨w.heap.size, p + j, none⟩ (.int .i64 vm)).drew = W2 at HI2 ⊢
          have HJ := Aside0.mk HI2
          clear HI2 cb cr cs fs z4
          obtain ⟨ad0, rfl, ca0, ca1⟩ := at_T24 (Kd.C_below HR0.out HJ.out.2.2.2) i (by omega) (by have := P4.out; omega)
          obtain ⟨ad1, rfl, cb0, cb1⟩ := at_T24 (Kd.C_below HR1.out HJ.out.2.2.2) j (by omega) (by have := PJ.out; omega)
          simp only [Int.toNat_natCast] at ca0 ca1 cb0 cb1
          have i1 : (i : Int) < (n : Int) := by have := P4.out; omega
          have i2 : (j : Int) < (m : Int) := by have := PJ.out; omega
          have i3 : (0 : Int) ≤ (i : Int) := by omega
          have i4 : (0 : Int) ≤ (j : Int) := by omega
          go_wp2_with fail
          by_cases hE : align_sizes.eqv (rd_T24 l0 i) (rd_T24 l1 j) = true
          · have hE2 : ((rd_T24 l0 i).f0 == (rd_T24 l1 j).f0 && ((rd_T24 l0 i).f1 == (rd_T24 l1 j).f1)) = true := hE
            have b9 := HNB.out
            have b7 := b8.out
            obtain ⟨vd, hvd⟩ : ∃ v, v = rd ((align_sizes.inn l0 l1 x i (m - t)).set (p + j) vm) ((p2 + (j + 1) : Nat) : Int) := ⟨_, rfl⟩
            have cd := (HJ.out.cell (p2 + (j + 1)) (by rw [P2.out]; have := PJ.out; omega)).1
            obtain ⟨cs, fs⟩ := HJ.out.cell (p + j) (by have := PJ.out; omega)
            rw [← hvd] at cd
            have z4 : IntKind.i64.wrap ((j : Int) + 1) = (j : Int) + 1 := by rw [i64_w, wrap64]; omega
            have z5 : IntKind.i64.wrap (vd + 1) = wrap64 (vd + 1) := i64_w _
            have VD := Aside0.mk hvd
            clear hvd b9 b7
            go_quiet (fail)
            go_wp2_with fail
            go_roundw
            case rel =>
              have hj := PJ.out
              refine ⟨t + 1, by go_num, by omega, ?_⟩
              have := (HJ.out.drew nq).set (p + j) (wrap64 (vd + 1))
              rw [List.set_set, show m - t = j + 1 by omega, P1.out, HM.out, align_sizes.inn_set l0 l1 x i j (by have := HM.out; omega)] at this
              · rw [show m - (t + 1) = j by omega, P1.out, HM.out]
                exact this
              · rw [align_sizes.row_at x l1 _ j (by have := HM.out; omega), HX.out, if_pos hE, VD.out, show m - t = j + 1 by omega, P2.out, P1.out, HM.out]
                congr 2
                rw [show rd ((align_sizes.inn l0 l1 x i (j + 1)).set (i * (l1.length + 1) + j) vm) ((i * (l1.length + 1) + (l1.length + 1) + (j + 1) : Nat) : Int) = rd (align_sizes.inn l0 l1 x i (j + 1)) ((i * (l1.length + 1) + (l1.length + 1) + (j + 1) : Nat) : Int) by
                  unfold rd
                  rw [Int.toNat_natCast, List.getD_eq_getElem?_getD, List.getD_eq_getElem?_getD, List.getElem?_set_ne (by omega)]]
                rw [align_sizes.inn_below l0 l1 x i (j + 1) (j + 1) (by have := HM.out; omega) (by have := HM.out; omega)]
            case measure => simp [intOf]; omega
          · have hE2 : ((rd_T24 l0 i).f0 == (rd_T24 l1 j).f0 && ((rd_T24 l0 i).f1 == (rd_T24 l1 j).f1)) = false := by
              have : align_sizes.eqv (rd_T24 l0 i) (rd_T24 l1 j) = false := by simpa using hE
              exact this
            go_quiet (fail)
            go_wp2_with fail
            go_roundw
            case rel =>
              have hj := PJ.out
              refine ⟨t + 1, by go_num, by omega, ?_⟩
              have := HJ.out.drew nq
              rw [show m - t = j + 1 by omega, P1.out, HM.out, align_sizes.inn_set l0 l1 x i j (by have := HM.out; omega)] at this
              · rw [show m - (t + 1) = j by omega, HM.out]
                exact this
              · rw [align_sizes.row_at x l1 _ j (by have := HM.out; omega), HX.out, if_neg hE, VM.out, VB.out, VR.out, show m - t = j + 1 by omega, P2.out, P1.out, HM.out]
                rw [align_sizes.inn_below l0 l1 x i (j + 1) j (by have := HM.out; omega) (by have := HM.out; omega), align_sizes.inn_right l0 l1 x i (j + 1) (by have := HM.out; omega)]
                rw [HX.out]
            case measure => simp [intOf]; omega
        · have hlt3 : decide ((t : Int) < (m : Int)) = false := decide_eq_false (by omega)
          go_wp2_with fail
          go_roundw
          case rel =>
            have hi := P4.out
            refine ⟨k + 1, by go_num, by omega, ?_⟩
            have := HI.out
            rw [show m - t = 0 by omega, HX.out, align_sizes.inn_end l0 l1 i (by have := HN.out; omega)] at this
            rw [show n - (k + 1) = i by omega]
            exact this
          case measure => simp [intOf]; omega
    · have hlt3 : decide ((k : Int) < (n : Int)) = false := decide_eq_false (by omega)
      go_wp2_with fail
      go_ret
      have := HR.out
      rw [show n - k = 0 by omega, HNN.out] at this
      exact ⟨rfl, by simpa [align_sizes.out] using this⟩
theorem align_sizes.state {w w' : World} {m N : Nat} {L : List Int} (hN : N ≤ 9000000000000000000) (h : align_sizes.Rel w w' m N L) : ∃ z0 : World, IsS92 z0 w' (w.heap.size + 1) ((m : Int) + 1) L ∧ Below z0.heap.size z0 w' ∧ Below w.heap.size w z0 := by
  obtain ⟨hL, hb, hg, hB⟩ := h
  have hs : w.heap.size + 1 < w'.heap.size := blk_lt hg
  have hz : ({ w' with heap := w'.heap.extract 0 (w.heap.size + 1) } : World).heap.size = w.heap.size + 1 := by
    show (w'.heap.extract 0 (w.heap.size + 1)).size = _
    simp
    omega
  have hat : ∀ i, i < w.heap.size + 1 → ({ w' with heap := w'.heap.extract 0 (w.heap.size + 1) } : World).heap[i]? = w'.heap[i]? := by
    intro i hi
    show (w'.heap.extract 0 (w.heap.size + 1))[i]? = _
    rw [Array.getElem?_extract]
    simp
    omega
  have hr : ReadsInt ({ w' with heap := w'.heap.extract 0 (w.heap.size + 1) } : World) .i64 (some ⟨w.heap.size, 0, none⟩) L.length L := by
    refine ⟨rfl, by omega, fun _ => ⟨_, rfl, fun j hj => ?_⟩⟩
    rw [add_plain, blk_cell ((hat _ (by omega)).trans hb)]
    simp [nums, List.getD, List.getElem?_eq_getElem hj]
  refine ⟨{ w' with heap := w'.heap.extract 0 (w.heap.size + 1) }, ⟨some ⟨w.heap.size, 0, none⟩, N, by rw [hL]; exact hg, by rw [hz]; exact Nat.le_refl _, Kd.C_of_reads (d := (0 : Int)) (h1 := fun _ => rfl) hr⟩, ?_, ?_⟩
  · exact ⟨rfl, rfl, rfl, by rw [hz]; omega, fun i hi => (hat i (by rw [hz] at hi; exact hi)).symm⟩
  · exact ⟨hB.os, hB.tape, hB.output, by rw [hz]; omega, fun i hi => (hat i (by omega)).trans (hB.block i hi)⟩
theorem align_sizes.calls (A0 : Option Addr) (c0 : Nat) (l0 : List (S24)) (A1 : Option Addr) (c1 : Nat) (l1 : List (S24)) (r1 : Int) (r2 : List Int) (w0 w : World) (hB : Below w0.heap.size w0 w) (hr0 : Kd.C k24 w0 A0 l0.length l0) (hc0 : l0.length ≤ c0) (hr1 : Kd.C k24 w0 A1 l1.length l1) (hc1 : l1.length ≤ c1) (h : align_sizes.f l0 l1 = some (r1, r2)) :
    Calls Try.prog 48 #[.slice A0 l0.length c0, .slice A1 l1.length c1] w fun e w' => ∃ (g_ : Nat) (z0 : World), e = .returned (.pointer (some ⟨g_, 0, none⟩)) ∧ IsS92 z0 w' g_ r1 r2 ∧ Below z0.heap.size z0 w' ∧ Below w.heap.size w z0 := by
  unfold align_sizes.f at h
  split at h
  case isFalse => cases h
  rename_i h0
  split at h
  case isFalse => cases h
  rename_i h1
  simp only [Option.some.injEq, Prod.mk.injEq] at h; obtain ⟨rfl, rfl⟩ := h; refine (align_sizes.walk A0 c0 l0 A1 c1 l1 w h0 h1 (Kd.C_below hr0 hB) hc0 (Kd.C_below hr1 hB) hc1).mono ?_; rintro e w' ⟨rfl, hR⟩; obtain ⟨z0, h2, h3, h4⟩ := align_sizes.state (Nat.le_trans (Nat.mul_le_mul (show l0.length + 1 ≤ 1000001 by omega) (show l1.length + 1 ≤ 1000001 by omega)) (by decide)) hR; exact ⟨_, z0, rfl, h2, h3, h4⟩

/-! ### align_table_at: function 49 -/
def align_table_at.f (s0_0 : Int) (s0_1 : List Int) (a1 : Int) (a2 : Int) : Option (Int × Int) := if 0 ≤ (wrap64 ((wrap64 (a1 * s0_0)) + a2)) then (if (wrap64 ((wrap64 (a1 * s0_0)) + a2)) < (s0_1.length : Int) then (some (rd s0_1 (wrap64 ((wrap64 (a1 * s0_0)) + a2)), s0_0)) else (none)) else (none)
set_option maxHeartbeats 8000000 in
set_option maxRecDepth 100000 in
theorem align_table_at.calls (g : Nat) (s0_0 : Int) (s0_1 : List Int) (a1 : Int) (a2 : Int) (r1 : Int) (r2 : Int) (w0 w : World) (hI : IsS92 w0 w g s0_0 s0_1) (hB : Below w0.heap.size w0 w) (h : align_table_at.f s0_0 s0_1 a1 a2 = some (r1, r2)) :
  Calls Try.prog 49 #[.pointer (some ⟨g, 0, none⟩), .int .i64 a1, .int .i64 a2] w fun e w' => e = .returned (.int .i64 r1) ∧ IsS92 w0 w' g r2 s0_1 ∧ Below w0.heap.size w0 w' ∧ KeepBut w w' g none := by
 have HI0 := Aside0.mk hI; have HK := Aside0.mk (KeepBut.refl w g none); have HL := Aside0.mk hB.size; clear hI; have HW0 := Aside0.mk hB.size; have HB := Aside0.mk hB; clear hB; have H : (if 0 ≤ (wrap64 ((wrap64 (a1 * s0_0)) + a2)) then (if (wrap64 ((wrap64 (a1 * s0_0)) + a2)) < (s0_1.length : Int) then (some (rd s0_1 (wrap64 ((wrap64 (a1 * s0_0)) + a2)), s0_0)) else (none)) else (none)) = some (r1, r2) := h; clear h; obtain ⟨ji4, hji4⟩ : ∃ j_ : Int, (wrap64 ((wrap64 (a1 * s0_0)) + a2)) = j_ := ⟨_, rfl⟩; replace H : (if 0 ≤ (ji4) then (if (ji4) < (s0_1.length : Int) then (some (rd s0_1 (ji4), s0_0)) else (none)) else (none)) = some (r1, r2) := by first | (rw [hji4] at H; exact H) | (simp only [hji4] at H ⊢; exact H)
 have hji4w : (IntKind.i64.wrap ((wrap64 (a1 * s0_0)) + a2)) = ji4 := (i64_w _).trans hji4
 by_cases c5 : 0 ≤ (ji4)
 ·rw [if_pos c5] at H; have c5b0 : decide (0 ≤ (ji4)) = true := decide_eq_true c5; clear c5
  by_cases c6 : (ji4) < (s0_1.length : Int)
  ·rw [if_pos c6] at H; have c6b0 : decide ((ji4) < (s0_1.length : Int)) = true := decide_eq_true c6; clear c6; simp only [Option.some.injEq, Prod.mk.injEq] at H; obtain ⟨rfl, rfl⟩ := H; obtain ⟨ASz7_1, cSz7_1, HGz7, hgz7, HSz7_1⟩ := HI0.out; have hcz7_0 := cellS92_0 HGz7; have hcz7_1 := cellS92_1 HGz7; have hfz7_0 := blk_frozen HGz7 0; clear HGz7 hgz7
   have p135 : 0 ≤ ((ji4) : Int) := of_decide_eq_true (by first | (with_reducible assumption) | assumption)
   have q135 : (ji4) < (s0_1.length : Int) := of_decide_eq_true (by first | (with_reducible assumption) | assumption)
   obtain ⟨ad135, e135, hx135_0⟩ := Kd.at_int HSz7_1 (ji4) p135 q135
   cases e135
   replace hx135_0 := pw_cell_below HB.out hx135_0; replace p135 := eq_true p135; replace q135 := eq_true q135; go_enter Try.func49, Try.ntmps49; go_wp2
   repeat (go_quiet (fail); try go_wp2)
   go_ret; exact ⟨by first | rfl | (simp [errW_none, errW_some] <;> rfl) | (simp only [← hji4]; first | rfl | (simp [errW_none, errW_some] <;> rfl)) | (simp [*, errW_none, errW_some] <;> rfl), by repeat (first | (with_reducible first | exact HI0.out | apply IsS92.alloc | apply IsS92.drewN | apply IsS92.drew | apply IsS92.set_0) | exact HI0.out), by repeat (first | (with_reducible first | exact HB.out | apply below_alloc | apply pw_below_drewN | apply below_drew1 | refine below_set ?_ (IsS92.ge HI0.out)) | exact HB.out), by repeat (first | (with_reducible first | exact HK.out | apply KeepBut.set_ | apply keep_drewN | apply keep_drew | apply keep_alloc) | exact HK.out)⟩
  ·rw [if_neg c6] at H; exact absurd H (by simp)
 ·rw [if_neg c5] at H; exact absurd H (by simp)

end Go.Proofs.Ythbgbeelcnfofaa.P
