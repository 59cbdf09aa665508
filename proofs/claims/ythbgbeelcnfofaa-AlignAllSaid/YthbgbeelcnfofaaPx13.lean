-- Written by a program of this session (its own turn of the print: wip/patch_print.py), not by hand. Lean checks it.
import Derived.Test.YthbgbeelcnfofaaPx0
import Derived.Test.YthbgbeelcnfofaaPx1
namespace Go.Proofs.Ythbgbeelcnfofaa.P
open Go.RowKit Go.Proofs.YthbgbeelcnfofaaW.PrintWords Go.Proofs.YthbgbeelcnfofaaW.PrintLast Go.Proofs.YthbgbeelcnfofaaW.PrintMore
attribute [local go_sem] max2_int min2_int max_two min_two max_three min_three max_four min_four   -- for this text's walks alone
set_option linter.unusedVariables false
set_option linter.unusedSimpArgs false

attribute [local go_sem high] eqA24
/-! ### parallaxlaw15_many: function 17 -/
def parallaxlaw15_many.f (l0 : List (S24)) (l1 : List (S24)) : Option (Bool) := if (l0.length : Int) > 24 then (some true) else (some (decide ((l1.length : Int) > 24)))
set_option maxHeartbeats 8000000 in
set_option maxRecDepth 100000 in
theorem parallaxlaw15_many.calls (A0 : Option Addr) (c0 : Nat) (l0 : List (S24)) (A1 : Option Addr) (c1 : Nat) (l1 : List (S24)) (r : Bool) (w : World) (hr0 : Kd.C k24 w A0 l0.length l0) (hc0 : l0.length ≤ c0) (hr1 : Kd.C k24 w A1 l1.length l1) (hc1 : l1.length ≤ c1) (h : parallaxlaw15_many.f l0 l1 = some r) :
  Calls Try.prog 17 #[.slice A0 l0.length c0, .slice A1 l1.length c1] w fun e w' => e = .returned (.bool r) ∧ Drawn0 w w' := by
 have HR0 := Aside0.mk hr0
 have HC0 := Aside0.mk hc0
 clear hr0 hc0
 have HR1 := Aside0.mk hr1
 have HC1 := Aside0.mk hc1
 clear hr1 hc1
 have H : (if (l0.length : Int) > 24 then (some true) else (some (decide ((l1.length : Int) > 24)))) = some r := h
 clear h
 by_cases c3 : (l0.length : Int) > 24
 ·rw [if_pos c3] at H
  have c3b0 : decide (24 < (l0.length : Int)) = true := decide_eq_true c3
  have c3b1 : decide (24 < l0.length) = true := decide_eq_true (by omega)
  clear c3
  obtain rfl := Option.some.inj H
  go_enter Try.func17, Try.ntmps17
  go_wp2
  go_ret
  exact ⟨by first | rfl | (simp; done) | (simp [*]; done), by repeat (first | exact Drawn0.refl _ | apply Drawn0.step)⟩
 ·rw [if_neg c3] at H
  have c3b0 : decide (24 < (l0.length : Int)) = false := decide_eq_false c3
  have c3b1 : decide (24 < l0.length) = false := decide_eq_false (by omega)
  clear c3
  obtain rfl := Option.some.inj H
  go_enter Try.func17, Try.ntmps17
  go_wp2
  go_ret
  exact ⟨by first | rfl | (simp; done) | (simp [*]; done), by repeat (first | exact Drawn0.refl _ | apply Drawn0.step)⟩

/-! ### parallaxref15_Sizes: function 51 -/
-- EQ api.Event
def parallaxref15_Sizes.eqv (x y : S24) : Bool := x.f0 == y.f0 && (x.f1 == y.f1)
/-- A number of a row: out of the three beside it. -/
def parallaxref15_Sizes.cell (e : Bool) (a b c : Int) : Int := if e = true then (if (if a < c then c else a) < wrap64 (b + 1) then wrap64 (b + 1) else (if a < c then c else a)) else (if a < c then c else a)
/-- A row of the table out of the one below it. -/
def parallaxref15_Sizes.row (x : S24) : List S24 → List Int → List Int
  | [], _ => [0]
  | y :: b, ps => parallaxref15_Sizes.cell (parallaxref15_Sizes.eqv x y) (rd ps 0) (rd ps 1) (rd (parallaxref15_Sizes.row x b ps.tail) 0) :: parallaxref15_Sizes.row x b ps.tail
/-- The table's rows. -/
def parallaxref15_Sizes.tab : List S24 → List S24 → List (List Int)
  | [], b => [List.replicate (b.length + 1) 0]
  | x :: a, b => parallaxref15_Sizes.row x b ((parallaxref15_Sizes.tab a b).headD []) :: parallaxref15_Sizes.tab a b
def parallaxref15_Sizes.f (l0 l1 : List S24) : Option (List (List Int)) := if l0.length ≤ 1000000 then (if l1.length ≤ 1000000 then some (parallaxref15_Sizes.tab l0 l1) else none) else none

theorem parallaxref15_Sizes.info : (Try.prog.info? 47).map (fun i => (i.zero, i.size, i.bytes)) = some (some (.slice none 0 0), 1, 24) := by kernel_rfl
theorem parallaxref15_Sizes.made (N : Nat) : madeCells (Value.int .i64 0).cells (N * 1) = (nums .i64 (List.replicate N 0)).toArray := by
  apply Array.ext
  · rw [size_madeCells]; simp [nums]
  · intro i h1 h2
    simp [madeCells, nums, Value.cells, Nat.mod_one]
theorem parallaxref15_Sizes.row_length (x : S24) : ∀ (b : List S24) (ps : List Int), (parallaxref15_Sizes.row x b ps).length = b.length + 1
  | [], _ => rfl
  | y :: b, ps => by simp only [parallaxref15_Sizes.row, List.length_cons, parallaxref15_Sizes.row_length x b]
theorem parallaxref15_Sizes.rd_cons (v : Int) (l : List Int) (j : Nat) : rd (v :: l) ((j + 1 : Nat) : Int) = rd l (j : Int) := by simp [rd]
theorem parallaxref15_Sizes.rd_tail (l : List Int) (j : Nat) : rd l.tail (j : Int) = rd l ((j + 1 : Nat) : Int) := by cases l <;> simp [rd]
theorem parallaxref15_Sizes.row_at (x : S24) : ∀ (b : List S24) (ps : List Int) (j : Nat), j < b.length →
    rd (parallaxref15_Sizes.row x b ps) (j : Int) = parallaxref15_Sizes.cell (parallaxref15_Sizes.eqv x (rd_T24 b (j : Int))) (rd ps (j : Int)) (rd ps ((j + 1 : Nat) : Int)) (rd (parallaxref15_Sizes.row x b ps) ((j + 1 : Nat) : Int))
  | [], _, j, h => by simp at h
  | y :: b, ps, 0, _ => by
    simp only [parallaxref15_Sizes.row]
    rw [show rd (parallaxref15_Sizes.cell (parallaxref15_Sizes.eqv x y) (rd ps 0) (rd ps 1) (rd (parallaxref15_Sizes.row x b ps.tail) 0) :: parallaxref15_Sizes.row x b ps.tail) ((0 : Nat) : Int) = parallaxref15_Sizes.cell (parallaxref15_Sizes.eqv x y) (rd ps 0) (rd ps 1) (rd (parallaxref15_Sizes.row x b ps.tail) 0) from rfl]
    rw [parallaxref15_Sizes.rd_cons]
    rfl
  | y :: b, ps, j + 1, h => by
    simp only [parallaxref15_Sizes.row]
    rw [parallaxref15_Sizes.rd_cons, parallaxref15_Sizes.rd_cons, parallaxref15_Sizes.row_at x b ps.tail j (by simpa using h), parallaxref15_Sizes.rd_tail, parallaxref15_Sizes.rd_tail]
    have : rd_T24 (y :: b) ((j + 1 : Nat) : Int) = rd_T24 b (j : Int) := by simp [rd_T24]
    rw [this]
theorem parallaxref15_Sizes.row_last (x : S24) : ∀ (b : List S24) (ps : List Int), (parallaxref15_Sizes.row x b ps).drop b.length = [0]
  | [], _ => rfl
  | y :: b, ps => by simp only [parallaxref15_Sizes.row, List.length_cons, List.drop_succ_cons, parallaxref15_Sizes.row_last x b]
theorem parallaxref15_Sizes.tab_head (a b : List S24) : ((parallaxref15_Sizes.tab a b).headD []).length = b.length + 1 := by
  cases a with
  | nil => simp [parallaxref15_Sizes.tab]
  | cons x a => simp [parallaxref15_Sizes.tab, parallaxref15_Sizes.row_length]
theorem parallaxref15_Sizes.tab_length : ∀ (a b : List S24), (parallaxref15_Sizes.tab a b).length = a.length + 1
  | [], b => rfl
  | x :: a, b => by simp only [parallaxref15_Sizes.tab, List.length_cons, parallaxref15_Sizes.tab_length a b]

/-- Between two rounds of the outer loop: the row below, the rows. -/
def parallaxref15_Sizes.Rel (w wr : World) (m g : Nat) (v : Value) (L : List Int) (T : List (List Int)) : Prop := L.length = m + 1 ∧ wr.heap[g]? = some (.cells (nums .i64 L).toArray 3 (0, 0)) ∧ w.heap.size ≤ g ∧
  Kd.S (Kd.slice 3 (Kd.int .i64)) 47 wr w.heap.size (fun _ => True) v T ∧ Below w.heap.size w wr
/-- Between two rounds of the inner loop: the row that is written too. -/
def parallaxref15_Sizes.Rel2 (w wr : World) (m g g2 : Nat) (v : Value) (ps L : List Int) (T : List (List Int)) : Prop := L.length = m + 1 ∧ ps.length = m + 1 ∧ wr.heap[g2]? = some (.cells (nums .i64 L).toArray 3 (0, 0)) ∧ wr.heap[g]? = some (.cells (nums .i64 ps).toArray 3 (0, 0)) ∧ g ≠ g2 ∧ w.heap.size ≤ g2 ∧
  Kd.S (Kd.slice 3 (Kd.int .i64)) 47 wr w.heap.size (fun k => k ≠ g2) v T ∧ Below w.heap.size w wr
theorem parallaxref15_Sizes.cell_of {wr : World} {g m : Nat} {L : List Int} (hL : L.length = m + 1) (hb : wr.heap[g]? = some (.cells (nums .i64 L).toArray 3 (0, 0))) (i : Nat) (hi : i ≤ m) : wr.cell? ⟨g, i, none⟩ = some (.int .i64 (rd L i)) ∧ wr.frozen? ⟨g, i, none⟩ = false := by
  refine ⟨?_, blk_frozen hb i⟩
  rw [blk_cell hb]
  simp [nums, rd, List.getD, List.getElem?_eq_getElem (show i < L.length by omega)]
theorem parallaxref15_Sizes.Rel2.set {w wr : World} {m g g2 : Nat} {v : Value} {ps L : List Int} {T : List (List Int)} (h : parallaxref15_Sizes.Rel2 w wr m g g2 v ps L T) (i : Nat) (x : Int) : parallaxref15_Sizes.Rel2 w (wr.setCell ⟨g2, i, none⟩ (.int .i64 x)) m g g2 v ps (L.set i x) T := by
  obtain ⟨h1, h2, h3, h4, h5, h6, h7, h8⟩ := h
  refine ⟨by simpa using h1, h2, ?_, blk_far h4 (by simpa using h5) _, h5, h6, Kd.S_far h7 (fun k hk => hk) _, h8.setCell h6 _⟩
  rw [blk_set h3]
  simp [nums, List.map_set]
theorem parallaxref15_Sizes.Rel2.drew {w wr : World} {m g g2 : Nat} {v : Value} {ps L : List Int} {T : List (List Int)} (h : parallaxref15_Sizes.Rel2 w wr m g g2 v ps L T) (q : Nat) : parallaxref15_Sizes.Rel2 w (wr.drewN q) m g g2 v ps L T := by
  obtain ⟨h1, h2, h3, h4, h5, h6, h7, h8⟩ := h
  exact ⟨h1, h2, h3, h4, h5, h6, Kd.S_drewN h7 q, pw_below_drewN h8 q⟩
theorem parallaxref15_Sizes.Rel2.drew1 {w wr : World} {m g g2 : Nat} {v : Value} {ps L : List Int} {T : List (List Int)} (h : parallaxref15_Sizes.Rel2 w wr m g g2 v ps L T) : parallaxref15_Sizes.Rel2 w wr.drew m g g2 v ps L T := by
  obtain ⟨h1, h2, h3, h4, h5, h6, h7, h8⟩ := h
  exact ⟨h1, h2, h3, h4, h5, h6, Kd.S_drew h7, below_drew1 h8⟩
/-- The row is made. -/
theorem parallaxref15_Sizes.Rel.make {w wr : World} {m g : Nat} {v : Value} {L : List Int} {T : List (List Int)} (h : parallaxref15_Sizes.Rel w wr m g v L T) : parallaxref15_Sizes.Rel2 w (wr.alloc (.cells (nums .i64 (List.replicate (m + 1) 0)).toArray 3 (0, 0))) m g wr.heap.size v L (List.replicate (m + 1) 0) T := by
  obtain ⟨h1, h2, h3, h4, h5⟩ := h
  have hg := blk_lt h2
  refine ⟨by simp, h1, heap_alloc_new wr _, ?_, by omega, h5.size, ?_, below_alloc h5 _⟩
  · exact (Below.alloc (Below.refl _ _) (Nat.le_refl _) _).block g hg |>.trans h2
  · exact Kd.S_mono (Kd.S_alloc (Kd.S_elderB h4 wr.heap.size (Nat.le_refl _)) _) (fun _ hk => hk.2)
/-- A row of numbers of one's own, as a cell. -/
theorem parallaxref15_Sizes.lit {wr : World} {base m g : Nat} {L : List Int} {ok : Nat → Prop} (hL : L.length = m + 1) (hm : m ≤ 1000000) (hb : wr.heap[g]? = some (.cells (nums .i64 L).toArray 3 (0, 0))) (hg : base ≤ g) (hok : ok g) : (Kd.slice 3 (Kd.int .i64)).M wr base ok L [.slice (some ⟨g, 0, none⟩) (m + 1) (m + 1)] := by
  refine ⟨_, rfl, ?_⟩
  refine Kd.R_of_own (enc := Value.int .i64) ⟨by simp [encs], .inr ⟨g, m + 1, _, by rw [hL], hg, hb, by omega, by simp [maxLen]; omega, by simp [nums, hL], ?_⟩⟩ (fun k hk => ?_)
  · simp only [encs, nums]
    rw [List.take_of_length_le (by simp [hL])]
  · have : g = k := by simpa [Value.ownBlock] using hk
    exact this ▸ hok
theorem parallaxref15_Sizes.apart {wr : World} {base g2 : Nat} {v : Value} {T : List (List Int)} (h : Kd.S (Kd.slice 3 (Kd.int .i64)) 47 wr base (fun k => k ≠ g2) v T) : ∃ F : Nat → Nat, F g2 = 0 ∧ (Kd.tag F (Kd.slice 3 (Kd.int .i64))).R 47 wr base (fun k => k ≠ g2) v (T.zipIdx 1) := by
  obtain ⟨f, h0, inner, ho, hr⟩ := h
  rw [List.length_zipIdx] at ho
  refine ⟨fun k => if k = g2 then 0 else f k + 1, if_pos rfl, h0, inner, by rw [List.length_zipIdx]; exact ho, by have := hr.1; rw [List.length_zipIdx] at this; rw [List.length_zipIdx]; exact this, fun j p hj => ?_⟩
  rw [List.getElem?_zipIdx] at hj
  obtain ⟨x, hx, rfl⟩ := Option.map_eq_some_iff.1 hj
  exact (Kd.slice 3 (Kd.int .i64)).M_mono (fun k hk => ⟨hk.1, by
    show (if k = g2 then 0 else f k + 1) = 1 + j
    rw [if_neg hk.1.1, show f k = j from hk.2, Nat.add_comm]⟩) (hr.2 j (x, j) (Kd.zip_at hx))
def parallaxref15_Sizes.inn (b : List S24) (x : S24) (ps : List Int) (j : Nat) : List Int := List.replicate j 0 ++ (parallaxref15_Sizes.row x b ps).drop j
theorem parallaxref15_Sizes.inn_at (b : List S24) (x : S24) (ps : List Int) (j : Nat) : rd (parallaxref15_Sizes.inn b x ps j) (j : Int) = rd (parallaxref15_Sizes.row x b ps) (j : Int) := by
  unfold parallaxref15_Sizes.inn rd
  rw [Int.toNat_natCast, List.getD_eq_getElem?_getD, List.getD_eq_getElem?_getD, List.getElem?_append_right (by simp), List.length_replicate, Nat.sub_self]
  simp
theorem parallaxref15_Sizes.inn_set (b : List S24) (x : S24) (ps : List Int) (j : Nat) (hj : j < b.length) (v : Int) (hv : v = rd (parallaxref15_Sizes.row x b ps) (j : Int)) :
    (parallaxref15_Sizes.inn b x ps (j + 1)).set j v = parallaxref15_Sizes.inn b x ps j := by
  unfold parallaxref15_Sizes.inn
  have hl := parallaxref15_Sizes.row_length x b ps
  generalize parallaxref15_Sizes.row x b ps = r at hv hl
  rw [List.replicate_succ', List.append_assoc, List.set_append_right _ _ (by simp), List.length_replicate, Nat.sub_self]
  simp only [List.cons_append, List.nil_append, List.set_cons_zero]
  rw [List.drop_eq_getElem_cons (show j < r.length by omega), hv]
  simp [rd, List.getD, show j < r.length by omega]
theorem parallaxref15_Sizes.inn_start (b : List S24) (x : S24) (ps : List Int) : parallaxref15_Sizes.inn b x ps b.length = List.replicate (b.length + 1) 0 := by
  unfold parallaxref15_Sizes.inn
  rw [parallaxref15_Sizes.row_last, List.replicate_succ']
theorem parallaxref15_Sizes.inn_end (b : List S24) (x : S24) (ps : List Int) : parallaxref15_Sizes.inn b x ps 0 = parallaxref15_Sizes.row x b ps := by
  unfold parallaxref15_Sizes.inn
  simp
theorem parallaxref15_Sizes.one {W : World} {base m a g : Nat} {L : List Int} (hL : L.length = m + 1) (hm : m ≤ 1000000) (hb : W.heap[g]? = some (.cells (nums .i64 L).toArray 3 (0, 0))) (ha : W.heap[a]? = some (.cells #[.slice (some ⟨g, 0, none⟩) (m + 1) (m + 1)] 47 (0, 0))) (hg : base ≤ g) (hga : base ≤ a) (hne : g ≠ a) :
    Kd.S (Kd.slice 3 (Kd.int .i64)) 47 W base (fun _ => True) (.slice (some ⟨a, 0, none⟩) 1 1) [L] := by
  refine ⟨fun _ => 0, fun _ _ => trivial, [.slice (some ⟨g, 0, none⟩) (m + 1) (m + 1)], ⟨rfl, .inr ⟨a, 1, _, rfl, hga, ha, Nat.le_refl _, by decide, rfl, rfl⟩⟩, rfl, ?_⟩
  intro j q hj
  rcases j with _ | j
  · have : (L, 0) = q := by simpa using hj
    subst this
    exact parallaxref15_Sizes.lit hL hm hb hg ⟨⟨trivial, by simpa [Value.ownBlock] using hne⟩, rfl⟩
  · simp at hj
theorem parallaxref15_Sizes.rd_set (L : List Int) (j : Nat) (v : Int) (h : j < L.length) : rd (L.set j v) (j : Int) = v := by simp [rd, List.getD, h]
theorem parallaxref15_Sizes.rd_set_ne (L : List Int) (j : Nat) (v : Int) : rd (L.set j v) ((j + 1 : Nat) : Int) = rd L ((j + 1 : Nat) : Int) := by
  unfold rd
  rw [Int.toNat_natCast, List.getD_eq_getElem?_getD, List.getD_eq_getElem?_getD, List.getElem?_set_ne (by omega)]
theorem parallaxref15_Sizes.inn_next (b : List S24) (x : S24) (ps : List Int) (j : Nat) : rd (parallaxref15_Sizes.inn b x ps j) (j : Int) = rd (parallaxref15_Sizes.row x b ps) (j : Int) := parallaxref15_Sizes.inn_at b x ps j
set_option maxHeartbeats 1600000 in
set_option maxRecDepth 100000 in
theorem parallaxref15_Sizes.walk (A0 : Option Addr) (c0 : Nat) (l0 : List (S24)) (A1 : Option Addr) (c1 : Nat) (l1 : List (S24)) (w : World) (h0 : l0.length ≤ 1000000) (h1 : l1.length ≤ 1000000) (hr0 : Kd.C k24 w A0 l0.length l0) (hc0 : l0.length ≤ c0) (hr1 : Kd.C k24 w A1 l1.length l1) (hc1 : l1.length ≤ c1) :
    Calls Try.prog 51 #[.slice A0 l0.length c0, .slice A1 l1.length c1] w fun e w' => ∃ v, e = .returned v ∧ Kd.S (Kd.slice 3 (Kd.int .i64)) 47 w' w.heap.size (fun _ => True) v (parallaxref15_Sizes.tab l0 l1) ∧ Below w.heap.size w w' := by
  obtain ⟨n, hn⟩ : ∃ n, n = l0.length := ⟨_, rfl⟩
  obtain ⟨m, hm⟩ : ∃ n, n = l1.length := ⟨_, rfl⟩
  rw [← hn] at hr0 hc0 h0 ⊢
  rw [← hm] at hr1 hc1 h1 ⊢
  have HN := Aside0.mk hn
  have HM := Aside0.mk hm
  have HR0 := Aside0.mk hr0
  have HR1 := Aside0.mk hr1
  clear hn hm hr0 hr1
  obtain ⟨i0, hi0, hzz⟩ := Option.map_eq_some_iff.1 info3
  simp only [Prod.mk.injEq] at hzz
  obtain ⟨hz0, hz1, hz2⟩ := hzz
  have hmk : ∀ W : World, (Instr.makeSlice 47 (.int .i64 ((m : Int) + 1)) (.int .i64 ((m : Int) + 1))).run Try.prog W = .ok (.slice (some ⟨W.heap.size, 0, none⟩) (m + 1) (m + 1)) (W.alloc (.cells (nums .i64 (List.replicate (m + 1) 0)).toArray 3 (0, 0))) := by
    intro W
    have := run_make (P := Try.prog) W 47 3 i0 _ Try.underlying47 hi0 hz0 .i64 .i64 ((m : Int) + 1) ((m : Int) + 1) (by omega) (by omega) (by rw [hz2]; omega) (by omega)
    rw [show ((m : Int) + 1).toNat = m + 1 by omega, hz1, parallaxref15_Sizes.made] at this
    exact this
  clear hi0 hz0 hz1 hz2
  have hu24 := Try.underlying24
  go_enter Try.func51, Try.ntmps51
  go_wp2_with fail
  go_loopw [5, 6, 7] (fun s5 s6 s7 wr => ∃ (r g : Nat) (v : Value), s5 = .slice (some ⟨g, 0, none⟩) (m + 1) (m + 1) ∧ s6 = v ∧ s7 = .int .i64 ((r : Int) - 1) ∧ r ≤ n ∧ parallaxref15_Sizes.Rel w wr m g v ((parallaxref15_Sizes.tab (l0.drop r) l1).headD []) (parallaxref15_Sizes.tab (l0.drop r) l1)) (fun _ _ s7 _ => (intOf s7 + 1).toNat)
  case atStart =>
    have e : parallaxref15_Sizes.tab (l0.drop n) l1 = [List.replicate (m + 1) 0] := by
      rw [HN.out, List.drop_of_length_le (Nat.le_refl _), HM.out]
      rfl
    have b0 := (((Below.refl (w.alloc (.cells (nums .i64 (List.replicate (m + 1) 0)).toArray 3)).heap.size _).alloc (Nat.le_refl _) (.cells #[.slice (some ⟨w.heap.size, 0, none⟩) (m + 1) (m + 1)] 47)).block _ (by simp)).trans (heap_alloc_new w _)
    have b1 := heap_alloc_new (w.alloc (.cells (nums .i64 (List.replicate (m + 1) 0)).toArray 3)) (.cells #[.slice (some ⟨w.heap.size, 0, none⟩) (m + 1) (m + 1)] 47)
    rw [show (w.alloc (.cells (nums .i64 (List.replicate (m + 1) 0)).toArray 3)).heap.size = w.heap.size + 1 by simp] at b1
    refine ⟨n, w.heap.size, _, rfl, rfl, rfl, Nat.le_refl _, ?_⟩
    rw [e]
    exact ⟨by simp, b0, Nat.le_refl _, parallaxref15_Sizes.one (by simp) h1 b0 b1 (Nat.le_refl _) (by omega) (by omega), ((Below.refl _ _).alloc (Nat.le_refl _) _).alloc (by simp) _⟩
  case round =>
    obtain ⟨r, g, v, rfl, rfl, rfl, hr, hR0⟩ := hrel
    have HR := Aside0.mk hR0
    clear hR0
    rcases r with _ | i
    · go_wp2_with fail
      go_ret
      exact ⟨_, rfl, HR.out.2.2.2⟩
    · rw [show ((i + 1 : Nat) : Int) - 1 = (i : Int) by omega]
      have hge : decide ((0 : Int) ≤ (i : Int)) = true := decide_eq_true (by omega)
      go_wp2_with fail
      obtain ⟨x, hx⟩ : ∃ x : S24, x = rd_T24 l0 i := ⟨_, rfl⟩
      obtain ⟨ps, hps⟩ : ∃ ps, ps = (parallaxref15_Sizes.tab (l0.drop (i + 1)) l1).headD [] := ⟨_, rfl⟩
      obtain ⟨T, hT⟩ : ∃ T, T = parallaxref15_Sizes.tab (l0.drop (i + 1)) l1 := ⟨_, rfl⟩
      have HX := Aside0.mk hx
      have HP := Aside0.mk hps
      have HT := Aside0.mk hT
      have hM := HR.out.make
      rw [← hps, ← hT] at hM
      obtain ⟨g2, hg2⟩ : ∃ g2, g2 = wr.heap.size := ⟨_, rfl⟩
      rw [← hg2] at hM ⊢
      generalize wr.alloc (.cells (nums .i64 (List.replicate (m + 1) 0)).toArray 3 (0, 0)) = W1 at hM ⊢
      have HM1 := Aside0.mk hM
      clear hM hx hps hT hg2 hge
      go_loopw [9] (fun s9 wi => ∃ t : Nat, s9 = .int .i64 ((t : Int) - 1) ∧ t ≤ m ∧ parallaxref15_Sizes.Rel2 w wi m g g2 u6 ps (parallaxref15_Sizes.inn l1 x ps t) T) (fun s9 _ => (intOf s9 + 1).toNat)
      case atStart =>
        refine ⟨m, rfl, Nat.le_refl _, ?_⟩
        rw [HM.out, parallaxref15_Sizes.inn_start, ← HM.out]
        exact HM1.out
      case round =>
        obtain ⟨t, rfl, ht, hR1⟩ := hrel
        have HI := Aside0.mk hR1
        clear hR1
        rcases t with _ | j
        · obtain ⟨row, hrow⟩ : ∃ row, row = parallaxref15_Sizes.inn l1 x ps 0 := ⟨_, rfl⟩
          rw [← hrow] at HI
          have HRW := Aside0.mk hrow
          clear hrow
          obtain ⟨F, hF0, hO⟩ := parallaxref15_Sizes.apart HI.out.2.2.2.2.2.2.1
          obtain ⟨Ao, co, eo, -, hre⟩ := hO.2.reads
          rw [List.length_zipIdx] at eo
          have HO0 := Aside0.mk hO
          have HF0 := Aside0.mk hF0
          subst eo
          have LT : Aside0 (T.length ≤ n) := Aside0.mk (by rw [HT.out, parallaxref15_Sizes.tab_length, List.length_drop, ← HN.out]; omega)
          clear hO hre hF0
          go_wp2_with (first
            | ((with_reducible refine gate_builtin (b := .append) (xs := #[.tmp 91, .tmp 93]) rfl ?_); at_builtin
               refine Kd.R_append (Kd.tag F (Kd.slice 3 (Kd.int .i64))) (w0 := w) w.heap.size rfl (.tmp 91) (.tmp 93) 88 47 (.slice none 0 0) 24 rfl Try.underlying88 parallaxref15_Sizes.info rfl Nat.one_pos (by omega) (.slice none 0 0) [] (row, 0) [.slice (some ⟨g2, 0, none⟩) (m + 1) (m + 1)] (fun _ => True) (fun k => k = g2) rfl rfl ?aP ?aK ?aF ?aO ?aB ?aS ?aL ?_
               (case aP => exact (show (Kd.slice 3 (Kd.int .i64)).M wr w.heap.size (fun k => k = g2 ∧ F k = 0) row [.slice (some ⟨g2, 0, none⟩) (m + 1) (m + 1)] from parallaxref15_Sizes.lit HI.out.1 h1 HI.out.2.2.1 HI.out.2.2.2.2.2.1 ⟨rfl, HF0.out⟩))
               (case aK => exact (fun k hk => ⟨trivial, by simp [Value.ownBlock]⟩))
               (case aF => exact (fun _ _ => trivial))
               (case aO => exact Kd.R_nil _ _ _ _ _)
               (case aB => exact HI.out.2.2.2.2.2.2.2)
               (case aS => exact HI.out.2.2.2.2.2.2.2.size)
               (case aL => exact (by decide))
               intro v1 w1 ho hb hg hat
               have HO1 := Aside0.mk ho
               have HB1 := Aside0.mk hb
               have HG1 := Aside0.mk hg
               have HA1 := Aside0.mk hat
               clear ho hb hg hat)
            | ((with_reducible refine gate_builtin (b := .append) (xs := #[.tmp 94, .tmp 95]) rfl ?_); at_builtin
               refine Kd.R_append_rows (Kd.tag F (Kd.slice 3 (Kd.int .i64))) (w0 := w) w.heap.size rfl (.tmp 94) (.tmp 95) 88 47 (.slice none 0 0) 24 rfl Try.underlying88 parallaxref15_Sizes.info rfl Nat.one_pos (by omega) v1 ([] ++ [(row, 0)]) (T.zipIdx 1) _ _ _ (fun _ => True) (fun k => some k ≠ v1.ownBlock) rfl rfl HO1.out ?aR (fun _ _ h => h) (fun _ hk => ⟨trivial, hk⟩) (fun _ _ => trivial) HB1.out HB1.out.size ?aL ?_
               (case aR =>
                 obtain ⟨A', c', e', -, hre⟩ := (Kd.R_after (ok := fun _ => True) (v := .slice none 0 0) (Kd.R_mono HO0.out (fun k _ => ⟨trivial, by simp [Value.ownBlock]⟩)) HG1.out HA1.out).2.reads
                 rw [List.length_zipIdx] at e' hre
                 injection e' with e1
                 subst e1
                 exact hre.imp_ (Below.refl _ _) (fun p c hp => (Kd.tag F (Kd.slice 3 (Kd.int .i64))).M_mono (fun k hk => hk.1.2) hp))
               (case aL => exact (by have := LT.out; simp only [List.nil_append, List.length_singleton]; omega))
               intro v2 w2 ho hb hg hat
               have HO2 := Aside0.mk ho
               have HB2 := Aside0.mk hb
               have HG2 := Aside0.mk hg
               have HA2 := Aside0.mk hat
               clear ho hb hg hat))
          go_roundw
          case rel =>
            have e : parallaxref15_Sizes.tab (l0.drop i) l1 = row :: T := by
              have hi : i < l0.length := by have := HN.out; omega
              have : l0.drop i = x :: l0.drop (i + 1) := by
                rw [List.drop_eq_getElem_cons hi, HX.out]
                simp [rd_T24, List.getD, hi]
              rw [this, HRW.out, parallaxref15_Sizes.inn_end, HP.out, HT.out]
              rfl
            refine ⟨i, g2, _, rfl, rfl, rfl, by omega, ?_⟩
            rw [e]
            refine ⟨HI.out.1, ?_, HI.out.2.2.2.2.2.1, ⟨F, by simpa using HO2.out⟩, HB2.out⟩
            refine blk_grown (blk_grown HI.out.2.2.1 HG1.out (by simp [Value.ownBlock])) HG2.out ?_
            have hlt := blk_lt HI.out.2.2.1
            rcases HA1.out with h | ⟨b, h, hb⟩
            · rw [h]; simp [Value.ownBlock]
            · rw [h]
              intro h3
              injection h3 with h3
              omega
          case measure => simp [intOf]
        · rw [show ((j + 1 : Nat) : Int) - 1 = (j : Int) by omega]
          have hge : decide ((0 : Int) ≤ (j : Int)) = true := decide_eq_true (by omega)
          have k0 : (0 : Int) ≤ (j : Int) := by omega
          have k1 : (0 : Int) ≤ (j : Int) + 1 := by omega
          have k2 : (j : Int) + 1 < (m : Int) + 1 := by omega
          have k3 : (j : Int) < (m : Int) + 1 := by omega
          have k4 : ((j : Int) + 1).toNat = j + 1 := by omega
          have z4 : IntKind.i64.wrap ((j : Int) + 1) = (j : Int) + 1 := by rw [i64_w, wrap64]; omega
          obtain ⟨va, hva⟩ : ∃ v, v = rd ps (j : Int) := ⟨_, rfl⟩
          obtain ⟨vb, hvb⟩ : ∃ v, v = rd ps ((j + 1 : Nat) : Int) := ⟨_, rfl⟩
          obtain ⟨vc, hvc⟩ : ∃ v, v = rd (parallaxref15_Sizes.inn l1 x ps (j + 1)) ((j + 1 : Nat) : Int) := ⟨_, rfl⟩
          obtain ⟨vd, hvd⟩ : ∃ v, v = rd (parallaxref15_Sizes.inn l1 x ps (j + 1)) (j : Int) := ⟨_, rfl⟩
          have ca := (parallaxref15_Sizes.cell_of HI.out.2.1 HI.out.2.2.2.1 j (by omega)).1
          obtain ⟨cd, fd⟩ := parallaxref15_Sizes.cell_of HI.out.1 HI.out.2.2.1 j (by omega)
          rw [← hva] at ca
          rw [← hvd] at cd
          have VA := Aside0.mk hva
          have VB := Aside0.mk hvb
          have VC := Aside0.mk hvc
          clear hva hvb hvc hvd
          go_wp2_with fail
          have HI2 := Aside0.mk (HI.out.set j va)
          clear ca cd fd
          generalize wr.setCell ⟨g2, j, none⟩ (.int .i64 va) = W2 at HI2 ⊢
          have cj := (parallaxref15_Sizes.cell_of HI2.out.1 HI2.out.2.2.1 j (by omega)).1
          have ck := (parallaxref15_Sizes.cell_of HI2.out.1 HI2.out.2.2.1 (j + 1) (by omega)).1
          have fj := (parallaxref15_Sizes.cell_of HI2.out.1 HI2.out.2.2.1 j (by omega)).2
          rw [parallaxref15_Sizes.rd_set _ _ _ (by rw [HI.out.1]; omega)] at cj
          rw [parallaxref15_Sizes.rd_set_ne, ← VC.out] at ck
          by_cases hc : va < vc
          · have hc1 : decide (va < vc) = true := decide_eq_true hc
            go_quiet (fail)
            go_wp2_with fail
            obtain ⟨vm, hvm⟩ : ∃ v, v = vc := ⟨_, rfl⟩
            have HJ := (HI2.out.drew nq).set j vc
            rw [List.set_set, ← hvm] at HJ
            have HM3 : Aside0 (vm = if va < vc then vc else va) := Aside0.mk (by rw [if_pos hc]; exact hvm)
            rw [← hvm]
            generalize (W2.drewN nq).setCell ⟨g2, j, none⟩ (.int .i64 vm) = W3 at HJ ⊢
            have HJ := Aside0.mk HJ
            clear cj ck fj hvm
            obtain ⟨cj, fj⟩ := parallaxref15_Sizes.cell_of HJ.out.1 HJ.out.2.2.1 j (by omega)
            have ck := (parallaxref15_Sizes.cell_of HJ.out.2.1 HJ.out.2.2.2.1 (j + 1) (by omega)).1
            rw [parallaxref15_Sizes.rd_set _ _ _ (by rw [HI.out.1]; omega)] at cj
            rw [← VB.out] at ck
            obtain ⟨ad0, rfl, ca0, ca1⟩ := at_T24 (Kd.C_below HR0.out HJ.out.2.2.2.2.2.2.2) i (by omega) (by omega)
            obtain ⟨ad1, rfl, cb0, cb1⟩ := at_T24 (Kd.C_below HR1.out HJ.out.2.2.2.2.2.2.2) j (by omega) (by omega)
            simp only [Int.toNat_natCast] at ca0 ca1 cb0 cb1
            have i1 : (i : Int) < (n : Int) := by omega
            have i2 : (j : Int) < (m : Int) := by omega
            have i3 : (0 : Int) ≤ (i : Int) := by omega
            have z5 : IntKind.i64.wrap (vb + 1) = wrap64 (vb + 1) := i64_w _
            by_cases hE : parallaxref15_Sizes.eqv (rd_T24 l0 i) (rd_T24 l1 j) = true
            · have hE2 : ((rd_T24 l0 i).f0 == (rd_T24 l1 j).f0 && ((rd_T24 l0 i).f1 == (rd_T24 l1 j).f1)) = true := hE
              by_cases hd : vm < wrap64 (vb + 1)
              · have hd1 : decide (vm < wrap64 (vb + 1)) = true := decide_eq_true hd
                go_quiet (fail)
                go_wp2_with fail
                go_roundw
                case rel =>
                  obtain ⟨vn, hvn⟩ : ∃ v, v = wrap64 (vb + 1) := ⟨_, rfl⟩
                  have HK := (HJ.out.drew nq).set j (wrap64 (vb + 1))
                  rw [List.set_set, ← hvn] at HK
                  rw [← hvn]
                  refine ⟨j, by go_num, by omega, ?_⟩
                  rw [← parallaxref15_Sizes.inn_set l1 x ps j (by have := HM.out; omega) vn ?hv]
                  exact HK
                  case hv =>
                    rw [parallaxref15_Sizes.row_at x l1 ps j (by have := HM.out; omega), ← VA.out, ← VB.out, ← parallaxref15_Sizes.inn_at, ← VC.out]
                    unfold parallaxref15_Sizes.cell
                    rw [HX.out]
                    first
                      | rw [if_pos hE, ← HM3.out, if_pos hd]; exact hvn
                      | rw [if_pos hE, ← HM3.out, if_neg (by omega)]; exact hvn
                      | rw [if_neg hE, ← HM3.out]; exact hvn
                case measure => simp [intOf]
              · have hd1 : decide (vm < wrap64 (vb + 1)) = false := decide_eq_false hd
                go_quiet (fail)
                go_wp2_with fail
                go_roundw
                case rel =>
                  obtain ⟨vn, hvn⟩ : ∃ v, v = vm := ⟨_, rfl⟩
                  have HK := HJ.out.drew nq
                  rw [← hvn] at HK
                  refine ⟨j, by go_num, by omega, ?_⟩
                  rw [← parallaxref15_Sizes.inn_set l1 x ps j (by have := HM.out; omega) vn ?hv]
                  exact HK
                  case hv =>
                    rw [parallaxref15_Sizes.row_at x l1 ps j (by have := HM.out; omega), ← VA.out, ← VB.out, ← parallaxref15_Sizes.inn_at, ← VC.out]
                    unfold parallaxref15_Sizes.cell
                    rw [HX.out]
                    first
                      | rw [if_pos hE, ← HM3.out, if_pos hd]; exact hvn
                      | rw [if_pos hE, ← HM3.out, if_neg (by omega)]; exact hvn
                      | rw [if_neg hE, ← HM3.out]; exact hvn
                case measure => simp [intOf]
            · have hE2 : ((rd_T24 l0 i).f0 == (rd_T24 l1 j).f0 && ((rd_T24 l0 i).f1 == (rd_T24 l1 j).f1)) = false := by
                have : parallaxref15_Sizes.eqv (rd_T24 l0 i) (rd_T24 l1 j) = false := by simpa using hE
                exact this
              go_quiet (fail)
              go_wp2_with fail
              go_roundw
              case rel =>
                obtain ⟨vn, hvn⟩ : ∃ v, v = vm := ⟨_, rfl⟩
                have HK := HJ.out.drew nq
                rw [← hvn] at HK
                refine ⟨j, by go_num, by omega, ?_⟩
                rw [← parallaxref15_Sizes.inn_set l1 x ps j (by have := HM.out; omega) vn ?hv]
                exact HK
                case hv =>
                  rw [parallaxref15_Sizes.row_at x l1 ps j (by have := HM.out; omega), ← VA.out, ← VB.out, ← parallaxref15_Sizes.inn_at, ← VC.out]
                  unfold parallaxref15_Sizes.cell
                  rw [HX.out]
                  first
                    | rw [if_pos hE, ← HM3.out, if_pos hd]; exact hvn
                    | rw [if_pos hE, ← HM3.out, if_neg (by omega)]; exact hvn
                    | rw [if_neg hE, ← HM3.out]; exact hvn
              case measure => simp [intOf]
          · have hc1 : decide (va < vc) = false := decide_eq_false hc
            go_quiet (fail)
            go_wp2_with fail
            obtain ⟨vm, hvm⟩ : ∃ v, v = va := ⟨_, rfl⟩
            have HJ := (HI2.out.drew nq)
            rw [← hvm] at HJ
            have HM3 : Aside0 (vm = if va < vc then vc else va) := Aside0.mk (by rw [if_neg (by omega)]; exact hvm)
            generalize W2.drewN nq = W3 at HJ ⊢
            have HJ := Aside0.mk HJ
            clear cj ck fj hvm
            obtain ⟨cj, fj⟩ := parallaxref15_Sizes.cell_of HJ.out.1 HJ.out.2.2.1 j (by omega)
            have ck := (parallaxref15_Sizes.cell_of HJ.out.2.1 HJ.out.2.2.2.1 (j + 1) (by omega)).1
            rw [parallaxref15_Sizes.rd_set _ _ _ (by rw [HI.out.1]; omega)] at cj
            rw [← VB.out] at ck
            obtain ⟨ad0, rfl, ca0, ca1⟩ := at_T24 (Kd.C_below HR0.out HJ.out.2.2.2.2.2.2.2) i (by omega) (by omega)
            obtain ⟨ad1, rfl, cb0, cb1⟩ := at_T24 (Kd.C_below HR1.out HJ.out.2.2.2.2.2.2.2) j (by omega) (by omega)
            simp only [Int.toNat_natCast] at ca0 ca1 cb0 cb1
            have i1 : (i : Int) < (n : Int) := by omega
            have i2 : (j : Int) < (m : Int) := by omega
            have i3 : (0 : Int) ≤ (i : Int) := by omega
            have z5 : IntKind.i64.wrap (vb + 1) = wrap64 (vb + 1) := i64_w _
            by_cases hE : parallaxref15_Sizes.eqv (rd_T24 l0 i) (rd_T24 l1 j) = true
            · have hE2 : ((rd_T24 l0 i).f0 == (rd_T24 l1 j).f0 && ((rd_T24 l0 i).f1 == (rd_T24 l1 j).f1)) = true := hE
              by_cases hd : vm < wrap64 (vb + 1)
              · have hd1 : decide (vm < wrap64 (vb + 1)) = true := decide_eq_true hd
                go_quiet (fail)
                go_wp2_with fail
                go_roundw
                case rel =>
                  obtain ⟨vn, hvn⟩ : ∃ v, v = wrap64 (vb + 1) := ⟨_, rfl⟩
                  have HK := (HJ.out.drew nq).set j (wrap64 (vb + 1))
                  rw [List.set_set, ← hvn] at HK
                  rw [← hvn]
                  refine ⟨j, by go_num, by omega, ?_⟩
                  rw [← parallaxref15_Sizes.inn_set l1 x ps j (by have := HM.out; omega) vn ?hv]
                  exact HK
                  case hv =>
                    rw [parallaxref15_Sizes.row_at x l1 ps j (by have := HM.out; omega), ← VA.out, ← VB.out, ← parallaxref15_Sizes.inn_at, ← VC.out]
                    unfold parallaxref15_Sizes.cell
                    rw [HX.out]
                    first
                      | rw [if_pos hE, ← HM3.out, if_pos hd]; exact hvn
                      | rw [if_pos hE, ← HM3.out, if_neg (by omega)]; exact hvn
                      | rw [if_neg hE, ← HM3.out]; exact hvn
                case measure => simp [intOf]
              · have hd1 : decide (vm < wrap64 (vb + 1)) = false := decide_eq_false hd
                go_quiet (fail)
                go_wp2_with fail
                go_roundw
                case rel =>
                  obtain ⟨vn, hvn⟩ : ∃ v, v = vm := ⟨_, rfl⟩
                  have HK := HJ.out.drew nq
                  rw [← hvn] at HK
                  refine ⟨j, by go_num, by omega, ?_⟩
                  rw [← parallaxref15_Sizes.inn_set l1 x ps j (by have := HM.out; omega) vn ?hv]
                  exact HK
                  case hv =>
                    rw [parallaxref15_Sizes.row_at x l1 ps j (by have := HM.out; omega), ← VA.out, ← VB.out, ← parallaxref15_Sizes.inn_at, ← VC.out]
                    unfold parallaxref15_Sizes.cell
                    rw [HX.out]
                    first
                      | rw [if_pos hE, ← HM3.out, if_pos hd]; exact hvn
                      | rw [if_pos hE, ← HM3.out, if_neg (by omega)]; exact hvn
                      | rw [if_neg hE, ← HM3.out]; exact hvn
                case measure => simp [intOf]
            · have hE2 : ((rd_T24 l0 i).f0 == (rd_T24 l1 j).f0 && ((rd_T24 l0 i).f1 == (rd_T24 l1 j).f1)) = false := by
                have : parallaxref15_Sizes.eqv (rd_T24 l0 i) (rd_T24 l1 j) = false := by simpa using hE
                exact this
              go_quiet (fail)
              go_wp2_with fail
              go_roundw
              case rel =>
                obtain ⟨vn, hvn⟩ : ∃ v, v = vm := ⟨_, rfl⟩
                have HK := HJ.out.drew nq
                rw [← hvn] at HK
                refine ⟨j, by go_num, by omega, ?_⟩
                rw [← parallaxref15_Sizes.inn_set l1 x ps j (by have := HM.out; omega) vn ?hv]
                exact HK
                case hv =>
                  rw [parallaxref15_Sizes.row_at x l1 ps j (by have := HM.out; omega), ← VA.out, ← VB.out, ← parallaxref15_Sizes.inn_at, ← VC.out]
                  unfold parallaxref15_Sizes.cell
                  rw [HX.out]
                  first
                    | rw [if_pos hE, ← HM3.out, if_pos hd]; exact hvn
                    | rw [if_pos hE, ← HM3.out, if_neg (by omega)]; exact hvn
                    | rw [if_neg hE, ← HM3.out]; exact hvn
              case measure => simp [intOf]
    
theorem parallaxref15_Sizes.calls (A0 : Option Addr) (c0 : Nat) (l0 : List (S24)) (A1 : Option Addr) (c1 : Nat) (l1 : List (S24)) (r : List (List Int)) (w : World) (hr0 : Kd.C k24 w A0 l0.length l0) (hc0 : l0.length ≤ c0) (hr1 : Kd.C k24 w A1 l1.length l1) (hc1 : l1.length ≤ c1) (h : parallaxref15_Sizes.f l0 l1 = some r) :
    Calls Try.prog 51 #[.slice A0 l0.length c0, .slice A1 l1.length c1] w fun e w' => ∃ v0_ : Value, e = .returned v0_ ∧ (Kd.S (Kd.slice 3 (Kd.int .i64)) 47 w' w.heap.size (fun _ => True) v0_ r) ∧ Below w.heap.size w w' := by
  unfold parallaxref15_Sizes.f at h
  split at h
  case isFalse => cases h
  rename_i h0
  split at h
  case isFalse => cases h
  rename_i h1
  simp only [Option.some.injEq] at h
  subst h
  exact parallaxref15_Sizes.walk A0 c0 l0 A1 c1 l1 w h0 h1 hr0 hc0 hr1 hc1

end Go.Proofs.Ythbgbeelcnfofaa.P
