-- Written by a program of this session (its own turn of the print: wip/patch_print.py), not by hand. Lean checks it.
import Derived.Test.YtdbpdcjlbopkbaaDoorWAll
import Derived.Test.YtdbpdcjlbopkbaaDoorPx0
import Derived.Test.YtdbpdcjlbopkbaaDoorPx2
import Derived.Test.YtdbpdcjlbopkbaaDoorPx3
import Derived.Test.YtdbpdcjlbopkbaaDoorPx4
namespace Go.Proofs.YtdbpdcjlbopkbaaDoor.P
open Go.RowKit Go.Proofs.YtdbpdcjlbopkbaaDoorW.PrintWords Go.Proofs.YtdbpdcjlbopkbaaDoorW.PrintLast Go.Proofs.YtdbpdcjlbopkbaaDoorW.PrintMore
attribute [local go_sem] max2_int min2_int max_two min_two max_three min_three max_four min_four   -- for this text's walks alone
set_option linter.unusedVariables false
set_option linter.unusedSimpArgs false

/-! ### code_Parse: function 13 -/
def code_Parse.l0 (l : List ByteArray) : Nat → Nat → Int → Int
 | 0, _, op => op
 | k + 1, x, op => code_Parse.l0 l k (x + 1) (if 0 < x then (if 0 < (l.length : Int) then (if (rdOf ByteArray.empty l 0).toList = (rdOf ByteArray.empty code_WORDS (x : Int)).toList then (x : Int) else op) else op) else op)
def code_Parse.f (k : Nat) (a0 : ByteArray) : Option (Int × Int × Int × Int) := (num_Words.f k a0).bind fun l => (if code_Parse.l0 l 26 0 0 = 0 then some (0, 0, 0, 61) else ((code_numbers.f k (code_Parse.l0 l 26 0 0)).bind fun n => (if (l.length : Int) = wrap64 (1 + n) then (if 1 < (l.length : Int) then ((num_Parse.f k (rdOf ByteArray.empty l 1)).bind fun p => (if p.2 = 0 then (if 2 < (l.length : Int) then ((num_Parse.f k (rdOf ByteArray.empty l 2)).bind fun q => (if q.2 = 0 then some (code_Parse.l0 l 26 0 0, p.1, q.1, 0) else some (0, 0, 0, 61))) else some (code_Parse.l0 l 26 0 0, p.1, 0, 0)) else some (0, 0, 0, 61))) else some (code_Parse.l0 l 26 0 0, 0, 0, 0)) else some (0, 0, 0, 61))))
theorem code_Parse.mono : ∀ (a0 : ByteArray) (k : Nat), LeO (code_Parse.f k a0) (code_Parse.f (k + 1) a0) := by
 intro a0 k
 unfold code_Parse.f
 repeat' (with_reducible first | apply num_Words.mono | apply code_numbers.mono | apply num_Parse.mono | exact LeO.refl _ | exact LeO.none _ | refine LeO.ite ?_ ?_ | refine LeO.bind ?_ (fun _ => ?_))
def code_Parse.arr : Array Value := (code_WORDS.map Value.string).toArray
theorem code_Parse.at_ (V : Value) (hV : V = .agg code_Parse.arr) : ∀ (x : Nat), x < 26 → ∀ W : World, (Instr.index 47 V (.int .i64 (x : Int))).run Tryd.prog W = .ok (.string (rdOf ByteArray.empty code_WORDS (x : Int))) W := by
 subst hV
 intro x hx
 match x, hx with
 | 0, _ => exact fun _ => by kernel_rfl
 | 1, _ => exact fun _ => by kernel_rfl
 | 2, _ => exact fun _ => by kernel_rfl
 | 3, _ => exact fun _ => by kernel_rfl
 | 4, _ => exact fun _ => by kernel_rfl
 | 5, _ => exact fun _ => by kernel_rfl
 | 6, _ => exact fun _ => by kernel_rfl
 | 7, _ => exact fun _ => by kernel_rfl
 | 8, _ => exact fun _ => by kernel_rfl
 | 9, _ => exact fun _ => by kernel_rfl
 | 10, _ => exact fun _ => by kernel_rfl
 | 11, _ => exact fun _ => by kernel_rfl
 | 12, _ => exact fun _ => by kernel_rfl
 | 13, _ => exact fun _ => by kernel_rfl
 | 14, _ => exact fun _ => by kernel_rfl
 | 15, _ => exact fun _ => by kernel_rfl
 | 16, _ => exact fun _ => by kernel_rfl
 | 17, _ => exact fun _ => by kernel_rfl
 | 18, _ => exact fun _ => by kernel_rfl
 | 19, _ => exact fun _ => by kernel_rfl
 | 20, _ => exact fun _ => by kernel_rfl
 | 21, _ => exact fun _ => by kernel_rfl
 | 22, _ => exact fun _ => by kernel_rfl
 | 23, _ => exact fun _ => by kernel_rfl
 | 24, _ => exact fun _ => by kernel_rfl
 | 25, _ => exact fun _ => by kernel_rfl
 | n + 26, h => exact absurd h (by omega)
theorem code_Parse.load (W : World) (h : Laid W) : (loadVar 47 ⟨0, 0, none⟩).run Tryd.prog W = .ok (.agg code_Parse.arr) W := by
  have hn : (code_WORDS.map Value.string).length = 26 := by simp [code_WORDS]
  have hl : (loadCells ⟨0, 0, none⟩ 26).run Tryd.prog W = .ok code_Parse.arr W := by
    have := run_loadCells_list (P := Tryd.prog) W ⟨0, 0, none⟩ (code_WORDS.map Value.string) (fun j v hv => by
      have hj : j < 26 := by
        have := (List.getElem?_eq_some_iff.1 hv).1
        omega
      have hadd : (⟨0, 0, none⟩ : Addr).add j = ⟨0, j, none⟩ := by unfold Addr.add; split <;> simp_all
      rw [hadd, h.words j hj]
      rw [List.getElem?_map] at hv
      obtain ⟨u, hu, rfl⟩ := Option.map_eq_some_iff.1 hv
      simp [rdOf, List.getD, hu])
    rw [hn] at this
    exact this
  have hagg : (isAgg 47).run Tryd.prog W = .ok true W := by
    unfold isAgg
    rw [Sem.run_bind, run_underlying Tryd.underlying47 W]
    rfl
  have hs : (sizeOf 47).run Tryd.prog W = .ok 26 W := by kernel_rfl
  simp only [loadVar, Sem.run_bind, hagg, Result.andThen_ok, hs, hl, if_true]
  first | rfl | simp
theorem code_Parse.ret {R : Ending → World → Prop} {a : Act} {w : World} {g : Nat} {cs : Array Value} {u : Value} (hp : a.tmps.getD 2 undef = .pointer (some ⟨g, 0, none⟩)) (hu : a.tmps.getD 3 undef = u) (hg : w.heap[g]? = some (.cells cs 23 (0, 0))) (hc : cs.size = 3) (hd : a.defers = []) (hR : R (.returned (.tuple #[.agg cs, u])) w) : bodyPost Tryd.prog Tryd.f13 R .ret a w := by
  have hl := run_loadVar_row (P := Tryd.prog) w g 23 23 cs (0, 0) _ hg Tryd.underlying23 rfl (by rw [hc]; kernel_rfl)
  have hr : (results Tryd.f13 a.tmps).run Tryd.prog w = .ok (.tuple #[.agg cs, u]) w := by
    have h0 : Tryd.f13.results = #[.cell 2 23, .tmp 3] := rfl
    have hp' : a.tmps[2]?.getD undef = .pointer (some ⟨g, 0, none⟩) := by simpa using hp
    have hu' : a.tmps[3]?.getD undef = u := by simpa using hu
    simp [results, h0, hp', hu', asAddr, hl]
  exact bodyPost_ret hr hd hR
theorem code_Parse.wp_load {P : Program} {ops : Array Oper} {rest : List Oper} {o : Oper} {a : Act} {w : World} {Q : Exit → Act → World → Prop} (hgd : o.guard = none) (ty : TypeId) (x : Operand) (ho : o.op = .load ty x) (ad : Addr) (hx : a.eval x = .pointer (some ad)) (v : Value) (hr : (loadVar ty ad).run P w = .ok v w) (h : wpList P ops Q rest (a.put o.dst v) w) : wpList P ops Q (o :: rest) a w :=
  wpList_plain hgd fun _ hK => by
    unfold Oper.wp execOp
    simp only [ho, hx, Instr.loadAt, Instr.sureAddr, Sem.run_bind, Sem.run_pure, Result.andThen_ok, hr]
    exact hK _ _ h
set_option maxHeartbeats 8000000 in
set_option maxRecDepth 100000 in
theorem code_Parse.calls (k : Nat) (a0 : ByteArray) (r1 : Int) (r2 : Int) (r3 : Int) (r4 : Int) (w : World) (hLd : Laid w) (h : code_Parse.f k a0 = some (r1, r2, r3, r4)) :
  Calls Tryd.prog 13 #[.string a0] w fun e w' => e = .returned (.tuple #[.agg #[.int .i64 r1, .int .i64 r2, .int .i64 r3], .int .i64 r4]) ∧ Below w.heap.size w w' := by
 have hu23 := Tryd.underlying23; have HLd := Aside0.mk hLd; clear hLd; have H := h; clear h
 unfold code_Parse.f at H
 replace H := Option.bind_eq_some_iff.mp H; obtain ⟨l, A10, H⟩ := H; have A1 := Aside0.mk A10; clear A10; obtain ⟨OP, hOP⟩ : ∃ OP, OP = code_Parse.l0 l 26 0 0 := ⟨_, rfl⟩; rw [← hOP] at H; have HP := Aside0.mk hOP; have HH := Aside0.mk H; clear hOP H; have hiq0 : ∀ (a b : Option Addr) (W : World), (Instr.index 58 (.agg #[.pointer a, .pointer b]) (.int .i64 0)).run Tryd.prog W = .ok (.pointer a) W := fun _ _ _ => rfl
 have hiq1 : ∀ (a b : Option Addr) (W : World), (Instr.index 58 (.agg #[.pointer a, .pointer b]) (.int .i64 1)).run Tryd.prog W = .ok (.pointer b) W := fun _ _ _ => rfl
 go_enter Tryd.func13, Tryd.ntmps13
 go_wp2_with (first | ((with_reducible refine gate_dst (N := 2) rfl ?_); (try (refine gate_guard (by rfl) ?_; dsimp only)); refine box_event ?hg (N := 2) ?hd (cs := #[.int .i64 0, .int .i64 0, .int .i64 0]) (t := 23) ?hr ?_; (case hd => rfl); (case hg => rfl); (case hr => first | (go_simp; done) | (go_simp; rfl)); intro gr hgg w1 hbx hbb; have hgr : w.heap.size ≤ gr := Nat.le_of_eq hgg.symm; clear hgg; have HX := Aside0.mk hbx; have HB := Aside0.mk hbb; clear hbx hbb) | (go_at_call 29; (with_reducible refine (num_Words.calls k a0 l _ A1.out).mono ?_); rintro e w2 ⟨v2, rfl, ho, hb⟩; have HO := Aside0.mk (Kd.R_lower ho (below_size HB.out)); have HX := Aside0.mk (blk_below HX.out hb); have HB := Aside0.mk (below_step HB.out hb); clear ho hb) | ((with_reducible refine gate_dst (N := 5) rfl ?_); (try (refine gate_guard (by rfl) ?_; dsimp only)); refine box_event ?hg (N := 5) ?hd (cs := #[.int .i64 0, .int .i64 0, .int .i64 0]) (t := 23) ?hr ?_; (case hd => rfl); (case hg => rfl); (case hr => first | (go_simp; done) | (go_simp; rfl)); intro go hgg w3 hbx hbb; have hne : gr ≠ go := (by have := blk_lt HX.out; omega); have hgo : w.heap.size ≤ go := (by have := below_size HB.out; omega); clear hgg; have HX := Aside0.mk (blk_below HX.out hbb); have HO := Aside0.mk (Kd.R_below HO.out hbb); have HB := Aside0.mk (below_step HB.out hbb); have HY := Aside0.mk hbx; clear hbx hbb; skip) | ((with_reducible refine gate_dst (N := 14) rfl ?_); refine code_Parse.wp_load rfl 47 (.global 0) rfl ⟨0, 0, none⟩ rfl _ (code_Parse.load _ (Laid.below HLd.out HB.out)) ?_))
 obtain ⟨A2, c2, e2⟩ := Kd.R_slice HO.out; subst e2; obtain ⟨V, hV⟩ : ∃ V : Value, V = .agg code_Parse.arr := ⟨_, rfl⟩; have hix := code_Parse.at_ V hV; rw [← hV]; clear hV
 go_loopg [15] 26 (fun kq v15 w' => ∃ (x : Nat) (op : Int), v15 = .int .i64 (x : Int) ∧ Aside0 (kq + x = 26) ∧ Aside0 (OP = code_Parse.l0 l kq x op) ∧ Aside0 (w'.heap[gr]? = some (.cells #[.int .i64 0, .int .i64 0, .int .i64 0] 23 (0, 0))) ∧ Aside0 (w'.heap[go]? = some (.cells #[.int .i64 op, .int .i64 0, .int .i64 0] 23 (0, 0))) ∧ Aside0 (Kd.R Kd.string 9 w' w.heap.size (fun _ => True) (.slice A2 l.length c2) l) ∧ Aside0 (Below w.heap.size w w'))
 case atStart => exact ⟨0, 0, rfl, ⟨rfl⟩, HP, HX, HY, HO, HB⟩
 case round =>
  clear HP HX HY HO HB; obtain ⟨x, op, rfl, HK, HP, HX, HY, HO, HB⟩ := hrel
  cases gk with
  | succ k1 =>
   have hk : k1 + 1 + x = 26 := HK.out; have hx26 : x < 26 := by omega
   clear HK; have hc26 : decide ((x : Int) < 26) = true := decide_eq_true (by omega); have hixw := hix x hx26; have hP := HP.out; simp only [code_Parse.l0] at hP; clear HP; have hcy : wr.cell? ⟨go, 0, none⟩ = some (.int .i64 op) := (blk_cell HY.out 0).trans rfl; have hfy := blk_frozen HY.out 0
   by_cases d1 : 0 < x
   rotate_left
   ·rw [if_neg d1] at hP; have d1b : decide (0 < (x : Int)) = false := decide_eq_false (by omega); go_wp2
    go_roundg k1
    case measure => omega
    case rel => exact ⟨x + 1, _, by first | rfl | (rw [show wrap64 ((x : Int) + 1) = (x : Int) + 1 by unfold wrap64; omega]; rfl), ⟨by omega⟩, ⟨hP⟩, HX, HY, HO, HB⟩
   rw [if_pos d1] at hP; have d1b : decide (0 < (x : Int)) = true := decide_eq_true (by omega)
   by_cases d2 : 0 < (l.length : Int)
   rotate_left
   ·rw [if_neg d2] at hP; have d2b : decide (0 < (l.length : Int)) = false := decide_eq_false d2; have d2c : decide (0 < l.length) = false := decide_eq_false (by omega); go_wp2
    go_roundg k1
    case measure => omega
    case rel => exact ⟨x + 1, _, by first | rfl | (rw [show wrap64 ((x : Int) + 1) = (x : Int) + 1 by unfold wrap64; omega]; rfl), ⟨by omega⟩, ⟨hP⟩, HX, HY, HO, HB⟩
   rw [if_pos d2] at hP; have d2b : decide (0 < (l.length : Int)) = true := decide_eq_true d2; have d2c : decide (0 < l.length) = true := decide_eq_true (by omega); have d2d := eq_true d2; obtain ⟨ad, e0, hs0⟩ := Kd.at_string (Kd.R_reads' HO.out).2.2 0 (Int.le_refl 0) (by omega); subst e0; have hs0 : wr.cell? ad = some (.string (rdOf ByteArray.empty l 0)) := by have := hs0; simp only [Int.toNat_zero, Nat.zero_mul, Addr.add_zero'] at this; exact this
   by_cases d3 : (rdOf ByteArray.empty l 0).toList = (rdOf ByteArray.empty code_WORDS (x : Int)).toList
   rotate_left
   ·rw [if_neg d3] at hP; have d3b : ((rdOf ByteArray.empty l 0).toList == (rdOf ByteArray.empty code_WORDS (x : Int)).toList) = false := beq_eq_false_iff_ne.mpr d3; go_wp2
    go_roundg k1
    case measure => omega
    case rel => exact ⟨x + 1, _, by first | rfl | (rw [show wrap64 ((x : Int) + 1) = (x : Int) + 1 by unfold wrap64; omega]; rfl), ⟨by omega⟩, ⟨hP⟩, HX, HY, HO, HB⟩
   rw [if_pos d3] at hP; have d3b : ((rdOf ByteArray.empty l 0).toList == (rdOf ByteArray.empty code_WORDS (x : Int)).toList) = true := beq_iff_eq.mpr d3; go_wp2
   go_roundg k1
   case measure => omega
   case rel => exact ⟨x + 1, _, by first | rfl | (rw [show wrap64 ((x : Int) + 1) = (x : Int) + 1 by unfold wrap64; omega]; rfl), ⟨by omega⟩, ⟨hP⟩, ⟨blk_far HX.out (by intro e; exact hne e) _⟩, ⟨by simpa using blk_set HY.out 0 (.int .i64 (x : Int))⟩, ⟨Kd.R_mono (Kd.R_far (p := ⟨go, 0, none⟩) (Kd.R_types HO.out HY.out (by decide)) (fun _ hk => hk.2) _) (fun _ _ => trivial)⟩, ⟨below_set HB.out hgo⟩⟩
  | zero =>
   have hk : 0 + x = 26 := HK.out; have hP := HP.out; simp only [code_Parse.l0] at hP; obtain rfl : x = 26 := by omega
   subst hP; clear HK HP hk hix; have H := HH.out; clear HH; have hcy : wr.cell? ⟨go, 0, none⟩ = some (.int .i64 OP) := (blk_cell HY.out 0).trans rfl; have hz0 : wr.cell? ⟨gr, 0, none⟩ = some (.int .i64 0) := (blk_cell HX.out 0).trans rfl; have hz1 : wr.cell? ⟨gr, 1, none⟩ = some (.int .i64 0) := (blk_cell HX.out 1).trans rfl; have hz2 : wr.cell? ⟨gr, 2, none⟩ = some (.int .i64 0) := (blk_cell HX.out 2).trans rfl; have hfz0 := blk_frozen HX.out 0; have hfz1 := blk_frozen HX.out 1; have hfz2 := blk_frozen HX.out 2
   by_cases d1 : OP = 0
   ·rw [if_pos d1] at H; have d1b : (OP == 0) = true := beq_iff_eq.mpr d1; obtain ⟨rfl, rfl, rfl, rfl⟩ : (0 : Int) = r1 ∧ (0 : Int) = r2 ∧ (0 : Int) = r3 ∧ (61 : Int) = r4 := by injection H with H; injection H with h1_ h2_; injection h2_ with h2_ h3_; injection h3_ with h3_ h4_; exact ⟨h1_, h2_, h3_, h4_⟩
    clear H; go_wp2; refine code_Parse.ret rfl rfl ((((blk_set (blk_set (blk_set HX.out 0 (.int .i64 0)) 1 (.int .i64 0)) 2 (.int .i64 0))))) rfl rfl ?_; exact ⟨rfl, below_set (below_set (below_set HB.out hgr) hgr) hgr⟩
   rw [if_neg d1] at H; have d1b : (OP == 0) = false := beq_eq_false_iff_ne.mpr d1; replace H := Option.bind_eq_some_iff.mp H; obtain ⟨n, A20, H⟩ := H; have A2_ := Aside0.mk A20; clear A20
   by_cases d2 : (l.length : Int) = wrap64 (1 + n)
   rotate_left
   ·rw [if_neg d2] at H; have d2b : ((l.length : Int) != wrap64 (1 + n)) = true := bne_iff_ne.mpr d2; obtain ⟨rfl, rfl, rfl, rfl⟩ : (0 : Int) = r1 ∧ (0 : Int) = r2 ∧ (0 : Int) = r3 ∧ (61 : Int) = r4 := by injection H with H; injection H with h1_ h2_; injection h2_ with h2_ h3_; injection h3_ with h3_ h4_; exact ⟨h1_, h2_, h3_, h4_⟩
    clear H
    go_wp2_with (first | (go_at_call 24; (with_reducible refine (code_numbers.calls k OP n _ A2_.out).mono ?_); rintro e w4 ⟨rfl, hd⟩; have hb : Below wr.heap.size wr w4 := (by obtain ⟨nd, rfl⟩ := hd; exact pw_below_drewN (Below.refl _ _) nd); have HX := Aside0.mk (blk_below HX.out hb); have HY := Aside0.mk (blk_below HY.out hb); have HO := Aside0.mk (Kd.R_below HO.out hb); have HB := Aside0.mk (below_step HB.out hb); clear hb hd hcy; clear hz0 hz1 hz2 hfz0 hfz1 hfz2; have hz0 : w4.cell? ⟨gr, 0, none⟩ = some (.int .i64 0) := (blk_cell HX.out 0).trans rfl; have hz1 : w4.cell? ⟨gr, 1, none⟩ = some (.int .i64 0) := (blk_cell HX.out 1).trans rfl; have hz2 : w4.cell? ⟨gr, 2, none⟩ = some (.int .i64 0) := (blk_cell HX.out 2).trans rfl; have hfz0 := blk_frozen HX.out 0; have hfz1 := blk_frozen HX.out 1; have hfz2 := blk_frozen HX.out 2))
    refine code_Parse.ret rfl rfl ((((blk_set (blk_set (blk_set HX.out 0 (.int .i64 0)) 1 (.int .i64 0)) 2 (.int .i64 0))))) rfl rfl ?_; exact ⟨rfl, below_set (below_set (below_set HB.out hgr) hgr) hgr⟩
   rw [if_pos d2] at H; have d2b : ((l.length : Int) != wrap64 (1 + n)) = false := bne_eq_false_iff_eq.mpr d2; clear d2
   by_cases d3 : 1 < (l.length : Int)
   rotate_left
   ·rw [if_neg d3] at H; have d3b : decide (1 < (l.length : Int)) = false := decide_eq_false d3; have d4b : decide (2 < (l.length : Int)) = false := decide_eq_false (by omega); have d3c : decide (1 < l.length) = false := decide_eq_false (by omega); have d4c : decide (2 < l.length) = false := decide_eq_false (by omega); obtain ⟨rfl, rfl, rfl, rfl⟩ : OP = r1 ∧ (0 : Int) = r2 ∧ (0 : Int) = r3 ∧ (0 : Int) = r4 := by injection H with H; injection H with h1_ h2_; injection h2_ with h2_ h3_; injection h3_ with h3_ h4_; exact ⟨h1_, h2_, h3_, h4_⟩
    clear H
    go_wp2_with (first | (go_at_call 24; (with_reducible refine (code_numbers.calls k OP n _ A2_.out).mono ?_); rintro e w4 ⟨rfl, hd⟩; have hb : Below wr.heap.size wr w4 := (by obtain ⟨nd, rfl⟩ := hd; exact pw_below_drewN (Below.refl _ _) nd); have HX := Aside0.mk (blk_below HX.out hb); have HY := Aside0.mk (blk_below HY.out hb); have HO := Aside0.mk (Kd.R_below HO.out hb); have HB := Aside0.mk (below_step HB.out hb); clear hb hd hcy; clear hz0 hz1 hz2 hfz0 hfz1 hfz2; have hz0 : w4.cell? ⟨gr, 0, none⟩ = some (.int .i64 0) := (blk_cell HX.out 0).trans rfl; have hz1 : w4.cell? ⟨gr, 1, none⟩ = some (.int .i64 0) := (blk_cell HX.out 1).trans rfl; have hz2 : w4.cell? ⟨gr, 2, none⟩ = some (.int .i64 0) := (blk_cell HX.out 2).trans rfl; have hfz0 := blk_frozen HX.out 0; have hfz1 := blk_frozen HX.out 1; have hfz2 := blk_frozen HX.out 2))
    clear hz0 hz1 hz2 hfz0 hfz1 hfz2
    go_loopg [52] 2 (fun kq v52 w' => ∃ (x : Nat) (N M : Int), v52 = .int .i64 (x : Int) ∧ Aside0 (kq + x = 2) ∧ Aside0 (x ≤ 2) ∧ Aside0 (N = match x with | 0 => 0 | _ => 0) ∧ Aside0 (M = match x with | 0 => 0 | 1 => 0 | _ => 0) ∧ Aside0 (w'.heap[gr]? = some (.cells #[.int .i64 0, .int .i64 0, .int .i64 0] 23 (0, 0))) ∧ Aside0 (w'.heap[go]? = some (.cells #[.int .i64 OP, .int .i64 N, .int .i64 M] 23 (0, 0))) ∧ Aside0 (Kd.R Kd.string 9 w' w.heap.size (fun _ => True) (.slice A2 l.length c2) l) ∧ Aside0 (Below w.heap.size w w'))
    case atStart => exact ⟨0, 0, 0, rfl, ⟨rfl⟩, ⟨Nat.zero_le _⟩, ⟨rfl⟩, ⟨rfl⟩, HX, HY, HO, HB⟩
    case round =>
     clear HX HY HO HB; obtain ⟨x, N, M, rfl, HK, HLm, HN, HM, HX, HY, HO, HB⟩ := hrel; have hx : x = 0 ∨ x = 1 ∨ x = 2 := by have := HK.out; omega
     rcases hx with rfl | rfl | rfl
     ·skip
      have hN := HN.out; have hM := HM.out; simp only at hN hM; subst N; subst M
      cases gk with
      | zero => exact absurd HK.out (by omega)
      | succ k1 =>
       have hk1 : k1 + 1 = 2 := by have := HK.out; omega
       clear HN HM HK; go_wp2
       go_roundg k1
       case measure => omega
       case rel => exact ⟨1, _, _, by simp, ⟨hk1⟩, ⟨by omega⟩, ⟨rfl⟩, ⟨rfl⟩, HX, HY, HO, HB⟩
     ·skip
      have hN := HN.out; have hM := HM.out; simp only at hN hM; subst N; subst M
      cases gk with
      | zero => exact absurd HK.out (by omega)
      | succ k1 =>
       have hk1 : k1 + 2 = 2 := by have := HK.out; omega
       clear HN HM HK; go_wp2
       go_roundg k1
       case measure => omega
       case rel => exact ⟨2, _, _, by simp, ⟨hk1⟩, ⟨by omega⟩, ⟨rfl⟩, ⟨rfl⟩, HX, HY, HO, HB⟩
     ·skip
      have hN := HN.out; have hM := HM.out; simp only at hN hM; subst N; subst M; clear HN HM HK; have hz0 : wr.cell? ⟨gr, 0, none⟩ = some (.int .i64 0) := (blk_cell HX.out 0).trans rfl; have hz1 : wr.cell? ⟨gr, 1, none⟩ = some (.int .i64 0) := (blk_cell HX.out 1).trans rfl; have hz2 : wr.cell? ⟨gr, 2, none⟩ = some (.int .i64 0) := (blk_cell HX.out 2).trans rfl; have hfz0 := blk_frozen HX.out 0; have hfz1 := blk_frozen HX.out 1; have hfz2 := blk_frozen HX.out 2; have hcy0 : wr.cell? ⟨go, 0, none⟩ = some (.int .i64 OP) := (blk_cell HY.out 0).trans rfl; have hcy1 : wr.cell? ⟨go, 1, none⟩ = some (.int .i64 0) := (blk_cell HY.out 1).trans rfl; have hcy2 : wr.cell? ⟨go, 2, none⟩ = some (.int .i64 0) := (blk_cell HY.out 2).trans rfl; have hfy0 := blk_frozen HY.out 0; have hfy1 := blk_frozen HY.out 1; have hfy2 := blk_frozen HY.out 2; go_wp2; refine code_Parse.ret rfl rfl ((((blk_set (blk_set (blk_set HX.out 0 (.int .i64 OP)) 1 (.int .i64 0)) 2 (.int .i64 0))))) rfl rfl ?_; exact ⟨rfl, below_set (below_set (below_set HB.out hgr) hgr) hgr⟩
   rw [if_pos d3] at H; have d3b : decide (1 < (l.length : Int)) = true := decide_eq_true d3; have d3c : decide (1 < l.length) = true := decide_eq_true (by omega); have d3d := eq_true d3; replace H := Option.bind_eq_some_iff.mp H; obtain ⟨⟨n1, f1⟩, A30, H⟩ := H; have AP := Aside0.mk A30; clear A30; simp only at H
   by_cases d5 : f1 = 0
   rotate_left
   ·rw [if_neg d5] at H; have d5b : (f1 != 0) = true := bne_iff_ne.mpr d5; obtain ⟨rfl, rfl, rfl, rfl⟩ : (0 : Int) = r1 ∧ (0 : Int) = r2 ∧ (0 : Int) = r3 ∧ (61 : Int) = r4 := by injection H with H; injection H with h1_ h2_; injection h2_ with h2_ h3_; injection h3_ with h3_ h4_; exact ⟨h1_, h2_, h3_, h4_⟩
    clear H
    go_wp2_with (first | (go_at_call 24; (with_reducible refine (code_numbers.calls k OP n _ A2_.out).mono ?_); rintro e w4 ⟨rfl, hd⟩; have hb : Below wr.heap.size wr w4 := (by obtain ⟨nd, rfl⟩ := hd; exact pw_below_drewN (Below.refl _ _) nd); have HX := Aside0.mk (blk_below HX.out hb); have HY := Aside0.mk (blk_below HY.out hb); have HO := Aside0.mk (Kd.R_below HO.out hb); have HB := Aside0.mk (below_step HB.out hb); clear hb hd hcy; clear hz0 hz1 hz2 hfz0 hfz1 hfz2; have hz0 : w4.cell? ⟨gr, 0, none⟩ = some (.int .i64 0) := (blk_cell HX.out 0).trans rfl; have hz1 : w4.cell? ⟨gr, 1, none⟩ = some (.int .i64 0) := (blk_cell HX.out 1).trans rfl; have hz2 : w4.cell? ⟨gr, 2, none⟩ = some (.int .i64 0) := (blk_cell HX.out 2).trans rfl; have hfz0 := blk_frozen HX.out 0; have hfz1 := blk_frozen HX.out 1; have hfz2 := blk_frozen HX.out 2))
    clear hz0 hz1 hz2 hfz0 hfz1 hfz2
    go_loopg [52] 2 (fun kq v52 w' => ∃ (x : Nat) (N M : Int), v52 = .int .i64 (x : Int) ∧ Aside0 (kq + x = 2) ∧ Aside0 (x ≤ 0) ∧ Aside0 (N = match x with | 0 => 0 | _ => 0) ∧ Aside0 (M = match x with | 0 => 0 | 1 => 0 | _ => 0) ∧ Aside0 (w'.heap[gr]? = some (.cells #[.int .i64 0, .int .i64 0, .int .i64 0] 23 (0, 0))) ∧ Aside0 (w'.heap[go]? = some (.cells #[.int .i64 OP, .int .i64 N, .int .i64 M] 23 (0, 0))) ∧ Aside0 (Kd.R Kd.string 9 w' w.heap.size (fun _ => True) (.slice A2 l.length c2) l) ∧ Aside0 (Below w.heap.size w w'))
    case atStart => exact ⟨0, 0, 0, rfl, ⟨rfl⟩, ⟨Nat.zero_le _⟩, ⟨rfl⟩, ⟨rfl⟩, HX, HY, HO, HB⟩
    case round =>
     clear HX HY HO HB; obtain ⟨x, N, M, rfl, HK, HLm, HN, HM, HX, HY, HO, HB⟩ := hrel; have hx : x = 0 ∨ x = 1 ∨ x = 2 := by have := HK.out; omega
     rcases hx with rfl | rfl | rfl
     ·skip
      have hN := HN.out; have hM := HM.out; simp only at hN hM; subst N; subst M
      cases gk with
      | zero => exact absurd HK.out (by omega)
      | succ k1 =>
       have hk1 : k1 + 1 = 2 := by have := HK.out; omega
       clear HN HM HK; obtain ⟨ad, e0, hs⟩ := Kd.at_string (Kd.R_reads' HO.out).2.2 1 (by decide) (by omega); subst e0; have hs : wr.cell? ⟨ad.block, ad.off + 1, none⟩ = some (.string (rdOf ByteArray.empty l 1)) := by have h_ := hs; simpa [Addr.add] using h_
       go_wp2_with (first | (go_at_call 30; (with_reducible refine (num_Parse.calls k (rdOf ByteArray.empty l 1) _ _ _ AP.out).mono ?_); rintro e w5 ⟨rfl, hd⟩; have hb : Below wr.heap.size wr w5 := (by obtain ⟨nd, rfl⟩ := hd; exact pw_below_drewN (Below.refl _ _) nd); have HX := Aside0.mk (blk_below HX.out hb); have HY := Aside0.mk (blk_below HY.out hb); have HO := Aside0.mk (Kd.R_below HO.out hb); have HB := Aside0.mk (below_step HB.out hb); clear hb hd hs; have hz0 : w5.cell? ⟨gr, 0, none⟩ = some (.int .i64 0) := (blk_cell HX.out 0).trans rfl; have hz1 : w5.cell? ⟨gr, 1, none⟩ = some (.int .i64 0) := (blk_cell HX.out 1).trans rfl; have hz2 : w5.cell? ⟨gr, 2, none⟩ = some (.int .i64 0) := (blk_cell HX.out 2).trans rfl; have hfz0 := blk_frozen HX.out 0; have hfz1 := blk_frozen HX.out 1; have hfz2 := blk_frozen HX.out 2))
       refine code_Parse.ret rfl rfl ((((blk_set (blk_set (blk_set HX.out 0 (.int .i64 0)) 1 (.int .i64 0)) 2 (.int .i64 0))))) rfl rfl ?_; exact ⟨rfl, below_set (below_set (below_set HB.out hgr) hgr) hgr⟩
     ·skip
      exact absurd HLm.out (by omega)
     ·exact absurd HLm.out (by omega)
   rw [if_pos d5] at H; have d5b : (f1 != 0) = false := bne_eq_false_iff_eq.mpr d5; subst d5
   by_cases d4 : 2 < (l.length : Int)
   rotate_left
   ·rw [if_neg d4] at H; have d4b : decide (2 < (l.length : Int)) = false := decide_eq_false d4; have d4c : decide (2 < l.length) = false := decide_eq_false (by omega); obtain ⟨rfl, rfl, rfl, rfl⟩ : OP = r1 ∧ n1 = r2 ∧ (0 : Int) = r3 ∧ (0 : Int) = r4 := by injection H with H; injection H with h1_ h2_; injection h2_ with h2_ h3_; injection h3_ with h3_ h4_; exact ⟨h1_, h2_, h3_, h4_⟩
    clear H
    go_wp2_with (first | (go_at_call 24; (with_reducible refine (code_numbers.calls k OP n _ A2_.out).mono ?_); rintro e w4 ⟨rfl, hd⟩; have hb : Below wr.heap.size wr w4 := (by obtain ⟨nd, rfl⟩ := hd; exact pw_below_drewN (Below.refl _ _) nd); have HX := Aside0.mk (blk_below HX.out hb); have HY := Aside0.mk (blk_below HY.out hb); have HO := Aside0.mk (Kd.R_below HO.out hb); have HB := Aside0.mk (below_step HB.out hb); clear hb hd hcy; clear hz0 hz1 hz2 hfz0 hfz1 hfz2; have hz0 : w4.cell? ⟨gr, 0, none⟩ = some (.int .i64 0) := (blk_cell HX.out 0).trans rfl; have hz1 : w4.cell? ⟨gr, 1, none⟩ = some (.int .i64 0) := (blk_cell HX.out 1).trans rfl; have hz2 : w4.cell? ⟨gr, 2, none⟩ = some (.int .i64 0) := (blk_cell HX.out 2).trans rfl; have hfz0 := blk_frozen HX.out 0; have hfz1 := blk_frozen HX.out 1; have hfz2 := blk_frozen HX.out 2))
    clear hz0 hz1 hz2 hfz0 hfz1 hfz2
    go_loopg [52] 2 (fun kq v52 w' => ∃ (x : Nat) (N M : Int), v52 = .int .i64 (x : Int) ∧ Aside0 (kq + x = 2) ∧ Aside0 (x ≤ 2) ∧ Aside0 (N = match x with | 0 => 0 | _ => n1) ∧ Aside0 (M = match x with | 0 => 0 | 1 => 0 | _ => 0) ∧ Aside0 (w'.heap[gr]? = some (.cells #[.int .i64 0, .int .i64 0, .int .i64 0] 23 (0, 0))) ∧ Aside0 (w'.heap[go]? = some (.cells #[.int .i64 OP, .int .i64 N, .int .i64 M] 23 (0, 0))) ∧ Aside0 (Kd.R Kd.string 9 w' w.heap.size (fun _ => True) (.slice A2 l.length c2) l) ∧ Aside0 (Below w.heap.size w w'))
    case atStart => exact ⟨0, 0, 0, rfl, ⟨rfl⟩, ⟨Nat.zero_le _⟩, ⟨rfl⟩, ⟨rfl⟩, HX, HY, HO, HB⟩
    case round =>
     clear HX HY HO HB; obtain ⟨x, N, M, rfl, HK, HLm, HN, HM, HX, HY, HO, HB⟩ := hrel; have hx : x = 0 ∨ x = 1 ∨ x = 2 := by have := HK.out; omega
     rcases hx with rfl | rfl | rfl
     ·skip
      have hN := HN.out; have hM := HM.out; simp only at hN hM; subst N; subst M
      cases gk with
      | zero => exact absurd HK.out (by omega)
      | succ k1 =>
       have hk1 : k1 + 1 = 2 := by have := HK.out; omega
       clear HN HM HK; obtain ⟨ad, e0, hs⟩ := Kd.at_string (Kd.R_reads' HO.out).2.2 1 (by decide) (by omega); subst e0; have hs : wr.cell? ⟨ad.block, ad.off + 1, none⟩ = some (.string (rdOf ByteArray.empty l 1)) := by have h_ := hs; simpa [Addr.add] using h_
       go_wp2_with (first | (go_at_call 30; (with_reducible refine (num_Parse.calls k (rdOf ByteArray.empty l 1) _ _ _ AP.out).mono ?_); rintro e w5 ⟨rfl, hd⟩; have hb : Below wr.heap.size wr w5 := (by obtain ⟨nd, rfl⟩ := hd; exact pw_below_drewN (Below.refl _ _) nd); have HX := Aside0.mk (blk_below HX.out hb); have HY := Aside0.mk (blk_below HY.out hb); have HO := Aside0.mk (Kd.R_below HO.out hb); have HB := Aside0.mk (below_step HB.out hb); clear hb hd hs; have hcy0 : w5.cell? ⟨go, 0, none⟩ = some (.int .i64 OP) := (blk_cell HY.out 0).trans rfl; have hcy1 : w5.cell? ⟨go, 1, none⟩ = some (.int .i64 0) := (blk_cell HY.out 1).trans rfl; have hcy2 : w5.cell? ⟨go, 2, none⟩ = some (.int .i64 0) := (blk_cell HY.out 2).trans rfl; have hfy0 := blk_frozen HY.out 0; have hfy1 := blk_frozen HY.out 1; have hfy2 := blk_frozen HY.out 2))
       go_roundg k1
       case measure => omega
       case rel => exact ⟨1, _, _, by simp, ⟨hk1⟩, ⟨by omega⟩, ⟨rfl⟩, ⟨rfl⟩, ⟨blk_far HX.out (fun e => hne e) _⟩, ⟨by simpa using blk_set HY.out 1 (.int .i64 n1)⟩, ⟨Kd.R_mono (Kd.R_far (p := ⟨go, 1, none⟩) (Kd.R_types HO.out HY.out (by decide)) (fun _ hk => hk.2) _) (fun _ _ => trivial)⟩, ⟨below_set HB.out hgo⟩⟩
     ·skip
      have hN := HN.out; have hM := HM.out; simp only at hN hM; subst N; subst M
      cases gk with
      | zero => exact absurd HK.out (by omega)
      | succ k1 =>
       have hk1 : k1 + 2 = 2 := by have := HK.out; omega
       clear HN HM HK; go_wp2
       go_roundg k1
       case measure => omega
       case rel => exact ⟨2, _, _, by simp, ⟨hk1⟩, ⟨by omega⟩, ⟨rfl⟩, ⟨rfl⟩, HX, HY, HO, HB⟩
     ·skip
      have hN := HN.out; have hM := HM.out; simp only at hN hM; subst N; subst M; clear HN HM HK; have hz0 : wr.cell? ⟨gr, 0, none⟩ = some (.int .i64 0) := (blk_cell HX.out 0).trans rfl; have hz1 : wr.cell? ⟨gr, 1, none⟩ = some (.int .i64 0) := (blk_cell HX.out 1).trans rfl; have hz2 : wr.cell? ⟨gr, 2, none⟩ = some (.int .i64 0) := (blk_cell HX.out 2).trans rfl; have hfz0 := blk_frozen HX.out 0; have hfz1 := blk_frozen HX.out 1; have hfz2 := blk_frozen HX.out 2; have hcy0 : wr.cell? ⟨go, 0, none⟩ = some (.int .i64 OP) := (blk_cell HY.out 0).trans rfl; have hcy1 : wr.cell? ⟨go, 1, none⟩ = some (.int .i64 n1) := (blk_cell HY.out 1).trans rfl; have hcy2 : wr.cell? ⟨go, 2, none⟩ = some (.int .i64 0) := (blk_cell HY.out 2).trans rfl; have hfy0 := blk_frozen HY.out 0; have hfy1 := blk_frozen HY.out 1; have hfy2 := blk_frozen HY.out 2; go_wp2; refine code_Parse.ret rfl rfl ((((blk_set (blk_set (blk_set HX.out 0 (.int .i64 OP)) 1 (.int .i64 n1)) 2 (.int .i64 0))))) rfl rfl ?_; exact ⟨rfl, below_set (below_set (below_set HB.out hgr) hgr) hgr⟩
   rw [if_pos d4] at H; have d4b : decide (2 < (l.length : Int)) = true := decide_eq_true d4; have d4c : decide (2 < l.length) = true := decide_eq_true (by omega); have d4d := eq_true d4; replace H := Option.bind_eq_some_iff.mp H; obtain ⟨⟨n2, f2⟩, A40, H⟩ := H; have AQ := Aside0.mk A40; clear A40; simp only at H
   by_cases d6 : f2 = 0
   rotate_left
   ·rw [if_neg d6] at H; have d6b : (f2 != 0) = true := bne_iff_ne.mpr d6; obtain ⟨rfl, rfl, rfl, rfl⟩ : (0 : Int) = r1 ∧ (0 : Int) = r2 ∧ (0 : Int) = r3 ∧ (61 : Int) = r4 := by injection H with H; injection H with h1_ h2_; injection h2_ with h2_ h3_; injection h3_ with h3_ h4_; exact ⟨h1_, h2_, h3_, h4_⟩
    clear H
    go_wp2_with (first | (go_at_call 24; (with_reducible refine (code_numbers.calls k OP n _ A2_.out).mono ?_); rintro e w4 ⟨rfl, hd⟩; have hb : Below wr.heap.size wr w4 := (by obtain ⟨nd, rfl⟩ := hd; exact pw_below_drewN (Below.refl _ _) nd); have HX := Aside0.mk (blk_below HX.out hb); have HY := Aside0.mk (blk_below HY.out hb); have HO := Aside0.mk (Kd.R_below HO.out hb); have HB := Aside0.mk (below_step HB.out hb); clear hb hd hcy; clear hz0 hz1 hz2 hfz0 hfz1 hfz2; have hz0 : w4.cell? ⟨gr, 0, none⟩ = some (.int .i64 0) := (blk_cell HX.out 0).trans rfl; have hz1 : w4.cell? ⟨gr, 1, none⟩ = some (.int .i64 0) := (blk_cell HX.out 1).trans rfl; have hz2 : w4.cell? ⟨gr, 2, none⟩ = some (.int .i64 0) := (blk_cell HX.out 2).trans rfl; have hfz0 := blk_frozen HX.out 0; have hfz1 := blk_frozen HX.out 1; have hfz2 := blk_frozen HX.out 2))
    clear hz0 hz1 hz2 hfz0 hfz1 hfz2
    go_loopg [52] 2 (fun kq v52 w' => ∃ (x : Nat) (N M : Int), v52 = .int .i64 (x : Int) ∧ Aside0 (kq + x = 2) ∧ Aside0 (x ≤ 1) ∧ Aside0 (N = match x with | 0 => 0 | _ => n1) ∧ Aside0 (M = match x with | 0 => 0 | 1 => 0 | _ => 0) ∧ Aside0 (w'.heap[gr]? = some (.cells #[.int .i64 0, .int .i64 0, .int .i64 0] 23 (0, 0))) ∧ Aside0 (w'.heap[go]? = some (.cells #[.int .i64 OP, .int .i64 N, .int .i64 M] 23 (0, 0))) ∧ Aside0 (Kd.R Kd.string 9 w' w.heap.size (fun _ => True) (.slice A2 l.length c2) l) ∧ Aside0 (Below w.heap.size w w'))
    case atStart => exact ⟨0, 0, 0, rfl, ⟨rfl⟩, ⟨Nat.zero_le _⟩, ⟨rfl⟩, ⟨rfl⟩, HX, HY, HO, HB⟩
    case round =>
     clear HX HY HO HB; obtain ⟨x, N, M, rfl, HK, HLm, HN, HM, HX, HY, HO, HB⟩ := hrel; have hx : x = 0 ∨ x = 1 ∨ x = 2 := by have := HK.out; omega
     rcases hx with rfl | rfl | rfl
     ·skip
      have hN := HN.out; have hM := HM.out; simp only at hN hM; subst N; subst M
      cases gk with
      | zero => exact absurd HK.out (by omega)
      | succ k1 =>
       have hk1 : k1 + 1 = 2 := by have := HK.out; omega
       clear HN HM HK; obtain ⟨ad, e0, hs⟩ := Kd.at_string (Kd.R_reads' HO.out).2.2 1 (by decide) (by omega); subst e0; have hs : wr.cell? ⟨ad.block, ad.off + 1, none⟩ = some (.string (rdOf ByteArray.empty l 1)) := by have h_ := hs; simpa [Addr.add] using h_
       go_wp2_with (first | (go_at_call 30; (with_reducible refine (num_Parse.calls k (rdOf ByteArray.empty l 1) _ _ _ AP.out).mono ?_); rintro e w5 ⟨rfl, hd⟩; have hb : Below wr.heap.size wr w5 := (by obtain ⟨nd, rfl⟩ := hd; exact pw_below_drewN (Below.refl _ _) nd); have HX := Aside0.mk (blk_below HX.out hb); have HY := Aside0.mk (blk_below HY.out hb); have HO := Aside0.mk (Kd.R_below HO.out hb); have HB := Aside0.mk (below_step HB.out hb); clear hb hd hs; have hcy0 : w5.cell? ⟨go, 0, none⟩ = some (.int .i64 OP) := (blk_cell HY.out 0).trans rfl; have hcy1 : w5.cell? ⟨go, 1, none⟩ = some (.int .i64 0) := (blk_cell HY.out 1).trans rfl; have hcy2 : w5.cell? ⟨go, 2, none⟩ = some (.int .i64 0) := (blk_cell HY.out 2).trans rfl; have hfy0 := blk_frozen HY.out 0; have hfy1 := blk_frozen HY.out 1; have hfy2 := blk_frozen HY.out 2))
       go_roundg k1
       case measure => omega
       case rel => exact ⟨1, _, _, by simp, ⟨hk1⟩, ⟨by omega⟩, ⟨rfl⟩, ⟨rfl⟩, ⟨blk_far HX.out (fun e => hne e) _⟩, ⟨by simpa using blk_set HY.out 1 (.int .i64 n1)⟩, ⟨Kd.R_mono (Kd.R_far (p := ⟨go, 1, none⟩) (Kd.R_types HO.out HY.out (by decide)) (fun _ hk => hk.2) _) (fun _ _ => trivial)⟩, ⟨below_set HB.out hgo⟩⟩
     ·skip
      have hN := HN.out; have hM := HM.out; simp only at hN hM; subst N; subst M
      cases gk with
      | zero => exact absurd HK.out (by omega)
      | succ k1 =>
       have hk1 : k1 + 2 = 2 := by have := HK.out; omega
       clear HN HM HK; obtain ⟨ad, e0, hs⟩ := Kd.at_string (Kd.R_reads' HO.out).2.2 2 (by decide) (by omega); subst e0; have hs : wr.cell? ⟨ad.block, ad.off + 2, none⟩ = some (.string (rdOf ByteArray.empty l 2)) := by have h_ := hs; simpa [Addr.add] using h_
       go_wp2_with (first | (go_at_call 30; (with_reducible refine (num_Parse.calls k (rdOf ByteArray.empty l 2) _ _ _ AQ.out).mono ?_); rintro e w5 ⟨rfl, hd⟩; have hb : Below wr.heap.size wr w5 := (by obtain ⟨nd, rfl⟩ := hd; exact pw_below_drewN (Below.refl _ _) nd); have HX := Aside0.mk (blk_below HX.out hb); have HY := Aside0.mk (blk_below HY.out hb); have HO := Aside0.mk (Kd.R_below HO.out hb); have HB := Aside0.mk (below_step HB.out hb); clear hb hd hs; have hz0 : w5.cell? ⟨gr, 0, none⟩ = some (.int .i64 0) := (blk_cell HX.out 0).trans rfl; have hz1 : w5.cell? ⟨gr, 1, none⟩ = some (.int .i64 0) := (blk_cell HX.out 1).trans rfl; have hz2 : w5.cell? ⟨gr, 2, none⟩ = some (.int .i64 0) := (blk_cell HX.out 2).trans rfl; have hfz0 := blk_frozen HX.out 0; have hfz1 := blk_frozen HX.out 1; have hfz2 := blk_frozen HX.out 2))
       refine code_Parse.ret rfl rfl ((((blk_set (blk_set (blk_set HX.out 0 (.int .i64 0)) 1 (.int .i64 0)) 2 (.int .i64 0))))) rfl rfl ?_; exact ⟨rfl, below_set (below_set (below_set HB.out hgr) hgr) hgr⟩
     ·exact absurd HLm.out (by omega)
   rw [if_pos d6] at H; have d6b : (f2 != 0) = false := bne_eq_false_iff_eq.mpr d6; subst d6; obtain ⟨rfl, rfl, rfl, rfl⟩ : OP = r1 ∧ n1 = r2 ∧ n2 = r3 ∧ (0 : Int) = r4 := by injection H with H; injection H with h1_ h2_; injection h2_ with h2_ h3_; injection h3_ with h3_ h4_; exact ⟨h1_, h2_, h3_, h4_⟩
   clear H
   go_wp2_with (first | (go_at_call 24; (with_reducible refine (code_numbers.calls k OP n _ A2_.out).mono ?_); rintro e w4 ⟨rfl, hd⟩; have hb : Below wr.heap.size wr w4 := (by obtain ⟨nd, rfl⟩ := hd; exact pw_below_drewN (Below.refl _ _) nd); have HX := Aside0.mk (blk_below HX.out hb); have HY := Aside0.mk (blk_below HY.out hb); have HO := Aside0.mk (Kd.R_below HO.out hb); have HB := Aside0.mk (below_step HB.out hb); clear hb hd hcy; clear hz0 hz1 hz2 hfz0 hfz1 hfz2; have hz0 : w4.cell? ⟨gr, 0, none⟩ = some (.int .i64 0) := (blk_cell HX.out 0).trans rfl; have hz1 : w4.cell? ⟨gr, 1, none⟩ = some (.int .i64 0) := (blk_cell HX.out 1).trans rfl; have hz2 : w4.cell? ⟨gr, 2, none⟩ = some (.int .i64 0) := (blk_cell HX.out 2).trans rfl; have hfz0 := blk_frozen HX.out 0; have hfz1 := blk_frozen HX.out 1; have hfz2 := blk_frozen HX.out 2))
   clear hz0 hz1 hz2 hfz0 hfz1 hfz2
   go_loopg [52] 2 (fun kq v52 w' => ∃ (x : Nat) (N M : Int), v52 = .int .i64 (x : Int) ∧ Aside0 (kq + x = 2) ∧ Aside0 (x ≤ 2) ∧ Aside0 (N = match x with | 0 => 0 | _ => n1) ∧ Aside0 (M = match x with | 0 => 0 | 1 => 0 | _ => n2) ∧ Aside0 (w'.heap[gr]? = some (.cells #[.int .i64 0, .int .i64 0, .int .i64 0] 23 (0, 0))) ∧ Aside0 (w'.heap[go]? = some (.cells #[.int .i64 OP, .int .i64 N, .int .i64 M] 23 (0, 0))) ∧ Aside0 (Kd.R Kd.string 9 w' w.heap.size (fun _ => True) (.slice A2 l.length c2) l) ∧ Aside0 (Below w.heap.size w w'))
   case atStart => exact ⟨0, 0, 0, rfl, ⟨rfl⟩, ⟨Nat.zero_le _⟩, ⟨rfl⟩, ⟨rfl⟩, HX, HY, HO, HB⟩
   case round =>
    clear HX HY HO HB; obtain ⟨x, N, M, rfl, HK, HLm, HN, HM, HX, HY, HO, HB⟩ := hrel; have hx : x = 0 ∨ x = 1 ∨ x = 2 := by have := HK.out; omega
    rcases hx with rfl | rfl | rfl
    ·skip
     have hN := HN.out; have hM := HM.out; simp only at hN hM; subst N; subst M
     cases gk with
     | zero => exact absurd HK.out (by omega)
     | succ k1 =>
      have hk1 : k1 + 1 = 2 := by have := HK.out; omega
      clear HN HM HK; obtain ⟨ad, e0, hs⟩ := Kd.at_string (Kd.R_reads' HO.out).2.2 1 (by decide) (by omega); subst e0; have hs : wr.cell? ⟨ad.block, ad.off + 1, none⟩ = some (.string (rdOf ByteArray.empty l 1)) := by have h_ := hs; simpa [Addr.add] using h_
      go_wp2_with (first | (go_at_call 30; (with_reducible refine (num_Parse.calls k (rdOf ByteArray.empty l 1) _ _ _ AP.out).mono ?_); rintro e w5 ⟨rfl, hd⟩; have hb : Below wr.heap.size wr w5 := (by obtain ⟨nd, rfl⟩ := hd; exact pw_below_drewN (Below.refl _ _) nd); have HX := Aside0.mk (blk_below HX.out hb); have HY := Aside0.mk (blk_below HY.out hb); have HO := Aside0.mk (Kd.R_below HO.out hb); have HB := Aside0.mk (below_step HB.out hb); clear hb hd hs; have hcy0 : w5.cell? ⟨go, 0, none⟩ = some (.int .i64 OP) := (blk_cell HY.out 0).trans rfl; have hcy1 : w5.cell? ⟨go, 1, none⟩ = some (.int .i64 0) := (blk_cell HY.out 1).trans rfl; have hcy2 : w5.cell? ⟨go, 2, none⟩ = some (.int .i64 0) := (blk_cell HY.out 2).trans rfl; have hfy0 := blk_frozen HY.out 0; have hfy1 := blk_frozen HY.out 1; have hfy2 := blk_frozen HY.out 2))
      go_roundg k1
      case measure => omega
      case rel => exact ⟨1, _, _, by simp, ⟨hk1⟩, ⟨by omega⟩, ⟨rfl⟩, ⟨rfl⟩, ⟨blk_far HX.out (fun e => hne e) _⟩, ⟨by simpa using blk_set HY.out 1 (.int .i64 n1)⟩, ⟨Kd.R_mono (Kd.R_far (p := ⟨go, 1, none⟩) (Kd.R_types HO.out HY.out (by decide)) (fun _ hk => hk.2) _) (fun _ _ => trivial)⟩, ⟨below_set HB.out hgo⟩⟩
    ·skip
     have hN := HN.out; have hM := HM.out; simp only at hN hM; subst N; subst M
     cases gk with
     | zero => exact absurd HK.out (by omega)
     | succ k1 =>
      have hk1 : k1 + 2 = 2 := by have := HK.out; omega
      clear HN HM HK; obtain ⟨ad, e0, hs⟩ := Kd.at_string (Kd.R_reads' HO.out).2.2 2 (by decide) (by omega); subst e0; have hs : wr.cell? ⟨ad.block, ad.off + 2, none⟩ = some (.string (rdOf ByteArray.empty l 2)) := by have h_ := hs; simpa [Addr.add] using h_
      go_wp2_with (first | (go_at_call 30; (with_reducible refine (num_Parse.calls k (rdOf ByteArray.empty l 2) _ _ _ AQ.out).mono ?_); rintro e w5 ⟨rfl, hd⟩; have hb : Below wr.heap.size wr w5 := (by obtain ⟨nd, rfl⟩ := hd; exact pw_below_drewN (Below.refl _ _) nd); have HX := Aside0.mk (blk_below HX.out hb); have HY := Aside0.mk (blk_below HY.out hb); have HO := Aside0.mk (Kd.R_below HO.out hb); have HB := Aside0.mk (below_step HB.out hb); clear hb hd hs; have hcy0 : w5.cell? ⟨go, 0, none⟩ = some (.int .i64 OP) := (blk_cell HY.out 0).trans rfl; have hcy1 : w5.cell? ⟨go, 1, none⟩ = some (.int .i64 n1) := (blk_cell HY.out 1).trans rfl; have hcy2 : w5.cell? ⟨go, 2, none⟩ = some (.int .i64 0) := (blk_cell HY.out 2).trans rfl; have hfy0 := blk_frozen HY.out 0; have hfy1 := blk_frozen HY.out 1; have hfy2 := blk_frozen HY.out 2))
      go_roundg k1
      case measure => omega
      case rel => exact ⟨2, _, _, by simp, ⟨hk1⟩, ⟨by omega⟩, ⟨rfl⟩, ⟨rfl⟩, ⟨blk_far HX.out (fun e => hne e) _⟩, ⟨by simpa using blk_set HY.out 2 (.int .i64 n2)⟩, ⟨Kd.R_mono (Kd.R_far (p := ⟨go, 2, none⟩) (Kd.R_types HO.out HY.out (by decide)) (fun _ hk => hk.2) _) (fun _ _ => trivial)⟩, ⟨below_set HB.out hgo⟩⟩
    ·skip
     have hN := HN.out; have hM := HM.out; simp only at hN hM; subst N; subst M; clear HN HM HK; have hz0 : wr.cell? ⟨gr, 0, none⟩ = some (.int .i64 0) := (blk_cell HX.out 0).trans rfl; have hz1 : wr.cell? ⟨gr, 1, none⟩ = some (.int .i64 0) := (blk_cell HX.out 1).trans rfl; have hz2 : wr.cell? ⟨gr, 2, none⟩ = some (.int .i64 0) := (blk_cell HX.out 2).trans rfl; have hfz0 := blk_frozen HX.out 0; have hfz1 := blk_frozen HX.out 1; have hfz2 := blk_frozen HX.out 2; have hcy0 : wr.cell? ⟨go, 0, none⟩ = some (.int .i64 OP) := (blk_cell HY.out 0).trans rfl; have hcy1 : wr.cell? ⟨go, 1, none⟩ = some (.int .i64 n1) := (blk_cell HY.out 1).trans rfl; have hcy2 : wr.cell? ⟨go, 2, none⟩ = some (.int .i64 n2) := (blk_cell HY.out 2).trans rfl; have hfy0 := blk_frozen HY.out 0; have hfy1 := blk_frozen HY.out 1; have hfy2 := blk_frozen HY.out 2; go_wp2; refine code_Parse.ret rfl rfl ((((blk_set (blk_set (blk_set HX.out 0 (.int .i64 OP)) 1 (.int .i64 n1)) 2 (.int .i64 n2))))) rfl rfl ?_; exact ⟨rfl, below_set (below_set (below_set HB.out hgr) hgr) hgr⟩

/-! ### code_Print: function 15 -/
def code_Print.l0 : Nat → List Int → List (S23) → Int → Int → Option (ByteArray)
 | 0, _, _, _, _ => none
 | k + 1, x3, x9, x10, x11 => if x11 < x10 then (if 0 ≤ x11 then (if x11 < (x9.length : Int) then ((code_Text.f k ((rd_T23 x9 x11).f0) ((rd_T23 x9 x11).f1) ((rd_T23 x9 x11).f2)).bind fun bt120 => (if bt120.2 = 0 then ((num_Text.f x11).bind fun t122 => (if x3.length + t122.size < 140737488355328 then ((some (x3 ++ bytesOf t122 : List Int)).bind fun y123 => (if y123.length < 140737488355328 then ((some (y123 ++ [32] : List Int)).bind fun y126 => (if y126.length + bt120.1.size < 140737488355328 then ((some (y126 ++ bytesOf bt120.1 : List Int)).bind fun y129 => (if y129.length < 140737488355328 then (code_Print.l0 k (y129 ++ [10]) x9 x10 (wrap64 (x11 + 1))) else (none))) else (none))) else (none))) else (none))) else ((num_Text.f x11).bind fun t135 => (if x3.length + t135.size < 140737488355328 then ((some (x3 ++ bytesOf t135 : List Int)).bind fun y136 => (if y136.length < 140737488355328 then ((some (y136 ++ [32] : List Int)).bind fun y139 => (if y139.length + 1 < 140737488355328 then ((some (y139 ++ bytesOf (⟨#[63]⟩ : ByteArray) : List Int)).bind fun y142 => (if y142.length < 140737488355328 then (code_Print.l0 k (y142 ++ [10]) x9 x10 (wrap64 (x11 + 1))) else (none))) else (none))) else (none))) else (none))))) else (none)) else (none)) else (some (strOfNums x3))
def code_Print.f (k : Nat) (l0_0 : List (S23)) (a0_1 : Int) (a0_2 : Int) (a0_3 : Bool) : Option (ByteArray) := code_Print.l0 k ([] : List Int) l0_0 (l0_0.length : Int) 0
theorem code_Print.mono_l : ∀ k, (∀ y0 y1 y2 y3, LeO (code_Print.l0 k y0 y1 y2 y3) (code_Print.l0 (k + 1) y0 y1 y2 y3))
 | 0 => fun _ _ _ _ r h => by simp [code_Print.l0] at h
 | k + 1 => by
  have ih0 := code_Print.mono_l k
  ·intro y0 y1 y2 y3
   unfold code_Print.l0
   repeat' (with_reducible first | apply ih0 | apply code_Text.mono | exact LeO.refl _ | exact LeO.none _ | refine LeO.ite ?_ ?_ | refine LeO.bind ?_ (fun _ => ?_))
theorem code_Print.mono : ∀ a0 a1 a2 a3 k, LeO (code_Print.f k a0 a1 a2 a3) (code_Print.f (k + 1) a0 a1 a2 a3) := by
 intro a0 a1 a2 a3 k
 have ih0 := code_Print.mono_l k
 unfold code_Print.f
 repeat' (with_reducible first | apply ih0 | apply code_Text.mono | exact LeO.refl _ | exact LeO.none _ | refine LeO.ite ?_ ?_ | refine LeO.bind ?_ (fun _ => ?_))
set_option maxHeartbeats 8000000 in
set_option maxRecDepth 100000 in
theorem code_Print.calls (k : Nat) (A0_0 : Option Addr) (c0_0 : Nat) (l0_0 : List (S23)) (a0_1 : Int) (a0_2 : Int) (a0_3 : Bool) (r : ByteArray) (w : World) (hr0_0 : Kd.C k23 w A0_0 l0_0.length l0_0) (hc0_0 : l0_0.length ≤ c0_0) (hLd : Laid w) (h : code_Print.f k l0_0 a0_1 a0_2 a0_3 = some r) :
  Calls Tryd.prog 15 #[.agg #[.slice A0_0 l0_0.length c0_0, .int .i64 a0_1, .int .i64 a0_2, .bool a0_3]] w fun e w' => e = .returned (.string r) ∧ Below w.heap.size w w' := by
 have hu33 := Tryd.underlying33; have hu23 := Tryd.underlying23; have HR0_0 := Aside0.mk hr0_0; have HC0_0 := Aside0.mk hc0_0; clear hr0_0 hc0_0; have HLd := Aside0.mk hLd; clear hLd; have HB := Aside0.mk (Below.refl w.heap.size w); have H : (code_Print.l0 k ([] : List Int) l0_0 (l0_0.length : Int) 0) = some r := h; clear h; have H' := Aside0.mk H; clear H; go_enter Tryd.func15, Tryd.ntmps15
 go_wp2_with (first | ((with_reducible refine gate_dst (N := 1) rfl ?_); refine box_event ?hg (N := 1) ?hd (cs := #[.slice A0_0 l0_0.length c0_0, .int .i64 a0_1, .int .i64 a0_2, .bool a0_3]) (t := 33) ?hr ?_; (case hd => rfl); (case hg => rfl); (case hr => first | (go_simp; done) | (go_simp; rfl)); intro gb117 hg w2 hbox hb; have n0_ := Aside0.mk (below_step bl hb); have n1_ := Aside0.mk (hbox); have n2_ := Aside0.mk ((by rw [hg]; exact (below_size bl) : w.heap.size ≤ gb117)); have n3_ := Aside0.mk ((by rw [hg]; exact (below_size bl) : w.heap.size ≤ gb117)); clear HB; have HB := n0_; have BK117 := n1_; have GW117 := n2_; have GE117 := n3_; clear n0_ n1_ n2_ n3_; clear hb hbox hg; obtain ⟨hcz3_0, hcz3_1, hcz3_2, hcz3_3⟩ := bd4 BK117.out; have hfz3_0 := blk_frozen BK117.out 0; have hfz3_1 := blk_frozen BK117.out 1; have hfz3_2 := blk_frozen BK117.out 2; have hfz3_3 := blk_frozen BK117.out 3))
 go_loopg [3, 11] k (fun kq v3 v11 w' => ∃ (x3_1 : List Int) (x11_1 : Int), v11 = .int .i64 x11_1 ∧ Aside0 (code_Print.l0 kq x3_1 l0_0 (l0_0.length : Int) x11_1 = some r) ∧ Aside0 (kq ≤ k) ∧ Aside0 (Kd.R (Kd.int .u8) 5 w' w.heap.size (fun _ => True) v3 x3_1) ∧ Aside0 (w'.heap[gb117]? = some (.cells #[(.slice A0_0 l0_0.length c0_0), .int .i64 a0_1, .int .i64 a0_2, .bool a0_3] 33 (0, 0))) ∧ Aside0 (Below w.heap.size w w'))
 case atStart => exact ⟨(([] : List Int)), (0), pr, H', ⟨Nat.le_refl _⟩, ⟨pn⟩, ⟨bk⟩, ⟨bl⟩⟩
 case round =>
  clear H'; (try clear hcz3_0); (try clear hcz3_1); (try clear hcz3_2); (try clear hcz3_3); (try clear hfz3_0); (try clear hfz3_1); (try clear hfz3_2); (try clear hfz3_3); obtain ⟨x3_1, x11_1, rfl, HA, HK1, HO_3, BK117, HB⟩ := hrel
  cases gk with
  | zero => exact absurd HA.out (by simp [code_Print.l0])
  | succ k1 =>
   have H := HA.out; clear HA; simp only [code_Print.l0] at H
   by_cases c4 : x11_1 < (l0_0.length : Int)
   ·rw [if_pos c4] at H; have c4b0 : decide (x11_1 < (l0_0.length : Int)) = true := decide_eq_true c4; clear c4
    by_cases c5 : 0 ≤ x11_1
    ·rw [if_pos c5] at H; have c5b0 : decide (0 ≤ x11_1) = true := decide_eq_true c5; clear c5
     by_cases c6 : x11_1 < (l0_0.length : Int)
     ·rw [if_pos c6] at H; have c6b0 : decide (x11_1 < (l0_0.length : Int)) = true := decide_eq_true c6; clear c6; replace H := Option.bind_eq_some_iff.mp H; obtain ⟨⟨t120, t121⟩, A70, H⟩ := H; have A7 := Aside0.mk A70; clear A70
      by_cases c8 : t121 = 0
      ·rw [if_pos c8] at H; have c8b0 : (t121 == 0) = true := beq_iff_eq.mpr c8; have c8b1 : (t121 != 0) = false := bne_eq_false_iff_eq.mpr c8; clear c8; replace H := Option.bind_eq_some_iff.mp H; obtain ⟨t122, A90, H⟩ := H; have A9 := Aside0.mk A90; clear A90
       by_cases c10 : x3_1.length + t122.size < 140737488355328
       ·rw [if_pos c10] at H; have LMc10 := Aside0.mk c10; clear c10; obtain ⟨y123, hy123⟩ : ∃ y_ : List Int, y_ = (x3_1 ++ bytesOf t122) := ⟨_, rfl⟩; (first | replace H := hs hy123 H | rw [← hy123] at H)
        have Ny123 := Aside0.mk hy123; clear hy123
        by_cases c11 : y123.length < 140737488355328
        ·rw [if_pos c11] at H; have LMc11 := Aside0.mk c11; clear c11; obtain ⟨y126, hy126⟩ : ∃ y_ : List Int, y_ = (y123 ++ [32]) := ⟨_, rfl⟩; (first | replace H := hs hy126 H | rw [← hy126] at H)
         have Ny126 := Aside0.mk hy126; clear hy126
         by_cases c12 : y126.length + t120.size < 140737488355328
         ·rw [if_pos c12] at H; have LMc12 := Aside0.mk c12; clear c12; obtain ⟨y129, hy129⟩ : ∃ y_ : List Int, y_ = (y126 ++ bytesOf t120) := ⟨_, rfl⟩; (first | replace H := hs hy129 H | rw [← hy129] at H)
          have Ny129 := Aside0.mk hy129; clear hy129
          by_cases c13 : y129.length < 140737488355328
          ·rw [if_pos c13] at H; have LMc13 := Aside0.mk c13; clear c13; obtain ⟨y132, hy132⟩ : ∃ y_ : List Int, y_ = (y129 ++ [10]) := ⟨_, rfl⟩; (first | replace H := hs hy132 H | rw [← hy132] at H)
           have Ny132 := Aside0.mk hy132; clear hy132; have H' := Aside0.mk H; clear H
           have p118 : 0 ≤ (x11_1 : Int) := of_decide_eq_true pa
           have q118 : x11_1 < (l0_0.length : Int) := of_decide_eq_true pa
           obtain ⟨ad118, e118, hx118_0, hx118_1, hx118_2⟩ := at_T23 HR0_0.out x11_1 p118 q118
           cases e118
           replace hx118_0 := pc HB.out hx118_0; replace hx118_1 := pc HB.out hx118_1; replace hx118_2 := pc HB.out hx118_2; replace p118 := eq_true p118; replace q118 := eq_true q118
           go_wp2_with (first | ((with_reducible refine gate_dst (N := 5) rfl ?_); refine box_event ?hg (N := 5) ?hd (cs := #[.int .i64 0, .int .i64 0, .int .i64 0]) (t := 23) ?hr ?_; (case hd => rfl); (case hg => rfl); (case hr => first | (go_simp; done) | (go_simp; rfl)); intro gb119 hg w14 hbox hb; have n0_ := Aside0.mk (Kd.R_below (bR HO_3.out) hb); have n1_ := Aside0.mk (blk_below (g := gb117) (o := .cells #[.slice (some ad118) l0_0.length c0_0, .int .i64 a0_1, .int .i64 a0_2, .bool a0_3] 33 (0, 0)) bk hb); have n2_ := Aside0.mk (below_step bl hb); have n3_ := Aside0.mk (hbox); have n4_ := Aside0.mk ((by rw [hg]; exact (below_size bl) : w.heap.size ≤ gb119)); have n5_ := Aside0.mk ((by rw [hg]; exact (below_size bl) : w.heap.size ≤ gb119)); have n6_ := Aside0.mk ((by rw [hg]; exact Nat.ne_of_lt (blk_lt (g := gb117) (o := .cells #[.slice (some ad118) l0_0.length c0_0, .int .i64 a0_1, .int .i64 a0_2, .bool a0_3] 33 (0, 0)) bk) : gb117 ≠ gb119)); have n7_ := Aside0.mk ((by rw [hg]; exact Nat.ne_of_gt (blk_lt (g := gb117) (o := .cells #[.slice (some ad118) l0_0.length c0_0, .int .i64 a0_1, .int .i64 a0_2, .bool a0_3] 33 (0, 0)) bk) : gb119 ≠ gb117)); clear HO_3 BK117 HB; have HO_3 := n0_; have BK117 := n1_; have HB := n2_; have BK119 := n3_; have GW119 := n4_; have GE119 := n5_; have NB117_119 := n6_; have NB119_117 := n7_; clear n0_ n1_ n2_ n3_ n4_ n5_ n6_ n7_; clear hb hbox hg; have hnb15 := NB119_117.out; have hnc15 := NB117_119.out; obtain ⟨hcz16_0, hcz16_1, hcz16_2⟩ := bd3 BK119.out; have hfz16_0 := blk_frozen BK119.out 0; have hfz16_1 := blk_frozen BK119.out 1; have hfz16_2 := blk_frozen BK119.out 2) | ((with_reducible refine gate_callee (f := 11) rfl ?_); refine goesL_ (some 18) rfl rfl Tryd.func11 (by kernel_rfl) rfl #[.agg #[.int .i64 ((rd_T23 l0_0 x11_1).f0), .int .i64 ((rd_T23 l0_0 x11_1).f1), .int .i64 ((rd_T23 l0_0 x11_1).f2)]] rfl (by (try simp only [List.map_toArray, List.map_cons, List.map_nil]); first | done | rfl | (simp only [List.length_drop, List.length_take]; rfl)) ?_; (with_reducible refine (code_Text.calls k1 ((rd_T23 l0_0 x11_1).f0) ((rd_T23 l0_0 x11_1).f1) ((rd_T23 l0_0 x11_1).f2) t120 t121 _ ?side1 A7.out).mono ?_); (case side1 => exact Laid.below HLd.out bl); rintro e w17 ⟨rfl, hb⟩; refine ⟨_, rfl, ?_⟩; have n0_ := Aside0.mk (Kd.R_below (by (with_reducible repeat (first | apply Kd.R_alloc | apply Kd.R_drewN | apply Kd.R_drew)); exact (Kd.R_mono (Kd.R_far (p := ⟨gb119, 2, none⟩) (Kd.R_far (p := ⟨gb119, 1, none⟩) (Kd.R_far (p := ⟨gb119, 0, none⟩) (Kd.R_types HO_3.out BK119.out (by decide)) (fun _ hk => hk.2) (.int .i64 ((rd_T23 l0_0 x11_1).f0))) (fun _ hk => hk.2) (.int .i64 ((rd_T23 l0_0 x11_1).f1))) (fun _ hk => hk.2) (.int .i64 ((rd_T23 l0_0 x11_1).f2))) (fun _ h_ => h_.1))) hb); have n1_ := Aside0.mk (blk_below (g := gb117) (o := .cells #[.slice (some ad118) l0_0.length c0_0, .int .i64 a0_1, .int .i64 a0_2, .bool a0_3] 33 (0, 0)) (by (with_reducible repeat (first | refine blk_drewN ?_ _ | refine blk_drew ?_ | refine blk_alloc ?_ _)); refine blk_far ?_ NB117_119.out _; (with_reducible repeat (first | refine blk_drewN ?_ _ | refine blk_drew ?_ | refine blk_alloc ?_ _)); refine blk_far ?_ NB117_119.out _; (with_reducible repeat (first | refine blk_drewN ?_ _ | refine blk_drew ?_ | refine blk_alloc ?_ _)); refine blk_far ?_ NB117_119.out _; (with_reducible repeat (first | refine blk_drewN ?_ _ | refine blk_drew ?_ | refine blk_alloc ?_ _)); exact BK117.out) hb); have n2_ := Aside0.mk (blk_below (g := gb119) (o := .cells #[.int .i64 ((rd_T23 l0_0 x11_1).f0), .int .i64 ((rd_T23 l0_0 x11_1).f1), .int .i64 ((rd_T23 l0_0 x11_1).f2)] 23 (0, 0)) (by (with_reducible repeat (first | refine blk_drewN ?_ _ | refine blk_drew ?_ | refine blk_alloc ?_ _)); refine blk_put (cs := #[.int .i64 ((rd_T23 l0_0 x11_1).f0), .int .i64 ((rd_T23 l0_0 x11_1).f1), .int .i64 0]) ?_ 2 _ rfl; (with_reducible repeat (first | refine blk_drewN ?_ _ | refine blk_drew ?_ | refine blk_alloc ?_ _)); refine blk_put (cs := #[.int .i64 ((rd_T23 l0_0 x11_1).f0), .int .i64 0, .int .i64 0]) ?_ 1 _ rfl; (with_reducible repeat (first | refine blk_drewN ?_ _ | refine blk_drew ?_ | refine blk_alloc ?_ _)); refine blk_put (cs := #[.int .i64 0, .int .i64 0, .int .i64 0]) ?_ 0 _ rfl; (with_reducible repeat (first | refine blk_drewN ?_ _ | refine blk_drew ?_ | refine blk_alloc ?_ _)); exact BK119.out) hb); have n3_ := Aside0.mk (below_step bl hb); clear HO_3 BK117; clear BK119 HB; have HO_3 := n0_; have BK117 := n1_; have BK119 := n2_; have HB := n3_; clear n0_ n1_ n2_ n3_; (try clear hb)) | ((with_reducible refine gate_callee (f := 25) rfl ?_); refine goesL_ (some 25) rfl rfl Tryd.func25 (by kernel_rfl) rfl #[.int .i64 x11_1] rfl (by (try simp only [List.map_toArray, List.map_cons, List.map_nil]); first | done | rfl | (simp only [List.length_drop, List.length_take]; rfl)) ?_; (with_reducible refine (num_Text.calls x11_1 t122 _ A9.out).mono ?_); rintro e w18 ⟨rfl, hb⟩; refine ⟨_, rfl, ?_⟩; have n0_ := Aside0.mk (Kd.R_below (bR HO_3.out) hb); have n1_ := Aside0.mk (blk_below (g := gb117) (o := .cells #[.slice (some ad118) l0_0.length c0_0, .int .i64 a0_1, .int .i64 a0_2, .bool a0_3] 33 (0, 0)) bk hb); have n2_ := Aside0.mk (blk_below (g := gb119) (o := .cells #[.int .i64 ((rd_T23 l0_0 x11_1).f0), .int .i64 ((rd_T23 l0_0 x11_1).f1), .int .i64 ((rd_T23 l0_0 x11_1).f2)] 23 (0, 0)) bk hb); have n3_ := Aside0.mk (below_step bl hb); clear HO_3 BK117; clear BK119 HB; have HO_3 := n0_; have BK117 := n1_; have BK119 := n2_; have HB := n3_; clear n0_ n1_ n2_ n3_; (try clear hb)) | (at_builtin; refine print_append_str (w0 := w) w.heap.size rfl (.tmp 23) _ 61 9 5 rfl Tryd.underlying61 Tryd.underlying9 info5 u3 x3_1 t122 rfl rfl ?aO ?aB ?aS ?aL ?_; (case aB => exact bl); (case aO => exact (Kd.own_of_R (bR HO_3.out))); (case aS => exact (below_size bl)); (case aL => have := LMc10.out; omega); intro v124 w19 ho0 hb hg; have ho := Kd.R_of_own (h1 := fun _ => rfl) (ok := fun _ => True) ho0 (fun _ _ => trivial); clear ho0; have hat := True.intro; rw [← Ny123.out] at ho; change Kd.R (Kd.int .u8) 5 w19 w.heap.size (fun _ => True) v124 y123 at ho; have n0_ := Aside0.mk (blk_grown (g := gb117) (o := .cells #[.slice (some ad118) l0_0.length c0_0, .int .i64 a0_1, .int .i64 a0_2, .bool a0_3] 33 (0, 0)) bk hg (Kd.R_ne HO_3.out BK117.out (by decide))); have n1_ := Aside0.mk (blk_grown (g := gb119) (o := .cells #[.int .i64 ((rd_T23 l0_0 x11_1).f0), .int .i64 ((rd_T23 l0_0 x11_1).f1), .int .i64 ((rd_T23 l0_0 x11_1).f2)] 23 (0, 0)) bk hg (Kd.R_ne HO_3.out BK119.out (by decide))); have n2_ := Aside0.mk (hb); have n3_ := Aside0.mk (ho); clear BK117 BK119; clear HB HO_3; have BK117 := n0_; have BK119 := n1_; have HB := n2_; have HO125 := n3_; clear n0_ n1_ n2_ n3_; clear ho hb hg hat) | ((with_reducible refine gate_builtin (b := .append) (xs := #[.tmp 26, .tmp 27]) rfl ?_); at_builtin; refine Kd.R_append (Kd.int .u8) (w0 := w) w.heap.size rfl (.tmp 26) (.tmp 27) 61 5 (.int .u8 0) 1 rfl Tryd.underlying61 info5 rfl (by decide) (by omega) v124 y123 32 [.int .u8 32] (fun _ => True) (fun _ => False) rfl rfl ?aP (fun _ hk => hk.elim) ?aF ?aO ?aB ?aS ?aL ?_; (case aP => exact rfl); (case aB => exact bl); (case aF => exact (fun _ _ => trivial)); (case aO => exact (bR HO125.out)); (case aS => exact (below_size bl)); (case aL => have := LMc11.out; omega); intro v127 w20 ho hb hg hat; rw [← Ny126.out] at ho; have n0_ := Aside0.mk (blk_grown (g := gb117) (o := .cells #[.slice (some ad118) l0_0.length c0_0, .int .i64 a0_1, .int .i64 a0_2, .bool a0_3] 33 (0, 0)) bk hg (Kd.R_ne HO125.out BK117.out (by decide))); have n1_ := Aside0.mk (blk_grown (g := gb119) (o := .cells #[.int .i64 ((rd_T23 l0_0 x11_1).f0), .int .i64 ((rd_T23 l0_0 x11_1).f1), .int .i64 ((rd_T23 l0_0 x11_1).f2)] 23 (0, 0)) bk hg (Kd.R_ne HO125.out BK119.out (by decide))); have n2_ := Aside0.mk (hb); have n3_ := Aside0.mk (ho); clear BK117 BK119; clear HB HO125; have BK117 := n0_; have BK119 := n1_; have HB := n2_; have HO128 := n3_; clear n0_ n1_ n2_ n3_; clear ho hb hg hat) | (at_builtin; refine print_append_str (w0 := w) w.heap.size rfl (.tmp 28) _ 61 9 5 rfl Tryd.underlying61 Tryd.underlying9 info5 v127 y126 t120 rfl rfl ?aO ?aB ?aS ?aL ?_; (case aB => exact bl); (case aO => exact (Kd.own_of_R (bR HO128.out))); (case aS => exact (below_size bl)); (case aL => have := LMc12.out; omega); intro v130 w21 ho0 hb hg; have ho := Kd.R_of_own (h1 := fun _ => rfl) (ok := fun _ => True) ho0 (fun _ _ => trivial); clear ho0; have hat := True.intro; rw [← Ny129.out] at ho; change Kd.R (Kd.int .u8) 5 w21 w.heap.size (fun _ => True) v130 y129 at ho; have n0_ := Aside0.mk (blk_grown (g := gb117) (o := .cells #[.slice (some ad118) l0_0.length c0_0, .int .i64 a0_1, .int .i64 a0_2, .bool a0_3] 33 (0, 0)) bk hg (Kd.R_ne HO128.out BK117.out (by decide))); have n1_ := Aside0.mk (blk_grown (g := gb119) (o := .cells #[.int .i64 ((rd_T23 l0_0 x11_1).f0), .int .i64 ((rd_T23 l0_0 x11_1).f1), .int .i64 ((rd_T23 l0_0 x11_1).f2)] 23 (0, 0)) bk hg (Kd.R_ne HO128.out BK119.out (by decide))); have n2_ := Aside0.mk (hb); have n3_ := Aside0.mk (ho); clear BK117 BK119; clear HB HO128; have BK117 := n0_; have BK119 := n1_; have HB := n2_; have HO131 := n3_; clear n0_ n1_ n2_ n3_; clear ho hb hg hat) | ((with_reducible refine gate_builtin (b := .append) (xs := #[.tmp 30, .tmp 31]) rfl ?_); at_builtin; refine Kd.R_append (Kd.int .u8) (w0 := w) w.heap.size rfl (.tmp 30) (.tmp 31) 61 5 (.int .u8 0) 1 rfl Tryd.underlying61 info5 rfl (by decide) (by omega) v130 y129 10 [.int .u8 10] (fun _ => True) (fun _ => False) rfl rfl ?aP (fun _ hk => hk.elim) ?aF ?aO ?aB ?aS ?aL ?_; (case aP => exact rfl); (case aB => exact bl); (case aF => exact (fun _ _ => trivial)); (case aO => exact (bR HO131.out)); (case aS => exact (below_size bl)); (case aL => have := LMc13.out; omega); intro v133 w22 ho hb hg hat; rw [← Ny132.out] at ho; have n0_ := Aside0.mk (blk_grown (g := gb117) (o := .cells #[.slice (some ad118) l0_0.length c0_0, .int .i64 a0_1, .int .i64 a0_2, .bool a0_3] 33 (0, 0)) bk hg (Kd.R_ne HO131.out BK117.out (by decide))); have n1_ := Aside0.mk (blk_grown (g := gb119) (o := .cells #[.int .i64 ((rd_T23 l0_0 x11_1).f0), .int .i64 ((rd_T23 l0_0 x11_1).f1), .int .i64 ((rd_T23 l0_0 x11_1).f2)] 23 (0, 0)) bk hg (Kd.R_ne HO131.out BK119.out (by decide))); have n2_ := Aside0.mk (hb); have n3_ := Aside0.mk (ho); clear BK117 BK119; clear HB HO131; have BK117 := n0_; have BK119 := n1_; have HB := n2_; have HO134 := n3_; clear n0_ n1_ n2_ n3_; clear ho hb hg hat))
           go_roundg k1
           case measure => have := HK1.out; omega
           case rel => exact ⟨(y132), (wrap64 (x11_1 + 1)), pr, H', ⟨by have := HK1.out; omega⟩, ⟨by (with_reducible repeat (first | apply Kd.R_alloc | apply Kd.R_drewN | apply Kd.R_drew)); exact HO134.out⟩, ⟨bk⟩, ⟨bl⟩⟩
          ·rw [if_neg c13] at H; exact absurd H (by simp)
         ·rw [if_neg c12] at H; exact absurd H (by simp)
        ·rw [if_neg c11] at H; exact absurd H (by simp)
       ·rw [if_neg c10] at H; exact absurd H (by simp)
      ·rw [if_neg c8] at H; have c8b0 : (t121 == 0) = false := beq_eq_false_iff_ne.mpr c8; have c8b1 : (t121 != 0) = true := bne_iff_ne.mpr c8; replace H := Option.bind_eq_some_iff.mp H; obtain ⟨t135, A230, H⟩ := H; have A23 := Aside0.mk A230; clear A230
       by_cases c24 : x3_1.length + t135.size < 140737488355328
       ·rw [if_pos c24] at H; have LMc24 := Aside0.mk c24; clear c24; obtain ⟨y136, hy136⟩ : ∃ y_ : List Int, y_ = (x3_1 ++ bytesOf t135) := ⟨_, rfl⟩; (first | replace H := hs hy136 H | rw [← hy136] at H)
        have Ny136 := Aside0.mk hy136; clear hy136
        by_cases c25 : y136.length < 140737488355328
        ·rw [if_pos c25] at H; have LMc25 := Aside0.mk c25; clear c25; obtain ⟨y139, hy139⟩ : ∃ y_ : List Int, y_ = (y136 ++ [32]) := ⟨_, rfl⟩; (first | replace H := hs hy139 H | rw [← hy139] at H)
         have Ny139 := Aside0.mk hy139; clear hy139
         by_cases c26 : y139.length + 1 < 140737488355328
         ·rw [if_pos c26] at H; have LMc26 := Aside0.mk c26; clear c26; obtain ⟨y142, hy142⟩ : ∃ y_ : List Int, y_ = (y139 ++ bytesOf (⟨#[63]⟩ : ByteArray)) := ⟨_, rfl⟩; (first | replace H := hs hy142 H | rw [← hy142] at H)
          have Ny142 := Aside0.mk hy142; clear hy142
          by_cases c27 : y142.length < 140737488355328
          ·rw [if_pos c27] at H; have LMc27 := Aside0.mk c27; clear c27; obtain ⟨y145, hy145⟩ : ∃ y_ : List Int, y_ = (y142 ++ [10]) := ⟨_, rfl⟩; (first | replace H := hs hy145 H | rw [← hy145] at H)
           have Ny145 := Aside0.mk hy145; clear hy145; have H' := Aside0.mk H; clear H
           have p118 : 0 ≤ (x11_1 : Int) := of_decide_eq_true pa
           have q118 : x11_1 < (l0_0.length : Int) := of_decide_eq_true pa
           obtain ⟨ad118, e118, hx118_0, hx118_1, hx118_2⟩ := at_T23 HR0_0.out x11_1 p118 q118
           cases e118
           replace hx118_0 := pc HB.out hx118_0; replace hx118_1 := pc HB.out hx118_1; replace hx118_2 := pc HB.out hx118_2; replace p118 := eq_true p118; replace q118 := eq_true q118
           go_wp2_with (first | ((with_reducible refine gate_dst (N := 5) rfl ?_); refine box_event ?hg (N := 5) ?hd (cs := #[.int .i64 0, .int .i64 0, .int .i64 0]) (t := 23) ?hr ?_; (case hd => rfl); (case hg => rfl); (case hr => first | (go_simp; done) | (go_simp; rfl)); intro gb119 hg w28 hbox hb; have n0_ := Aside0.mk (Kd.R_below (bR HO_3.out) hb); have n1_ := Aside0.mk (blk_below (g := gb117) (o := .cells #[.slice (some ad118) l0_0.length c0_0, .int .i64 a0_1, .int .i64 a0_2, .bool a0_3] 33 (0, 0)) bk hb); have n2_ := Aside0.mk (below_step bl hb); have n3_ := Aside0.mk (hbox); have n4_ := Aside0.mk ((by rw [hg]; exact (below_size bl) : w.heap.size ≤ gb119)); have n5_ := Aside0.mk ((by rw [hg]; exact (below_size bl) : w.heap.size ≤ gb119)); have n6_ := Aside0.mk ((by rw [hg]; exact Nat.ne_of_lt (blk_lt (g := gb117) (o := .cells #[.slice (some ad118) l0_0.length c0_0, .int .i64 a0_1, .int .i64 a0_2, .bool a0_3] 33 (0, 0)) bk) : gb117 ≠ gb119)); have n7_ := Aside0.mk ((by rw [hg]; exact Nat.ne_of_gt (blk_lt (g := gb117) (o := .cells #[.slice (some ad118) l0_0.length c0_0, .int .i64 a0_1, .int .i64 a0_2, .bool a0_3] 33 (0, 0)) bk) : gb119 ≠ gb117)); clear HO_3 BK117 HB; have HO_3 := n0_; have BK117 := n1_; have HB := n2_; have BK119 := n3_; have GW119 := n4_; have GE119 := n5_; have NB117_119 := n6_; have NB119_117 := n7_; clear n0_ n1_ n2_ n3_ n4_ n5_ n6_ n7_; clear hb hbox hg; have hnb29 := NB119_117.out; have hnc29 := NB117_119.out; obtain ⟨hcz30_0, hcz30_1, hcz30_2⟩ := bd3 BK119.out; have hfz30_0 := blk_frozen BK119.out 0; have hfz30_1 := blk_frozen BK119.out 1; have hfz30_2 := blk_frozen BK119.out 2) | ((with_reducible refine gate_callee (f := 11) rfl ?_); refine goesL_ (some 18) rfl rfl Tryd.func11 (by kernel_rfl) rfl #[.agg #[.int .i64 ((rd_T23 l0_0 x11_1).f0), .int .i64 ((rd_T23 l0_0 x11_1).f1), .int .i64 ((rd_T23 l0_0 x11_1).f2)]] rfl (by (try simp only [List.map_toArray, List.map_cons, List.map_nil]); first | done | rfl | (simp only [List.length_drop, List.length_take]; rfl)) ?_; (with_reducible refine (code_Text.calls k1 ((rd_T23 l0_0 x11_1).f0) ((rd_T23 l0_0 x11_1).f1) ((rd_T23 l0_0 x11_1).f2) t120 t121 _ ?side1 A7.out).mono ?_); (case side1 => exact Laid.below HLd.out bl); rintro e w31 ⟨rfl, hb⟩; refine ⟨_, rfl, ?_⟩; have n0_ := Aside0.mk (Kd.R_below (by (with_reducible repeat (first | apply Kd.R_alloc | apply Kd.R_drewN | apply Kd.R_drew)); exact (Kd.R_mono (Kd.R_far (p := ⟨gb119, 2, none⟩) (Kd.R_far (p := ⟨gb119, 1, none⟩) (Kd.R_far (p := ⟨gb119, 0, none⟩) (Kd.R_types HO_3.out BK119.out (by decide)) (fun _ hk => hk.2) (.int .i64 ((rd_T23 l0_0 x11_1).f0))) (fun _ hk => hk.2) (.int .i64 ((rd_T23 l0_0 x11_1).f1))) (fun _ hk => hk.2) (.int .i64 ((rd_T23 l0_0 x11_1).f2))) (fun _ h_ => h_.1))) hb); have n1_ := Aside0.mk (blk_below (g := gb117) (o := .cells #[.slice (some ad118) l0_0.length c0_0, .int .i64 a0_1, .int .i64 a0_2, .bool a0_3] 33 (0, 0)) (by (with_reducible repeat (first | refine blk_drewN ?_ _ | refine blk_drew ?_ | refine blk_alloc ?_ _)); refine blk_far ?_ NB117_119.out _; (with_reducible repeat (first | refine blk_drewN ?_ _ | refine blk_drew ?_ | refine blk_alloc ?_ _)); refine blk_far ?_ NB117_119.out _; (with_reducible repeat (first | refine blk_drewN ?_ _ | refine blk_drew ?_ | refine blk_alloc ?_ _)); refine blk_far ?_ NB117_119.out _; (with_reducible repeat (first | refine blk_drewN ?_ _ | refine blk_drew ?_ | refine blk_alloc ?_ _)); exact BK117.out) hb); have n2_ := Aside0.mk (blk_below (g := gb119) (o := .cells #[.int .i64 ((rd_T23 l0_0 x11_1).f0), .int .i64 ((rd_T23 l0_0 x11_1).f1), .int .i64 ((rd_T23 l0_0 x11_1).f2)] 23 (0, 0)) (by (with_reducible repeat (first | refine blk_drewN ?_ _ | refine blk_drew ?_ | refine blk_alloc ?_ _)); refine blk_put (cs := #[.int .i64 ((rd_T23 l0_0 x11_1).f0), .int .i64 ((rd_T23 l0_0 x11_1).f1), .int .i64 0]) ?_ 2 _ rfl; (with_reducible repeat (first | refine blk_drewN ?_ _ | refine blk_drew ?_ | refine blk_alloc ?_ _)); refine blk_put (cs := #[.int .i64 ((rd_T23 l0_0 x11_1).f0), .int .i64 0, .int .i64 0]) ?_ 1 _ rfl; (with_reducible repeat (first | refine blk_drewN ?_ _ | refine blk_drew ?_ | refine blk_alloc ?_ _)); refine blk_put (cs := #[.int .i64 0, .int .i64 0, .int .i64 0]) ?_ 0 _ rfl; (with_reducible repeat (first | refine blk_drewN ?_ _ | refine blk_drew ?_ | refine blk_alloc ?_ _)); exact BK119.out) hb); have n3_ := Aside0.mk (below_step bl hb); clear HO_3 BK117; clear BK119 HB; have HO_3 := n0_; have BK117 := n1_; have BK119 := n2_; have HB := n3_; clear n0_ n1_ n2_ n3_; (try clear hb)) | ((with_reducible refine gate_callee (f := 25) rfl ?_); refine goesL_ (some 25) rfl rfl Tryd.func25 (by kernel_rfl) rfl #[.int .i64 x11_1] rfl (by (try simp only [List.map_toArray, List.map_cons, List.map_nil]); first | done | rfl | (simp only [List.length_drop, List.length_take]; rfl)) ?_; (with_reducible refine (num_Text.calls x11_1 t135 _ A23.out).mono ?_); rintro e w32 ⟨rfl, hb⟩; refine ⟨_, rfl, ?_⟩; have n0_ := Aside0.mk (Kd.R_below (bR HO_3.out) hb); have n1_ := Aside0.mk (blk_below (g := gb117) (o := .cells #[.slice (some ad118) l0_0.length c0_0, .int .i64 a0_1, .int .i64 a0_2, .bool a0_3] 33 (0, 0)) bk hb); have n2_ := Aside0.mk (blk_below (g := gb119) (o := .cells #[.int .i64 ((rd_T23 l0_0 x11_1).f0), .int .i64 ((rd_T23 l0_0 x11_1).f1), .int .i64 ((rd_T23 l0_0 x11_1).f2)] 23 (0, 0)) bk hb); have n3_ := Aside0.mk (below_step bl hb); clear HO_3 BK117; clear BK119 HB; have HO_3 := n0_; have BK117 := n1_; have BK119 := n2_; have HB := n3_; clear n0_ n1_ n2_ n3_; (try clear hb)) | (at_builtin; refine print_append_str (w0 := w) w.heap.size rfl (.tmp 23) _ 61 9 5 rfl Tryd.underlying61 Tryd.underlying9 info5 u3 x3_1 t135 rfl rfl ?aO ?aB ?aS ?aL ?_; (case aB => exact bl); (case aO => exact (Kd.own_of_R (bR HO_3.out))); (case aS => exact (below_size bl)); (case aL => have := LMc24.out; omega); intro v137 w33 ho0 hb hg; have ho := Kd.R_of_own (h1 := fun _ => rfl) (ok := fun _ => True) ho0 (fun _ _ => trivial); clear ho0; have hat := True.intro; rw [← Ny136.out] at ho; change Kd.R (Kd.int .u8) 5 w33 w.heap.size (fun _ => True) v137 y136 at ho; have n0_ := Aside0.mk (blk_grown (g := gb117) (o := .cells #[.slice (some ad118) l0_0.length c0_0, .int .i64 a0_1, .int .i64 a0_2, .bool a0_3] 33 (0, 0)) bk hg (Kd.R_ne HO_3.out BK117.out (by decide))); have n1_ := Aside0.mk (blk_grown (g := gb119) (o := .cells #[.int .i64 ((rd_T23 l0_0 x11_1).f0), .int .i64 ((rd_T23 l0_0 x11_1).f1), .int .i64 ((rd_T23 l0_0 x11_1).f2)] 23 (0, 0)) bk hg (Kd.R_ne HO_3.out BK119.out (by decide))); have n2_ := Aside0.mk (hb); have n3_ := Aside0.mk (ho); clear BK117 BK119; clear HB HO_3; have BK117 := n0_; have BK119 := n1_; have HB := n2_; have HO138 := n3_; clear n0_ n1_ n2_ n3_; clear ho hb hg hat) | ((with_reducible refine gate_builtin (b := .append) (xs := #[.tmp 26, .tmp 27]) rfl ?_); at_builtin; refine Kd.R_append (Kd.int .u8) (w0 := w) w.heap.size rfl (.tmp 26) (.tmp 27) 61 5 (.int .u8 0) 1 rfl Tryd.underlying61 info5 rfl (by decide) (by omega) v137 y136 32 [.int .u8 32] (fun _ => True) (fun _ => False) rfl rfl ?aP (fun _ hk => hk.elim) ?aF ?aO ?aB ?aS ?aL ?_; (case aP => exact rfl); (case aB => exact bl); (case aF => exact (fun _ _ => trivial)); (case aO => exact (bR HO138.out)); (case aS => exact (below_size bl)); (case aL => have := LMc25.out; omega); intro v140 w34 ho hb hg hat; rw [← Ny139.out] at ho; have n0_ := Aside0.mk (blk_grown (g := gb117) (o := .cells #[.slice (some ad118) l0_0.length c0_0, .int .i64 a0_1, .int .i64 a0_2, .bool a0_3] 33 (0, 0)) bk hg (Kd.R_ne HO138.out BK117.out (by decide))); have n1_ := Aside0.mk (blk_grown (g := gb119) (o := .cells #[.int .i64 ((rd_T23 l0_0 x11_1).f0), .int .i64 ((rd_T23 l0_0 x11_1).f1), .int .i64 ((rd_T23 l0_0 x11_1).f2)] 23 (0, 0)) bk hg (Kd.R_ne HO138.out BK119.out (by decide))); have n2_ := Aside0.mk (hb); have n3_ := Aside0.mk (ho); clear BK117 BK119; clear HB HO138; have BK117 := n0_; have BK119 := n1_; have HB := n2_; have HO141 := n3_; clear n0_ n1_ n2_ n3_; clear ho hb hg hat) | (at_builtin; refine print_append_str (w0 := w) w.heap.size rfl (.tmp 28) _ 61 9 5 rfl Tryd.underlying61 Tryd.underlying9 info5 v140 y139 (⟨#[63]⟩ : ByteArray) rfl rfl ?aO ?aB ?aS ?aL ?_; (case aB => exact bl); (case aO => exact (Kd.own_of_R (bR HO141.out))); (case aS => exact (below_size bl)); (case aL => have := LMc26.out; first | omega | exact Nat.le_of_lt this); intro v143 w35 ho0 hb hg; have ho := Kd.R_of_own (h1 := fun _ => rfl) (ok := fun _ => True) ho0 (fun _ _ => trivial); clear ho0; have hat := True.intro; rw [← Ny142.out] at ho; change Kd.R (Kd.int .u8) 5 w35 w.heap.size (fun _ => True) v143 y142 at ho; have n0_ := Aside0.mk (blk_grown (g := gb117) (o := .cells #[.slice (some ad118) l0_0.length c0_0, .int .i64 a0_1, .int .i64 a0_2, .bool a0_3] 33 (0, 0)) bk hg (Kd.R_ne HO141.out BK117.out (by decide))); have n1_ := Aside0.mk (blk_grown (g := gb119) (o := .cells #[.int .i64 ((rd_T23 l0_0 x11_1).f0), .int .i64 ((rd_T23 l0_0 x11_1).f1), .int .i64 ((rd_T23 l0_0 x11_1).f2)] 23 (0, 0)) bk hg (Kd.R_ne HO141.out BK119.out (by decide))); have n2_ := Aside0.mk (hb); have n3_ := Aside0.mk (ho); clear BK117 BK119; clear HB HO141; have BK117 := n0_; have BK119 := n1_; have HB := n2_; have HO144 := n3_; clear n0_ n1_ n2_ n3_; clear ho hb hg hat) | ((with_reducible refine gate_builtin (b := .append) (xs := #[.tmp 30, .tmp 31]) rfl ?_); at_builtin; refine Kd.R_append (Kd.int .u8) (w0 := w) w.heap.size rfl (.tmp 30) (.tmp 31) 61 5 (.int .u8 0) 1 rfl Tryd.underlying61 info5 rfl (by decide) (by omega) v143 y142 10 [.int .u8 10] (fun _ => True) (fun _ => False) rfl rfl ?aP (fun _ hk => hk.elim) ?aF ?aO ?aB ?aS ?aL ?_; (case aP => exact rfl); (case aB => exact bl); (case aF => exact (fun _ _ => trivial)); (case aO => exact (bR HO144.out)); (case aS => exact (below_size bl)); (case aL => have := LMc27.out; omega); intro v146 w36 ho hb hg hat; rw [← Ny145.out] at ho; have n0_ := Aside0.mk (blk_grown (g := gb117) (o := .cells #[.slice (some ad118) l0_0.length c0_0, .int .i64 a0_1, .int .i64 a0_2, .bool a0_3] 33 (0, 0)) bk hg (Kd.R_ne HO144.out BK117.out (by decide))); have n1_ := Aside0.mk (blk_grown (g := gb119) (o := .cells #[.int .i64 ((rd_T23 l0_0 x11_1).f0), .int .i64 ((rd_T23 l0_0 x11_1).f1), .int .i64 ((rd_T23 l0_0 x11_1).f2)] 23 (0, 0)) bk hg (Kd.R_ne HO144.out BK119.out (by decide))); have n2_ := Aside0.mk (hb); have n3_ := Aside0.mk (ho); clear BK117 BK119; clear HB HO144; have BK117 := n0_; have BK119 := n1_; have HB := n2_; have HO147 := n3_; clear n0_ n1_ n2_ n3_; clear ho hb hg hat))
           go_roundg k1
           case measure => have := HK1.out; omega
           case rel => exact ⟨(y145), (wrap64 (x11_1 + 1)), pr, H', ⟨by have := HK1.out; omega⟩, ⟨by (with_reducible repeat (first | apply Kd.R_alloc | apply Kd.R_drewN | apply Kd.R_drew)); exact HO147.out⟩, ⟨bk⟩, ⟨bl⟩⟩
          ·rw [if_neg c27] at H; exact absurd H (by simp)
         ·rw [if_neg c26] at H; exact absurd H (by simp)
        ·rw [if_neg c25] at H; exact absurd H (by simp)
       ·rw [if_neg c24] at H; exact absurd H (by simp)
     ·rw [if_neg c6] at H; exact absurd H (by simp)
    ·rw [if_neg c5] at H; exact absurd H (by simp)
   ·rw [if_neg c4] at H; have c4b0 : decide (x11_1 < (l0_0.length : Int)) = false := decide_eq_false c4; clear c4; obtain rfl := Option.some.inj H; have hcv37 := own_string (P := Tryd.prog) Tryd.underlying61 Tryd.underlying5 Tryd.underlying9 (Kd.own_of_R HO_3.out); go_wp2; go_ret; exact ⟨pe, bl⟩

/-! ### code_checker_within: function 43 -/
def code_checker_within.f (l0 : List (S33)) (a1 : Int) (a2 : Int) (l3_0 : List (S23)) (a3_1 : Int) (a3_2 : Int) (a3_3 : Bool) : Option (Bool) := if a1 ≥ 0 then (if a2 ≥ 1 then (if a1 ≤ a3_1 then (some (decide (a2 ≤ (wrap64 (a3_1 - a1))))) else (some false)) else (some false)) else (some false)
set_option maxHeartbeats 8000000 in
set_option maxRecDepth 100000 in
theorem code_checker_within.calls0 (gb148 : Nat) (A0 : Option Addr) (c0 : Nat) (l0 : List (S33)) (a1 : Int) (a2 : Int) (A3_0 : Option Addr) (c3_0 : Nat) (l3_0 : List (S23)) (a3_1 : Int) (a3_2 : Int) (a3_3 : Bool) (r : Bool) (w w8 : World) (hr0 : Kd.C k33 w A0 l0.length l0) (hc0 : l0.length ≤ c0) (hr3_0 : Kd.C k23 w A3_0 l3_0.length l3_0) (hc3_0 : l3_0.length ≤ c3_0) (hbox : w8.heap[gb148]? = some (.cells #[.slice A0 l0.length c0, .slice A3_0 l3_0.length c3_0, .int .i64 a3_1, .int .i64 a3_2, .bool a3_3, .slice none 0 0] 64 (0, 0))) (hw3 : w8 = w) (h : code_checker_within.f l0 a1 a2 l3_0 a3_1 a3_2 a3_3 = some r) :
  Calls Tryd.prog 43 #[.pointer (some ⟨gb148, 0, none⟩), .int .i64 a1, .int .i64 a2] w8 fun e w' => e = .returned (.bool r) ∧ Below w.heap.size w w' := by
 have hu64 := Tryd.underlying64; have HR0 := Aside0.mk hr0; have HC0 := Aside0.mk hc0; clear hr0 hc0; have HR3_0 := Aside0.mk hr3_0; have HC3_0 := Aside0.mk hc3_0; clear hr3_0 hc3_0; have HB := Aside0.mk (Below.refl w.heap.size w); have H : (if a1 ≥ 0 then (if a2 ≥ 1 then (if a1 ≤ a3_1 then (some (decide (a2 ≤ (wrap64 (a3_1 - a1))))) else (some false)) else (some false)) else (some false)) = some r := h; clear h
 by_cases c5 : a1 ≥ 0
 ·rw [if_pos c5] at H; have c5b0 : decide (0 ≤ a1) = true := decide_eq_true c5; clear c5
  by_cases c6 : a2 ≥ 1
  ·rw [if_pos c6] at H; have c6b0 : decide (1 ≤ a2) = true := decide_eq_true c6; clear c6
   by_cases c7 : a1 ≤ a3_1
   ·rw [if_pos c7] at H; have c7b0 : decide (a1 ≤ a3_1) = true := decide_eq_true c7; clear c7; obtain rfl := Option.some.inj H; have BK148 := Aside0.mk hbox; have n0_ := Aside0.mk (show Below w.heap.size w w8 from by subst hw3; exact Below.refl _ _); clear hw3 HB; have HB := n0_; clear n0_ hbox; obtain ⟨hcz9_0, hcz9_1, hcz9_2, hcz9_3, hcz9_4, hcz9_5, hfz9_0, hfz9_1, hfz9_2, hfz9_3, hfz9_4, hfz9_5⟩ := bc6 BK148.out; go_enter Tryd.func43, Tryd.ntmps43
    go_wp2_with (first | fail)
    go_ret; exact ⟨pe, bl⟩
   ·rw [if_neg c7] at H; have c7b0 : decide (a1 ≤ a3_1) = false := decide_eq_false c7; clear c7; obtain rfl := Option.some.inj H; have BK148 := Aside0.mk hbox; have n0_ := Aside0.mk (show Below w.heap.size w w8 from by subst hw3; exact Below.refl _ _); clear hw3 HB; have HB := n0_; clear n0_ hbox; obtain ⟨hcz11_0, hcz11_1, hcz11_2, hcz11_3, hcz11_4, hcz11_5, hfz11_0, hfz11_1, hfz11_2, hfz11_3, hfz11_4, hfz11_5⟩ := bc6 BK148.out; go_enter Tryd.func43, Tryd.ntmps43
    go_wp2_with (first | fail)
    go_ret; exact ⟨pe, bl⟩
  ·rw [if_neg c6] at H; have c6b0 : decide (1 ≤ a2) = false := decide_eq_false c6; clear c6; obtain rfl := Option.some.inj H; have BK148 := Aside0.mk hbox; have n0_ := Aside0.mk (show Below w.heap.size w w8 from by subst hw3; exact Below.refl _ _); clear hw3 HB; have HB := n0_; clear n0_ hbox; go_enter Tryd.func43, Tryd.ntmps43
   go_wp2_with (first | fail)
   go_ret; exact ⟨pe, bl⟩
 ·rw [if_neg c5] at H; have c5b0 : decide (0 ≤ a1) = false := decide_eq_false c5; clear c5; obtain rfl := Option.some.inj H; have BK148 := Aside0.mk hbox; have n0_ := Aside0.mk (show Below w.heap.size w w8 from by subst hw3; exact Below.refl _ _); clear hw3 HB; have HB := n0_; clear n0_ hbox; go_enter Tryd.func43, Tryd.ntmps43
  go_wp2_with (first | fail)
  go_ret; exact ⟨pe, bl⟩

theorem code_checker_within.calls (gb148 : Nat) (A0 : Option Addr) (c0 : Nat) (l0 : List (S33)) (a1 : Int) (a2 : Int) (A3_0 : Option Addr) (c3_0 : Nat) (l3_0 : List (S23)) (a3_1 : Int) (a3_2 : Int) (a3_3 : Bool) (r : Bool) (w : World) (hr0 : Kd.C k33 w A0 l0.length l0) (hc0 : l0.length ≤ c0) (hr3_0 : Kd.C k23 w A3_0 l3_0.length l3_0) (hc3_0 : l3_0.length ≤ c3_0) (hbox : w.heap[gb148]? = some (.cells #[.slice A0 l0.length c0, .slice A3_0 l3_0.length c3_0, .int .i64 a3_1, .int .i64 a3_2, .bool a3_3, .slice none 0 0] 64 (0, 0))) (h : code_checker_within.f l0 a1 a2 l3_0 a3_1 a3_2 a3_3 = some r) :
  Calls Tryd.prog 43 #[.pointer (some ⟨gb148, 0, none⟩), .int .i64 a1, .int .i64 a2] w fun e w' => e = .returned (.bool r) ∧ Below w.heap.size w w' := code_checker_within.calls0 gb148 A0 c0 l0 a1 a2 A3_0 c3_0 l3_0 a3_1 a3_2 a3_3 r w w hr0 hc0 hr3_0 hc3_0 hbox rfl h

end Go.Proofs.YtdbpdcjlbopkbaaDoor.P
