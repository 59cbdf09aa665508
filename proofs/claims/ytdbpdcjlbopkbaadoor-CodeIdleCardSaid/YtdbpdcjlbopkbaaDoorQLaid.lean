/- What the row's condition says of the package's two tables: they lie as the text lays them. -/
import Derived.Test.YtdbpdcjlbopkbaaDoorPx2
import Derived.Test.YtdbpdcjlbopkbaaDoorRows
import Derived.LaidLaws
import Derived.ChangeArms
import Derived.KernelRfl
import Derived.Lib.LaidTab
namespace Go.Proofs.YtdbpdcjlbopkbaaDoor.Q
open Go.RowKit Go.Proofs.YtdbpdcjlbopkbaaDoorW.PrintWords Go.Proofs.YtdbpdcjlbopkbaaDoorW.PrintLast Go.Proofs.YtdbpdcjlbopkbaaDoorW.PrintMore Go.Proofs.YtdbpdcjlbopkbaaDoor.P

theorem trod_array {H : Type} {enc : TypeId × Value → H} {P : Program} {w : World} {base : Nat} {sp : Nat → Bool} {held : Bool} {fuel : Nat} {t e : TypeId} {n : Nat} {cs : List Value} {ds : List (DataW H)} {p : List MemPlace}
    (ht : P.underlying t = some (.array n e)) (h : DataW.trod enc P w base sp held fuel t cs = some (.agg ds, p)) :
    ∃ fuel', ∀ i, i < n → ∃ d q, ds[i]? = some d ∧ DataW.trod enc P w base sp held fuel' e ((cs.drop (i * P.cellsOf e)).take (P.cellsOf e)) = some (d, q) := by
  cases fuel with
  | zero => simp [DataW.trod] at h
  | succ fuel =>
    simp only [DataW.trod, ht] at h
    split at h
    · obtain ⟨xs, hm, hx⟩ := Option.map_eq_some_iff.1 h
      have hd : xs.map (·.1) = ds := by
        have := congrArg Prod.fst hx
        simpa using this
      refine ⟨fuel, fun i hi => ?_⟩
      obtain ⟨b, hb, hf⟩ := Go.Lib.mapM_at hm i i (by simp [hi])
      exact ⟨b.1, b.2, by rw [← hd]; simp [hb], hf⟩
    · cases h

theorem cell_one {cs : List Value} {i : Nat} {v : Value} (h : (cs.drop (i * 1)).take 1 = [v]) : cs[i]? = some v := by
  have := congrArg (·[0]?) h
  simpa [List.getElem?_take, List.getElem?_drop] using this

def wordsD : List (DataW Unit) := code_WORDS.map fun s => .lit (.string s.data.toList)
def stackD : List (DataW Unit) := (List.range 26).map fun i => .agg [.lit (.int .i64 (rd code_STACK ((2 * i : Nat) : Int))), .lit (.int .i64 (rd code_STACK ((2 * i + 1 : Nat) : Int)))]

theorem words_cells {W : World} {cs : List Value} {fuel : Nat} {p : List MemPlace} {t e : TypeId} (ht : Tryd.prog.underlying t = some (.array 26 e)) (he : Tryd.prog.underlying e = some .string) (hc : Tryd.prog.cellsOf e = 1)
    (h : DataW.trod (fun _ => ()) Tryd.prog W 0 (fun _ => true) false fuel t cs = some (.agg wordsD, p)) (i : Nat) (hi : i < 26) : cs[i]? = some (.string (rdOf ByteArray.empty code_WORDS (i : Int))) := by
  obtain ⟨f, hf⟩ := trod_array ht h
  obtain ⟨d, q, hd, hq⟩ := hf i hi
  rw [hc] at hq
  obtain ⟨s, hs, hx, _⟩ := DataW.trod_string he hq
  have e1 : d = .lit (.string s.data.toList) := congrArg Prod.fst hx
  have hl : i < code_WORDS.length := hi
  have e2 : d = .lit (.string (code_WORDS[i]).data.toList) := by
    have : wordsD[i]? = some (.lit (.string (code_WORDS[i]).data.toList)) := by simp [wordsD, hl]
    rw [this] at hd
    exact (Option.some.inj hd).symm
  rw [e1] at e2
  have e3 : s.data.toList = (code_WORDS[i]).data.toList := by injection e2 with e2; injection e2
  have e4 : s = code_WORDS[i] := by
    have := Array.toList_inj.1 e3
    cases s; cases h9 : code_WORDS[i]; simp_all
  rw [cell_one hs, e4]
  simp [rdOf, List.getD, hl]

theorem stack_cells {W : World} {cs : List Value} {fuel : Nat} {p : List MemPlace} {t e e2 : TypeId} (ht : Tryd.prog.underlying t = some (.array 26 e)) (he : Tryd.prog.underlying e = some (.array 2 e2)) (h2 : Tryd.prog.underlying e2 = some (.int .i64)) (hc : Tryd.prog.cellsOf e = 2) (hc2 : Tryd.prog.cellsOf e2 = 1)
    (h : DataW.trod (fun _ => ()) Tryd.prog W 0 (fun _ => true) false fuel t cs = some (.agg stackD, p)) (j : Nat) (hj : j < 52) : cs[j]? = some (.int .i64 (rd code_STACK (j : Int))) := by
  obtain ⟨f, hf⟩ := trod_array ht h
  obtain ⟨d, q, hd, hq⟩ := hf (j / 2) (by omega)
  rw [hc] at hq
  have e1 : d = .agg [.lit (.int .i64 (rd code_STACK ((2 * (j / 2) : Nat) : Int))), .lit (.int .i64 (rd code_STACK ((2 * (j / 2) + 1 : Nat) : Int)))] := by
    have hl : j / 2 < 26 := by omega
    simp only [stackD, List.getElem?_map, List.getElem?_range hl, Option.map_some] at hd
    exact (Option.some.inj hd).symm
  subst e1
  obtain ⟨f2, hf2⟩ := trod_array he hq
  obtain ⟨d2, q2, hd2, hq2⟩ := hf2 (j % 2) (by omega)
  rw [hc2] at hq2
  obtain ⟨n, hn, hx, _⟩ := DataW.trod_int h2 hq2
  have e3 : d2 = .lit (.int .i64 n) := congrArg Prod.fst hx
  have h9 := cell_one hn
  simp only [List.getElem?_take, List.getElem?_drop] at h9
  rw [if_pos (by omega), show j / 2 * 2 + j % 2 = j by omega] at h9
  rw [h9]
  congr 2
  rcases Nat.mod_two_eq_zero_or_one j with hm | hm
  · rw [hm] at hd2
    simp only [List.getElem?_cons_zero, Option.some.injEq] at hd2
    rw [e3] at hd2
    injection hd2 with hd2
    injection hd2 with _ hd2
    rw [← hd2]
    congr 2
    omega
  · rw [hm] at hd2
    simp only [List.getElem?_cons_succ, List.getElem?_cons_zero, Option.some.injEq] at hd2
    rw [e3] at hd2
    injection hd2 with hd2
    injection hd2 with _ hd2
    rw [← hd2]
    congr 2
    omega

theorem laid_of {W : World} (h : laidMet Tryd.prog [("parallax/code.words", Rows.laid_parallax_code_words), ("parallax/code.stack", Rows.laid_parallax_code_stack)] W) : Laid W := by
  obtain ⟨ps, ⟨g0, t0, cs0, f0, p0, q0, hg0, ht0, hv0, hd0, ⟨g1, t1, cs1, f1, p1, q1, hg1, ht1, hv1, hd1, hq1, e1⟩, e0⟩, hnd, hrows⟩ := h
  have n0 : Tryd.prog.globalNamed "parallax/code.words" = some 0 := by kernel_rfl
  have n1 : Tryd.prog.globalNamed "parallax/code.stack" = some 1 := by kernel_rfl
  have y0 : (Tryd.prog.globals[0]?).map (·.type) = some 47 := by kernel_rfl
  have y1 : (Tryd.prog.globals[1]?).map (·.type) = some 85 := by kernel_rfl
  obtain rfl := Option.some.inj (n0.symm.trans hg0)
  obtain rfl := Option.some.inj (n1.symm.trans hg1)
  obtain rfl := Option.some.inj (y0.symm.trans ht0)
  obtain rfl := Option.some.inj (y1.symm.trans ht1)
  have d0 : (Rows.laid_parallax_code_words : DataW Unit) = .agg wordsD := by kernel_rfl
  have d1 : (Rows.laid_parallax_code_stack : DataW Unit) = .agg stackD := by kernel_rfl
  rw [d0] at hd0
  rw [d1] at hd1
  refine ⟨fun i hi => ?_, fun i hi => ?_⟩
  · have := World.var?_cell n0 hv0 i
    rw [this, ← Array.getElem?_toList]
    exact words_cells (e := 9) (by kernel_rfl) (by kernel_rfl) (by kernel_rfl) hd0 i hi
  · have := World.var?_cell n1 hv1 i
    rw [this, ← Array.getElem?_toList]
    exact stack_cells (e := 84) (e2 := 3) (by kernel_rfl) (by kernel_rfl) (by kernel_rfl) (by kernel_rfl) (by kernel_rfl) hd1 i hi

/-! One world that fits. -/
noncomputable def laidWorld (os : Os) : World :=
  let w0 := World.holding Tryd.prog os ⟨#[], #[], []⟩
  { w0 with heap := (w0.heap.modify 0 fun
      | .cells _ t frozen => .cells (code_WORDS.map Value.string).toArray t frozen
      | o => o).modify 1 fun
      | .cells _ t frozen => .cells (code_STACK.map (Value.int .i64)).toArray t frozen
      | o => o }
theorem laidWorld_met (os : Os) (args : Array Value) : laidMet Tryd.prog [("parallax/code.words", Rows.laid_parallax_code_words), ("parallax/code.stack", Rows.laid_parallax_code_stack)] ((laidWorld os).forCall (fun _ _ => 0) ⟨#[], args, []⟩).memory :=
  laidMet_of_run' 8 (by kernel_rfl) (by kernel_rfl)
end Go.Proofs.YtdbpdcjlbopkbaaDoor.Q
