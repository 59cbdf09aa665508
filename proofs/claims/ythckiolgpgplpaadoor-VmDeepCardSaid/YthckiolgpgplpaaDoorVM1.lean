/- The walks of the machine, by hand. -/
import Derived.Test.YthckiolgpgplpaaDoorVM0
section
namespace Go.Proofs.YthckiolgpgplpaaDoor
open Go.RowKit Go.Proofs.YthckiolgpgplpaaDoorW.PrintWords Go.Proofs.YthckiolgpgplpaaDoorW.PrintLast Go.Proofs.YthckiolgpgplpaaDoorW.PrintMore Go.Proofs.YthckiolgpgplpaaDoor.P Go.Proofs.YthckiolgpgplpaaDoor.Q
set_option linter.unusedVariables false
set_option linter.unusedSimpArgs false
set_option maxRecDepth 1000000
set_option maxHeartbeats 1000000
/-- A machine between two steps. -/
structure Fit (m : Mc) : Prop where
  good : GoodS m
  evs : m.ended = false → (m.events.length : Int) ≤ m.ticks * 1048577
theorem steps_fit : ∀ (k : Nat) {m : Mc}, Inv k m → m.ended = false → Fit (m.steps k).1 ∧ (m.steps k).1.codes = m.codes ∧ (m.steps k).1.input = m.input
  | 0, m, I, he => by
    have hev := I.evs he
    have G := I.good
    refine ⟨⟨⟨G.sound, (fun h => by cases h), (fun h => by cases h), (fun h => by cases h), G.fuel, G.read, G.inp, ?_⟩, (fun h => by cases h)⟩, rfl, rfl⟩
    show ((m.events ++ [(5, 0)]).length : Int) ≤ m.ticks * 1048577 + 1048577
    simp
    omega
  | k + 1, m, I, he => by
    obtain ⟨G, h1, h2, h3, h4⟩ := one_next I he
    show Fit (if m.one.2 = true then (m.one.1, true) else if m.one.1.ended = true then (m.one.1, false) else Mc.steps k m.one.1).1 ∧ (if m.one.2 = true then (m.one.1, true) else if m.one.1.ended = true then (m.one.1, false) else Mc.steps k m.one.1).1.codes = m.codes ∧ (if m.one.2 = true then (m.one.1, true) else if m.one.1.ended = true then (m.one.1, false) else Mc.steps k m.one.1).1.input = m.input
    by_cases ht : m.one.2 = true
    · rw [if_pos ht]
      exact ⟨⟨G, h2 ht⟩, h3, h4⟩
    · rw [if_neg ht]
      by_cases hd : m.one.1.ended = true
      · rw [if_pos hd]
        exact ⟨⟨G, fun h => by rw [hd] at h; cases h⟩, h3, h4⟩
      · rw [if_neg hd]
        obtain ⟨a, b, c⟩ := steps_fit k (h1 (Bool.eq_false_iff.2 ht)) (Bool.eq_false_iff.2 hd)
        exact ⟨a, b.trans h3, c.trans h4⟩
theorem Fit.inv {m : Mc} (F : Fit m) : Inv 1048576 m := ⟨F.good, fun he => by have := F.evs he; omega⟩
theorem step_fit {m : Mc} (F : Fit m) : Fit m.step.1 ∧ m.step.1.codes = m.codes ∧ m.step.1.input = m.input := by
  unfold Mc.step
  by_cases he : m.ended = true
  · rw [if_pos he]; exact ⟨F, rfl, rfl⟩
  · rw [if_neg he]; exact steps_fit _ F.inv (Bool.eq_false_iff.2 he)
theorem Fit.evb {m : Mc} (F : Fit m) : m.events.length + 2 ≤ 4398046511104 := by
  have h1 := F.good.evw
  have h2 := F.good.fuel
  have h3 : m.ticks * 1048577 ≤ 1048576 * 1048577 := Int.mul_le_mul_of_nonneg_right (by omega) (by omega)
  omega
section
variable {Rd : Nat → Prop} {w : World} {o : MHo} {m : Mc}
theorem step_ended (H : MOn Rd w o m) (he : m.ended = true) : Calls Tryd.prog 21 #[o.ptr] w (MPost Rd w o m (.bool false)) := by
  have hu24 := Tryd.underlying24
  have a8 : w.cell? ⟨o.g, 11, none⟩ = some (.bool true) := by rw [blk_cell H.blk 11, ← he]; rfl
  have HH := Aside0.mk H
  clear H he
  show Calls Tryd.prog 21 #[.pointer (some ⟨o.g, 0, none⟩)] w _
  go_enter Tryd.func21, Tryd.ntmps21
  go_wp2_with (fail)
  refine scope_of (fun _ _ _ h_ => h_) ?_
  go_wp2_with ((with_reducible refine wp_label ?_))
  go_ret
  exact ⟨rfl, o, Sub.refl _ _, HH.out, Mod.refl _ _⟩
theorem step_on (H : MOn Rd w o m) (F : Fit m) : Calls Tryd.prog 21 #[o.ptr] w (MPost Rd w o m.step.1 (.bool m.step.2)) := by
  obtain ⟨N, hN⟩ : ∃ N, N = 1048576 := ⟨_, rfl⟩
  have hi := F.inv
  have e : m.step = if m.ended = true then (m, false) else m.steps N := by rw [hN]; rfl
  rw [← hN] at hi
  rw [e]
  by_cases he : m.ended = true
  · rw [if_pos he]; exact step_ended H he
  · rw [if_neg he]; exact step_any road H N hN hi (Bool.eq_false_iff.2 he)
/-- A run to the end, as far as so many steps. -/
def Mc.endP : Nat → Mc → Mc × Bool
  | 0, m => (m, false)
  | k + 1, m => if m.step.2 = true then Mc.endP k m.step.1 else (m.step.1, m.step.1.ended)
theorem endP_fit : ∀ (k : Nat) {m : Mc}, Fit m → Fit (m.endP k).1 ∧ (m.endP k).1.codes = m.codes ∧ (m.endP k).1.input = m.input
  | 0, m, F => ⟨F, rfl, rfl⟩
  | k + 1, m, F => by
    obtain ⟨a, b, c⟩ := step_fit F
    unfold Mc.endP
    by_cases h : m.step.2 = true
    · rw [if_pos h]
      obtain ⟨d, e, f⟩ := endP_fit k a
      exact ⟨d, e.trans b, f.trans c⟩
    · rw [if_neg h]; exact ⟨a, b, c⟩
theorem end_law (H : MOn Rd w o m) (F : Fit m) (most : Nat) (hm : most ≤ 1000000) : Calls Tryd.prog 15 #[o.ptr, .int .i64 most] w (MPost Rd w o (m.endP (most + 1)).1 (.bool (m.endP (most + 1)).2)) := by
  have HH := Aside0.mk H; have HF := Aside0.mk F
  clear H F
  show Calls Tryd.prog 15 #[.pointer (some ⟨o.g, 0, none⟩), .int .i64 most] w _
  go_enter Tryd.func15, Tryd.ntmps15
  go_wp2
  go_loopg [5] (most + 1) (fun gk v5 W => ∃ (x : Nat) (o1 : MHo) (m1 : Mc), v5 = .int .i64 (x : Int) ∧ Aside0 (gk + x = most + 1) ∧ Aside0 (MOn Rd W o1 m1) ∧ Aside0 (Sub w o o1) ∧ Aside0 (Mod (fun k => k ∈ o.own) w W) ∧ Aside0 (Fit m1) ∧ Aside0 (m.endP (most + 1) = m1.endP gk))
  case atStart => exact ⟨0, o, m, rfl, ⟨rfl⟩, HH, ⟨Sub.refl _ _⟩, ⟨Mod.refl _ _⟩, HF, ⟨rfl⟩⟩
  case round =>
    obtain ⟨x, o1, m1, rfl, A1, A2, A3, A4, A5, A6⟩ := hrel
    rcases Nat.eq_zero_or_pos gk with h0 | h0
    · have hx : decide (x ≤ most) = false := decide_eq_false (by have := A1.out; omega)
      have H0 := Aside0.mk h0; clear h0
      go_wp2
      go_ret
      have hz := H0.out; subst hz
      rw [A6.out]
      exact ⟨rfl, o1, A3.out, A2.out, A4.out⟩
    · obtain ⟨gk, rfl⟩ : ∃ j, gk = j + 1 := ⟨gk - 1, by omega⟩
      have hx : x ≤ most := by have := A1.out; omega
      have hxi : (x : Int) ≤ 1000000 := by omega
      have HS : Aside0 (Calls Tryd.prog 21 #[.pointer (some ⟨o.g, 0, none⟩)] wr (MPost Rd wr o1 m1.step.1 (.bool m1.step.2))) := ⟨by
        have h := step_on A2.out A5.out
        rw [MHo.ptr, A3.out.1] at h
        exact h⟩
      have HST := Aside0.mk (step_fit A5.out).1
      have HM : Aside0 (∀ w5, MPost Rd wr o1 m1.step.1 (.bool m1.step.2) (.returned (.bool m1.step.2)) w5 → After Rd w o m1.step.1 w5) := ⟨fun w5 h => (After.of A3.out A4.out h).2⟩
      by_cases ht : m1.step.2 = true
      · rw [ht] at HS HM
        have HT := Aside0.mk ht; clear ht
        go_wp2_with ((with_reducible refine gate_callee (f := 21) rfl ?_); refine goesL_ (some 12) rfl rfl Tryd.func21 (by kernel_rfl) rfl #[.pointer (some ⟨o.g, 0, none⟩)] rfl (by (try simp only [List.map_toArray, List.map_cons, List.map_nil]); first | done | rfl) ?_; refine HS.out.mono ?_; rintro e w5 hp; obtain rfl := hp.1; have AF := Aside0.mk (HM.out w5 hp); clear hp; refine ⟨_, rfl, ?_⟩)
        go_roundg gk
        case measure => omega
        case rel =>
          obtain ⟨o2, hs, hM, hm⟩ := AF.out
          exact ⟨x + 1, o2, m1.step.1, by go_num, ⟨by have := A1.out; omega⟩, ⟨hM⟩, ⟨hs⟩, ⟨hm⟩, HST, ⟨by rw [A6.out]; show (if m1.step.2 = true then Mc.endP gk m1.step.1 else (m1.step.1, m1.step.1.ended)) = _; rw [if_pos HT.out]⟩⟩
      · have ht : m1.step.2 = false := Bool.eq_false_iff.2 ht
        rw [ht] at HS HM
        have HT := Aside0.mk ht; clear ht
        have HEN : Aside0 (∀ w5, After Rd w o m1.step.1 w5 → Calls Tryd.prog 30 #[.pointer (some ⟨o.g, 0, none⟩)] w5 (fun e w6 => e = .returned (.bool m1.step.1.ended) ∧ After Rd w o m1.step.1 w6)) := ⟨by
          rintro w5 ⟨o2, hs, hM, hm⟩
          have h := ended_on hM
          rw [show o2.ptr = .pointer (some ⟨o.g, 0, none⟩) by rw [MHo.ptr, hs.1]] at h
          refine h.mono ?_
          rintro e w6 ⟨rfl, hb⟩
          exact ⟨rfl, o2, hs, hM.below hb, hm.trans (Mod.of_below hb (fun _ => False)) (fun _ _ h => h.elim)⟩⟩
        go_wp2_with (first
          | ((with_reducible refine gate_callee (f := 21) rfl ?_); refine goesL_ (some 12) rfl rfl Tryd.func21 (by kernel_rfl) rfl #[.pointer (some ⟨o.g, 0, none⟩)] rfl (by (try simp only [List.map_toArray, List.map_cons, List.map_nil]); first | done | rfl) ?_; refine HS.out.mono ?_; rintro e w5 hp; obtain rfl := hp.1; have AF := Aside0.mk (HM.out w5 hp); clear hp; refine ⟨_, rfl, ?_⟩)
          | ((with_reducible refine gate_callee (f := 30) rfl ?_); refine goesL_ (some 15) rfl rfl Tryd.func30 (by kernel_rfl) rfl #[.pointer (some ⟨o.g, 0, none⟩)] rfl (by (try simp only [List.map_toArray, List.map_cons, List.map_nil]); first | done | rfl) ?_; refine (HEN.out _ AF.out).mono ?_; rintro e w6 ⟨rfl, AF2⟩; have AF2 := Aside0.mk AF2; refine ⟨_, rfl, ?_⟩))
        go_ret
        rw [A6.out]
        show MPost Rd w o (if m1.step.2 = true then Mc.endP gk m1.step.1 else (m1.step.1, m1.step.1.ended)).1 (.bool (if m1.step.2 = true then Mc.endP gk m1.step.1 else (m1.step.1, m1.step.1.ended)).2) _ _
        rw [if_neg (by rw [HT.out]; decide)]
        exact AF2.out.post
end
end Go.Proofs.YthckiolgpgplpaaDoor
end
section
namespace Go.Proofs.YthckiolgpgplpaaDoor
open Go.RowKit Go.Proofs.YthckiolgpgplpaaDoorW.PrintWords Go.Proofs.YthckiolgpgplpaaDoorW.PrintLast Go.Proofs.YthckiolgpgplpaaDoorW.PrintMore Go.Proofs.YthckiolgpgplpaaDoor.P Go.Proofs.YthckiolgpgplpaaDoor.Q
set_option linter.unusedVariables false
set_option linter.unusedSimpArgs false
/-- One machine at g, of its own from B on. -/
def Solo (g : Nat) (m : Mc) (B : Nat) (w0 w : World) : Prop := ∃ Rd o, o.g = g ∧ MOn Rd w o m ∧ (∀ k, k ∈ o.own → B ≤ k) ∧ Below B w0 w
theorem Solo.below {g : Nat} {m : Mc} {B : Nat} {w0 w w' : World} (S : Solo g m B w0 w) (hB : B ≤ w.heap.size) (hb : Below w.heap.size w w') : Solo g m B w0 w' := by
  obtain ⟨Rd, o, hg, hM, hl, hw⟩ := S
  exact ⟨Rd, o, hg, hM.below hb, hl, hw.trans (hb.mono hB)⟩
theorem Solo.of {g : Nat} {B : Nat} {w0 w w' : World} {Rd : Nat → Prop} {o : MHo} (hg : o.g = g) (hl : ∀ k, k ∈ o.own → B ≤ k) (hw : Below B w0 w) {m' : Mc} {v : Value} {e : Ending} (hB : B ≤ w.heap.size) (hp : MPost Rd w o m' v e w') : e = .returned v ∧ Solo g m' B w0 w' := by
  obtain ⟨he, o', hs, hM, hm⟩ := hp
  refine ⟨he, Rd, o', hs.1.trans hg, hM, fun k hk => ?_, hw.trans (hm.below (a := w) hB (fun k hk => hl k hk))⟩
  rcases hs.2 k hk with h | h
  · exact hl k h
  · omega
theorem Solo.step {g : Nat} {m : Mc} {B : Nat} {w0 w : World} (S : Solo g m B w0 w) (F : Fit m) (hB : B ≤ w0.heap.size) : Calls Tryd.prog 21 #[.pointer (some ⟨g, 0, none⟩)] w (fun e w' => e = .returned (.bool m.step.2) ∧ Solo g m.step.1 B w0 w') := by
  obtain ⟨Rd, o, hg, hM, hl, hw⟩ := S
  have h := step_on hM F
  rw [MHo.ptr, hg] at h
  exact h.mono (fun e w' hp => Solo.of hg hl hw (Nat.le_trans hB hw.size) hp)
theorem Solo.end_ {g : Nat} {m : Mc} {B : Nat} {w0 w : World} (S : Solo g m B w0 w) (F : Fit m) (hB : B ≤ w0.heap.size) (most : Nat) (hm : most ≤ 1000000) : Calls Tryd.prog 15 #[.pointer (some ⟨g, 0, none⟩), .int .i64 most] w (fun e w' => e = .returned (.bool (m.endP (most + 1)).2) ∧ Solo g (m.endP (most + 1)).1 B w0 w') := by
  obtain ⟨Rd, o, hg, hM, hl, hw⟩ := S
  have h := end_law hM F most hm
  rw [MHo.ptr, hg] at h
  exact h.mono (fun e w' hp => Solo.of hg hl hw (Nat.le_trans hB hw.size) hp)
/-- Two. -/
def Duo (g1 : Nat) (m1 : Mc) (g2 : Nat) (m2 : Mc) (B : Nat) (w0 w : World) : Prop :=
  ∃ Rd1 o1 Rd2 o2, o1.g = g1 ∧ o2.g = g2 ∧ MOn Rd1 w o1 m1 ∧ MOn Rd2 w o2 m2 ∧ (∀ k, k ∈ o1.own → B ≤ k) ∧ (∀ k, k ∈ o2.own → B ≤ k) ∧ (∀ k, k ∈ o1.own → k ∉ o2.own ∧ ¬ Rd2 k) ∧ (∀ k, k ∈ o2.own → ¬ Rd1 k) ∧ Below B w0 w
section
variable {g1 g2 : Nat} {m1 m2 : Mc} {B : Nat} {w0 w w' : World}
theorem Duo.swap (D : Duo g1 m1 g2 m2 B w0 w) : Duo g2 m2 g1 m1 B w0 w := by
  obtain ⟨Rd1, o1, Rd2, o2, h1, h2, h3, h4, h5, h6, h7, h8, h9⟩ := D
  exact ⟨Rd2, o2, Rd1, o1, h2, h1, h4, h3, h6, h5, fun k hk => ⟨fun h => (h7 k h).1 hk, h8 k hk⟩, fun k hk => (h7 k hk).2, h9⟩
theorem Duo.below (D : Duo g1 m1 g2 m2 B w0 w) (hB : B ≤ w0.heap.size) (hb : Below w.heap.size w w') : Duo g1 m1 g2 m2 B w0 w' := by
  obtain ⟨Rd1, o1, Rd2, o2, h1, h2, h3, h4, h5, h6, h7, h8, h9⟩ := D
  exact ⟨Rd1, o1, Rd2, o2, h1, h2, h3.below hb, h4.below hb, h5, h6, h7, h8, h9.trans (hb.mono (Nat.le_trans hB h9.size))⟩
theorem Duo.solo (D : Duo g1 m1 g2 m2 B w0 w) : Solo g1 m1 B w0 w := by
  obtain ⟨Rd1, o1, Rd2, o2, h1, h2, h3, h4, h5, h6, h7, h8, h9⟩ := D
  exact ⟨Rd1, o1, h1, h3, h5, h9⟩
theorem Duo.step (D : Duo g1 m1 g2 m2 B w0 w) (F : Fit m1) (hB : B ≤ w0.heap.size) : Calls Tryd.prog 21 #[.pointer (some ⟨g1, 0, none⟩)] w (fun e w' => e = .returned (.bool m1.step.2) ∧ Duo g1 m1.step.1 g2 m2 B w0 w') := by
  obtain ⟨Rd1, o1, Rd2, o2, h1, h2, h3, h4, h5, h6, h7, h8, h9⟩ := D
  have h := step_on h3 F
  rw [MHo.ptr, h1] at h
  refine h.mono ?_
  rintro e w' ⟨rfl, o', hs, hM, hm⟩
  have hsz := Nat.le_trans hB h9.size
  have hnew : ∀ k, k ∈ o'.own → k ∈ o1.own ∨ w.heap.size ≤ k := hs.2
  refine ⟨rfl, Rd1, o', Rd2, o2, hs.1.trans h1, h2, hM, h4.mod hm (fun k hk hk1 => ?_), fun k hk => ?_, h6, fun k hk => ?_, h8, h9.trans (hm.below (a := w) hsz (fun k hk => h5 k hk))⟩
  · rcases hk with hk | hk
    · exact (h7 k hk1).1 hk
    · exact (h7 k hk1).2 hk
  · rcases hnew k hk with h | h
    · exact h5 k h
    · omega
  · rcases hnew k hk with h | h
    · exact h7 k h
    · exact ⟨fun h' => by have := h4.lt k h'; omega, fun h' => by have := h4.low k h'; omega⟩
end
/-! Codes that are written down. -/
def insCells (x : S43) : List Value := [.int .i64 x.f0, .int .i64 x.f1, .int .i64 x.f2]
theorem reps_ins_from (w : World) : ∀ (l pre : List S43) (cs : List Value), Reps (k43.K w) 3 pre cs → Reps (k43.K w) 3 (pre ++ l) (cs ++ l.flatMap insCells)
  | [], pre, cs, h => by simpa using h
  | x :: l, pre, cs, h => by
    have := reps_ins_from w l (pre ++ [x]) (cs ++ insCells x) (h.snoc (k43_mk w x) rfl)
    simpa [List.append_assoc] using this
theorem reps_ins (w : World) (l : List S43) : Reps (k43.K w) 3 l (l.flatMap insCells) := reps_ins_from w l [] [] (Reps.none _ _)
theorem ins_row {w : World} {g : Nat} {t : TypeId} {l : List S43} (h : w.heap[g]? = some (.cells (l.flatMap insCells).toArray t (0, 0))) (hl : l.length ≤ 1000000) : Kd.C k43 w (some ⟨g, 0, none⟩) l.length l := by
  have hlen : (l.flatMap insCells).length = l.length * 3 := (reps_ins w l).1
  have ho : w.ownsRow 0 t 3 (.slice (some ⟨g, 0, none⟩) l.length l.length) l.length (l.flatMap insCells) := ⟨hlen, .inr ⟨g, l.length, _, rfl, Nat.zero_le _, h, Nat.le_refl _, by simp only [maxLen]; omega, by simpa using hlen, by rw [← hlen]; exact List.take_length⟩⟩
  obtain ⟨A, c, e, hr⟩ := own_reads_row ho (reps_ins w l) rfl
  obtain rfl := (Value.slice.inj e).1
  exact hr
theorem cod_row {w : World} {g : Nat} {t : TypeId} {l : List S46} {cs : List Value} (hr : Reps (k46.K w) 4 l cs) (h : w.heap[g]? = some (.cells cs.toArray t (0, 0))) (hl : l.length ≤ 1000000) : Kd.C k46 w (some ⟨g, 0, none⟩) l.length l := by
  have ho : w.ownsRow 0 t 4 (.slice (some ⟨g, 0, none⟩) l.length l.length) l.length cs := ⟨hr.1, .inr ⟨g, l.length, _, rfl, Nat.zero_le _, h, Nat.le_refl _, by simp only [maxLen]; omega, by simpa using hr.1, by rw [← hr.1]; exact List.take_length⟩⟩
  obtain ⟨A, c, e, hr⟩ := own_reads_row ho hr rfl
  obtain rfl := (Value.slice.inj e).1
  exact hr
end Go.Proofs.YthckiolgpgplpaaDoor
end
section
namespace Go.Proofs.YthckiolgpgplpaaDoor
open Go.RowKit Go.Proofs.YthckiolgpgplpaaDoorW.PrintWords Go.Proofs.YthckiolgpgplpaaDoorW.PrintLast Go.Proofs.YthckiolgpgplpaaDoorW.PrintMore Go.Proofs.YthckiolgpgplpaaDoor.P Go.Proofs.YthckiolgpgplpaaDoor.Q
set_option linter.unusedVariables false
set_option linter.unusedSimpArgs false
set_option maxRecDepth 1000000
set_option maxHeartbeats 2000000
def dF : List S43 := [⟨24, 0, 1⟩, ⟨2, 0, 0⟩, ⟨18, 7, 0⟩, ⟨2, 0, 0⟩, ⟨1, 1, 0⟩, ⟨8, 0, 0⟩, ⟨19, 1, 1⟩, ⟨20, 0, 0⟩]
def dM (n : Int) : List S43 := [⟨1, n, 0⟩, ⟨19, 1, 1⟩, ⟨24, 1, 3⟩, ⟨20, 0, 0⟩]
def dCod (n : Int) : List S46 := [⟨dM n, 0, 0, false⟩, ⟨dF, 1, 1, false⟩]
def dm (n : Int) : Mc := (mc0 (dCod n) [] 1000).beginM 0 []
def dEnd (n : Int) : Mc := ((dm n).endP 1001).1
def dchk (n : Nat) : Bool := (code_Sound.f 60 (dCod n) 0 == some true) && ((dm n).endP 1001).2 && (if n + 2 > 50 then decide ((dEnd n).events = [(4, 4)]) && decide ((dEnd n).frames.length = 50) && decide ((dEnd n).ticks = 49) else decide ((dEnd n).events = [(3, 0)]) && decide ((dEnd n).ticks = (n : Int) + 2))
end Go.Proofs.YthckiolgpgplpaaDoor
end
section
namespace Go.Proofs.YthckiolgpgplpaaDoor
open Go.RowKit Go.Proofs.YthckiolgpgplpaaDoorW.PrintWords Go.Proofs.YthckiolgpgplpaaDoorW.PrintLast Go.Proofs.YthckiolgpgplpaaDoorW.PrintMore Go.Proofs.YthckiolgpgplpaaDoor.P Go.Proofs.YthckiolgpgplpaaDoor.Q
set_option linter.unusedVariables false
set_option linter.unusedSimpArgs false
set_option maxRecDepth 1000000
set_option maxHeartbeats 2000000
theorem dAll0 : dchk 0 = true ∧ dchk 1 = true ∧ dchk 2 = true ∧ dchk 3 = true := by refine ⟨?_, ?_, ?_, ?_⟩ <;> kernel_rfl
theorem dAll4 : dchk 4 = true ∧ dchk 5 = true ∧ dchk 6 = true ∧ dchk 7 = true := by refine ⟨?_, ?_, ?_, ?_⟩ <;> kernel_rfl
theorem dAll8 : dchk 8 = true ∧ dchk 9 = true ∧ dchk 10 = true ∧ dchk 11 = true := by refine ⟨?_, ?_, ?_, ?_⟩ <;> kernel_rfl
theorem dAll12 : dchk 12 = true ∧ dchk 13 = true ∧ dchk 14 = true ∧ dchk 15 = true := by refine ⟨?_, ?_, ?_, ?_⟩ <;> kernel_rfl
theorem dAll16 : dchk 16 = true ∧ dchk 17 = true ∧ dchk 18 = true ∧ dchk 19 = true := by refine ⟨?_, ?_, ?_, ?_⟩ <;> kernel_rfl
theorem dAll20 : dchk 20 = true ∧ dchk 21 = true ∧ dchk 22 = true ∧ dchk 23 = true := by refine ⟨?_, ?_, ?_, ?_⟩ <;> kernel_rfl
theorem dAll24 : dchk 24 = true ∧ dchk 25 = true ∧ dchk 26 = true ∧ dchk 27 = true := by refine ⟨?_, ?_, ?_, ?_⟩ <;> kernel_rfl
theorem dAll28 : dchk 28 = true ∧ dchk 29 = true ∧ dchk 30 = true ∧ dchk 31 = true := by refine ⟨?_, ?_, ?_, ?_⟩ <;> kernel_rfl
theorem dAll32 : dchk 32 = true ∧ dchk 33 = true ∧ dchk 34 = true ∧ dchk 35 = true := by refine ⟨?_, ?_, ?_, ?_⟩ <;> kernel_rfl
theorem dAll36 : dchk 36 = true ∧ dchk 37 = true ∧ dchk 38 = true ∧ dchk 39 = true := by refine ⟨?_, ?_, ?_, ?_⟩ <;> kernel_rfl
end Go.Proofs.YthckiolgpgplpaaDoor
end
section
namespace Go.Proofs.YthckiolgpgplpaaDoor
open Go.RowKit Go.Proofs.YthckiolgpgplpaaDoorW.PrintWords Go.Proofs.YthckiolgpgplpaaDoorW.PrintLast Go.Proofs.YthckiolgpgplpaaDoorW.PrintMore Go.Proofs.YthckiolgpgplpaaDoor.P Go.Proofs.YthckiolgpgplpaaDoor.Q
set_option linter.unusedVariables false
set_option linter.unusedSimpArgs false
set_option maxRecDepth 1000000
set_option maxHeartbeats 2000000
theorem dAll40 : dchk 40 = true ∧ dchk 41 = true ∧ dchk 42 = true ∧ dchk 43 = true := by refine ⟨?_, ?_, ?_, ?_⟩ <;> kernel_rfl
theorem dAll44 : dchk 44 = true ∧ dchk 45 = true ∧ dchk 46 = true ∧ dchk 47 = true := by refine ⟨?_, ?_, ?_, ?_⟩ <;> kernel_rfl
theorem dAll48 : dchk 48 = true ∧ dchk 49 = true ∧ dchk 50 = true ∧ dchk 51 = true := by refine ⟨?_, ?_, ?_, ?_⟩ <;> kernel_rfl
theorem dAll52 : dchk 52 = true ∧ dchk 53 = true ∧ dchk 54 = true ∧ dchk 55 = true := by refine ⟨?_, ?_, ?_, ?_⟩ <;> kernel_rfl
theorem dAll56 : dchk 56 = true ∧ dchk 57 = true ∧ dchk 58 = true ∧ dchk 59 = true := by refine ⟨?_, ?_, ?_, ?_⟩ <;> kernel_rfl
theorem dAll60 : dchk 60 = true ∧ dchk 61 = true ∧ dchk 62 = true ∧ dchk 63 = true := by refine ⟨?_, ?_, ?_, ?_⟩ <;> kernel_rfl
theorem dAll64 : dchk 64 = true ∧ dchk 65 = true ∧ dchk 66 = true ∧ dchk 67 = true := by refine ⟨?_, ?_, ?_, ?_⟩ <;> kernel_rfl
theorem dAll68 : dchk 68 = true ∧ dchk 69 = true := by refine ⟨?_, ?_⟩ <;> kernel_rfl
end Go.Proofs.YthckiolgpgplpaaDoor
end
section
namespace Go.Proofs.YthckiolgpgplpaaDoor
open Go.RowKit Go.Proofs.YthckiolgpgplpaaDoorW.PrintWords Go.Proofs.YthckiolgpgplpaaDoorW.PrintLast Go.Proofs.YthckiolgpgplpaaDoorW.PrintMore Go.Proofs.YthckiolgpgplpaaDoor.P Go.Proofs.YthckiolgpgplpaaDoor.Q
set_option linter.unusedVariables false
set_option linter.unusedSimpArgs false
set_option maxRecDepth 1000000
set_option maxHeartbeats 1000000
theorem sound_of {l : List S46} (hf : FitC l) {main : Int} {k : Nat} (h : code_Sound.f k l main = some true) : SoundP l main := by
  obtain ⟨r, hr, hi⟩ := Sound_ok l hf main
  obtain ⟨K, hK⟩ := hr
  have h1 := hK (max K k) (Nat.le_max_left _ _)
  have h2 := at_rounds (g := fun k => code_Sound.f k l main) (fun k => code_Sound.mono l main k) (Nat.le_max_right K k) h
  have : r = true := by
    have := h1.symm.trans h2
    exact Option.some.inj this
  exact hi.1 this
theorem fit_new {l : List S46} {main : Int} (hS : SoundP l main) {input : List Int} (hi : input.length ≤ 1000) {fuel : Int} (h0 : 0 ≤ fuel) (h1 : fuel ≤ 1048576) : Fit ((mc0 l input fuel).beginM main []) := by
  have a := hS.1
  have hz := rr_zero hS a.2.2.1 a.2.2.2.1
  obtain ⟨hs, _⟩ := hz
  obtain ⟨t1, t2, t3, t4, t5, t6, t7⟩ := hs.1
  refine ⟨⟨⟨main, hS⟩, fun _ => ⟨⟨a.2.2.1, a.2.2.2.1, ?_, 0, rfl, rr_zero hS a.2.2.1 a.2.2.2.1⟩, trivial⟩, (fun _ h => by cases h), fun _ => by show (1 : Nat) ≤ 50; decide, ⟨h0, Int.le_refl _, by show fuel + 0 ≤ 1048576; omega⟩, Nat.zero_le _, hi, by show ((0 : Nat) : Int) ≤ 0 * 1048577 + 1048577; decide⟩, fun _ => by show ((0 : Nat) : Int) ≤ 0 * 1048577; decide⟩
  show ((([] : List Int) ++ List.replicate ((rdC l main).f1.toNat - ([] : List Int).length) 0).length : Int) = (rdC l main).f1
  simp
  omega
section
variable (w : World) (A0 A2 : Option Addr) (c0 c2 : Nat) (l : List S46) (input : List Int) (main fuel : Int)
theorem new_solo (hl : Kd.C k46 w A0 l.length l) (hc : l.length ≤ c0) (hLd : Laid w) (k : Nat) (h : code_Sound.f k l main = some true) (hf : FitC l) (hin : Kd.C (Kd.int .i64) w A2 input.length input) (hc2 : input.length ≤ c2) (hf0 : 0 ≤ fuel) (hf1 : fuel ≤ 1048576) (hi1 : input.length ≤ 1000) :
    Calls Tryd.prog 12 #[.slice A0 l.length c0, .int .i64 main, .slice A2 input.length c2, .int .i64 fuel] w fun e w' => ∃ g, e = .returned (.tuple #[.pointer (some ⟨g, 0, none⟩), .int .i64 0]) ∧ Solo g ((mc0 l input fuel).beginM main []) w.heap.size w w' := by
  have hS := sound_of hf h
  have a := hS.1
  obtain ⟨hs, _⟩ := rr_zero hS a.2.2.1 a.2.2.2.1
  obtain ⟨t1, t2, t3, t4, t5, t6, t7⟩ := hs.1
  have hins : ∀ x ∈ l, x.f0.length ≤ 65536 := fun x hx => by
    obtain ⟨i, hi, rfl⟩ := List.getElem_of_mem hx
    obtain ⟨hs, _⟩ := rr_zero hS (k := (i : Int)) (by omega) (by omega)
    have := hs.1.2.1
    rw [rdC_at l i hi] at this
    exact this
  refine (new_ok w A0 A2 c0 c2 l input main fuel hl hc hLd k h hin hc2 hf0 hf1 hi1 a.2.1 hins a.2.2.1 a.2.2.2.1 ⟨t3, t4⟩).mono ?_
  rintro e w' ⟨Rd, o, rfl, hM, hlow, hb⟩
  exact ⟨o.g, rfl, Rd, o, rfl, hM, fun k hk => hlow k (.inr hk), hb⟩
theorem new_duo {g1 : Nat} {m1 : Mc} {B : Nat} {w0 : World} (S : Solo g1 m1 B w0 w) (hB : B ≤ w0.heap.size) (hl : Kd.C k46 w A0 l.length l) (hc : l.length ≤ c0) (hLd : Laid w) (k : Nat) (h : code_Sound.f k l main = some true) (hf : FitC l) (hin : Kd.C (Kd.int .i64) w A2 input.length input) (hc2 : input.length ≤ c2) (hf0 : 0 ≤ fuel) (hf1 : fuel ≤ 1048576) (hi1 : input.length ≤ 1000) :
    Calls Tryd.prog 12 #[.slice A0 l.length c0, .int .i64 main, .slice A2 input.length c2, .int .i64 fuel] w fun e w' => ∃ g, e = .returned (.tuple #[.pointer (some ⟨g, 0, none⟩), .int .i64 0]) ∧ Duo g1 m1 g ((mc0 l input fuel).beginM main []) B w0 w' := by
  have hS := sound_of hf h
  have a := hS.1
  obtain ⟨hs, _⟩ := rr_zero hS a.2.2.1 a.2.2.2.1
  obtain ⟨t1, t2, t3, t4, t5, t6, t7⟩ := hs.1
  have hins : ∀ x ∈ l, x.f0.length ≤ 65536 := fun x hx => by
    obtain ⟨i, hi, rfl⟩ := List.getElem_of_mem hx
    obtain ⟨hs, _⟩ := rr_zero hS (k := (i : Int)) (by omega) (by omega)
    have := hs.1.2.1
    rw [rdC_at l i hi] at this
    exact this
  refine (new_ok w A0 A2 c0 c2 l input main fuel hl hc hLd k h hin hc2 hf0 hf1 hi1 a.2.1 hins a.2.2.1 a.2.2.2.1 ⟨t3, t4⟩).mono ?_
  rintro e w' ⟨Rd, o, rfl, hM, hlow, hb⟩
  obtain ⟨Rd1, o1, hg1, hM1, hl1, hw1⟩ := S
  have hBw := Nat.le_trans hB hw1.size
  exact ⟨o.g, rfl, Rd1, o1, Rd, o, hg1, rfl, hM1.below hb, hM, hl1, fun k hk => Nat.le_trans hBw (hlow k (.inr hk)),
    fun k hk => ⟨fun h => by have := hM1.lt k hk; have := hlow k (.inr h); omega, fun h => by have := hM1.lt k hk; have := hlow k (.inl h); omega⟩, fun k hk h => by have := hM1.low k h; have := hlow k (.inr hk); omega, hw1.trans (hb.mono hBw)⟩
end
def kIns : List S43 := [⟨24, 0, 1⟩, ⟨1, 5, 0⟩, ⟨21, 0, 0⟩, ⟨24, 1, 3⟩, ⟨20, 0, 0⟩]
def kCod : List S46 := [⟨kIns, 0, 0, false⟩]
theorem kSound : code_Sound.f 60 kCod 0 = some true := by kernel_rfl
def km (fuel : Int) : Mc := (mc0 kCod [] fuel).beginM 0 []
theorem km9 : (km 9).step.2 = true ∧ (km 9).step.1.step.2 = true ∧ (km 9).step.1.step.1.step.2 = false ∧ (km 9).step.1.step.1.step.1.ticks = 2 ∧ (km 9).step.1.step.1.step.1.events = [(1, 5), (3, 0)] ∧ (km 9).step.1.step.1.step.1.ended = true ∧ (km 9).step.1.step.1.step.1.frames.length = 0 := by
  refine ⟨?_, ?_, ?_, ?_, ?_, ?_, ?_⟩ <;> kernel_rfl
theorem km1 : (km 1).step.2 = true ∧ (km 1).step.1.step.2 = false ∧ (km 1).step.1.step.1.events = [(1, 5), (5, 0)] ∧ (km 1).step.1.step.1.frames.length = 1 := by
  refine ⟨?_, ?_, ?_, ?_⟩ <;> kernel_rfl
end Go.Proofs.YthckiolgpgplpaaDoor
end
section
namespace Go.Proofs.YthckiolgpgplpaaDoor
open Go.RowKit Go.Proofs.YthckiolgpgplpaaDoorW.PrintWords Go.Proofs.YthckiolgpgplpaaDoorW.PrintLast Go.Proofs.YthckiolgpgplpaaDoorW.PrintMore Go.Proofs.YthckiolgpgplpaaDoor.P Go.Proofs.YthckiolgpgplpaaDoor.Q
set_option linter.unusedVariables false
set_option linter.unusedSimpArgs false
set_option maxRecDepth 1000000
set_option maxHeartbeats 2000000
section
variable {g g1 g2 : Nat} {m m1 m2 : Mc} {B : Nat} {w0 w w' : World}
theorem Solo.ticks (S : Solo g m B w0 w) : Calls Tryd.prog 18 #[.pointer (some ⟨g, 0, none⟩)] w fun e w' => e = .returned (.int .i64 m.ticks) ∧ Below w.heap.size w w' := by
  obtain ⟨Rd, o, hg, hM, _⟩ := S
  have h := ticks_on hM; rw [MHo.ptr, hg] at h; exact h
theorem Solo.ended (S : Solo g m B w0 w) : Calls Tryd.prog 30 #[.pointer (some ⟨g, 0, none⟩)] w fun e w' => e = .returned (.bool m.ended) ∧ Below w.heap.size w w' := by
  obtain ⟨Rd, o, hg, hM, _⟩ := S
  have h := ended_on hM; rw [MHo.ptr, hg] at h; exact h
theorem Solo.frames (S : Solo g m B w0 w) : Calls Tryd.prog 20 #[.pointer (some ⟨g, 0, none⟩)] w fun e w' => e = .returned (.int .i64 (m.frames.length : Nat)) ∧ Below w.heap.size w w' := by
  obtain ⟨Rd, o, hg, hM, _⟩ := S
  have h := frames_on hM; rw [MHo.ptr, hg] at h; exact h
theorem Solo.count (S : Solo g m B w0 w) : Calls Tryd.prog 22 #[.pointer (some ⟨g, 0, none⟩)] w fun e w' => e = .returned (.int .i64 (m.events.length : Nat)) ∧ Below w.heap.size w w' := by
  obtain ⟨Rd, o, hg, hM, _⟩ := S
  have h := count_on hM; rw [MHo.ptr, hg] at h; exact h
theorem Solo.events (S : Solo g m B w0 w) (hl : m.events.length ≤ 4398046511104) : Calls Tryd.prog 16 #[.pointer (some ⟨g, 0, none⟩)] w fun e w' => ∃ v1, e = .returned v1 ∧ w'.ownsRow 0 38 2 v1 m.events.length (evs m.events) ∧ Below w.heap.size w w' := by
  obtain ⟨Rd, o, hg, hM, _⟩ := S
  have h := events_on hM hl; rw [MHo.ptr, hg] at h
  exact h.mono (fun e w' ⟨v1, a, b, _, c⟩ => ⟨v1, a, b, c⟩)
end
/-- A row of events that is read: its value, its cells. -/
theorem two_events {w : World} {v : Value} {a b c d : Int} (h : w.ownsRow 0 38 2 v 2 (evs [(a, b), (c, d)])) : ∃ k cap, v = .slice (some ⟨k, 0, none⟩) 2 cap ∧ k < w.heap.size ∧ w.cell? ⟨k, 0, none⟩ = some (.int .i64 a) ∧ w.cell? ⟨k, 1, none⟩ = some (.int .i64 b) ∧ w.cell? ⟨k, 2, none⟩ = some (.int .i64 c) ∧ w.cell? ⟨k, 3, none⟩ = some (.int .i64 d) := by
  rcases h.2 with ⟨_, h0⟩ | ⟨k, cap, cur, rfl, _, hh, _⟩
  · cases h0
  · refine ⟨k, cap, rfl, blk_lt hh, ?_, ?_, ?_, ?_⟩
    · simpa [Addr.add] using h.cells (g := k) rfl 0 (.int .i64 a) rfl
    · simpa [Addr.add] using h.cells (g := k) rfl 1 (.int .i64 b) rfl
    · simpa [Addr.add] using h.cells (g := k) rfl 2 (.int .i64 c) rfl
    · simpa [Addr.add] using h.cells (g := k) rfl 3 (.int .i64 d) rfl
theorem kFit (fuel : Int) (h0 : 0 ≤ fuel) (h1 : fuel ≤ 1048576) : Fit (km fuel) := fit_new (sound_of (by
  intro x hx y hy
  have : x = ⟨kIns, 0, 0, false⟩ := by simpa [kCod] using hx
  subst this
  have : ∀ y ∈ kIns, (Lit.int .i64 y.f0).wf = true ∧ ((Lit.int .i64 y.f1).wf = true ∧ (Lit.int .i64 y.f2).wf = true) := by decide
  exact this y hy) kSound) (by simp) h0 h1
theorem kFitC : FitC kCod := by
  intro x hx y hy
  have : x = ⟨kIns, 0, 0, false⟩ := by simpa [kCod] using hx
  subst this
  have : ∀ y ∈ kIns, (Lit.int .i64 y.f0).wf = true ∧ ((Lit.int .i64 y.f1).wf = true ∧ (Lit.int .i64 y.f2).wf = true) := by decide
  exact this y hy
theorem known_law (w : World) (hLd : Laid w) : Calls Tryd.prog 11 #[] w fun e w' => e = .returned (.bool true) ∧ Below w.heap.size w w' := by
  obtain ⟨W, hW⟩ : ∃ W, W = (w.alloc (.cells #[.int .i64 24, .int .i64 0, .int .i64 1, .int .i64 1, .int .i64 5, .int .i64 0, .int .i64 21, .int .i64 0, .int .i64 0, .int .i64 24, .int .i64 1, .int .i64 3, .int .i64 20, .int .i64 0, .int .i64 0] 43)).alloc (.cells #[.slice (some ⟨w.heap.size, 0, none⟩) 5 5, .int .i64 0, .int .i64 0, .bool false] 46) := ⟨_, rfl⟩
  have hbW : Below w.heap.size w W := by rw [hW]; exact below_alloc (below_alloc (Below.refl _ _) _) _
  have hr : Kd.C k43 W (some ⟨w.heap.size, 0, none⟩) kIns.length kIns := ins_row (t := 43) (by rw [hW]; exact blk_alloc (blk_new w _) _) (by decide)
  have hC : Kd.C k46 W (some ⟨w.heap.size + 1, 0, none⟩) kCod.length kCod := by
    refine cod_row (t := 46) (cs := [.slice (some ⟨w.heap.size, 0, none⟩) 5 5, .int .i64 0, .int .i64 0, .bool false]) ((Reps.none _ _).snoc (p := (⟨kIns, 0, 0, false⟩ : S46)) (k46_mk W ⟨kIns, 0, 0, false⟩ (c0 := 5) (by decide) hr) rfl) ?_ (by decide)
    rw [hW]
    have := blk_new (w.alloc (.cells #[.int .i64 24, .int .i64 0, .int .i64 1, .int .i64 1, .int .i64 5, .int .i64 0, .int .i64 21, .int .i64 0, .int .i64 0, .int .i64 24, .int .i64 1, .int .i64 3, .int .i64 20, .int .i64 0, .int .i64 0] 43)) (.cells #[.slice (some ⟨w.heap.size, 0, none⟩) 5 5, .int .i64 0, .int .i64 0, .bool false] 46)
    rwa [show (w.alloc (.cells #[.int .i64 24, .int .i64 0, .int .i64 1, .int .i64 1, .int .i64 5, .int .i64 0, .int .i64 21, .int .i64 0, .int .i64 0, .int .i64 24, .int .i64 1, .int .i64 3, .int .i64 20, .int .i64 0, .int .i64 0] 43)).heap.size = w.heap.size + 1 by simp] at this
  have hLW := hLd.below hbW
  have hnil : ∀ X : World, Kd.C (Kd.int .i64) X none ([] : List Int).length [] := fun X => Kd.C_nil _ X
  have HN1 : Aside0 (Calls Tryd.prog 12 #[.slice (some ⟨w.heap.size + 1, 0, none⟩) 1 1, .int .i64 0, .slice none 0 0, .int .i64 9] W (fun e w1 => ∃ g, e = .returned (.tuple #[.pointer (some ⟨g, 0, none⟩), .int .i64 0]) ∧ Solo g (km 9) W.heap.size W w1)) := ⟨new_solo W _ none 1 0 kCod [] 0 9 hC (Nat.le_refl _) hLW 60 kSound kFitC (hnil W) (Nat.le_refl _) (by decide) (by decide) (by decide)⟩
  have HN2 : Aside0 (∀ w1 g, Solo g (km 9) W.heap.size W w1 → Calls Tryd.prog 12 #[.slice (some ⟨w.heap.size + 1, 0, none⟩) 1 1, .int .i64 0, .slice none 0 0, .int .i64 1] w1 (fun e w2 => ∃ g2, e = .returned (.tuple #[.pointer (some ⟨g2, 0, none⟩), .int .i64 0]) ∧ Duo g (km 9) g2 (km 1) W.heap.size W w2)) := ⟨fun w1 g S => by
    obtain ⟨_, _, _, _, _, hb⟩ := id S
    exact new_duo w1 _ none 1 0 kCod [] 0 1 S (Nat.le_refl _) (Kd.C_below hC hb) (Nat.le_refl _) (hLW.below hb) 60 kSound kFitC (hnil w1) (Nat.le_refl _) (by decide) (by decide) (by decide)⟩
  have HBW := Aside0.mk hbW
  have HN1 : Aside0 (Calls Tryd.prog 12 #[.slice (some ⟨w.heap.size + 1, 0, none⟩) 1 1, .int .i64 0, .slice none 0 0, .int .i64 9] ((w.alloc (.cells #[.int .i64 24, .int .i64 0, .int .i64 1, .int .i64 1, .int .i64 5, .int .i64 0, .int .i64 21, .int .i64 0, .int .i64 0, .int .i64 24, .int .i64 1, .int .i64 3, .int .i64 20, .int .i64 0, .int .i64 0] 43)).alloc (.cells #[.slice (some ⟨w.heap.size, 0, none⟩) 5 5, .int .i64 0, .int .i64 0, .bool false] 46)) (fun e w1 => ∃ g, e = .returned (.tuple #[.pointer (some ⟨g, 0, none⟩), .int .i64 0]) ∧ Solo g (km 9) W.heap.size W w1)) := ⟨by rw [← hW]; exact HN1.out⟩
  clear hLd hbW hr hC hLW hnil
  have HWW := Aside0.mk hW; clear hW
  go_enter Tryd.func11, Tryd.ntmps11
  go_wp2_with (first
    | ((with_reducible refine gate_callee (f := 12) rfl ?_); (try (refine gate_guard (by rfl) ?_; dsimp only)); refine goesL_ (some 18) rfl rfl Tryd.func12 (by kernel_rfl) rfl #[.slice (some ⟨w.heap.size + 1, 0, none⟩) 1 1, .int .i64 0, .slice none 0 0, .int .i64 9] rfl (by (try simp only [List.map_toArray, List.map_cons, List.map_nil]); first | done | rfl) ?_; (with_reducible refine (HN1.out).mono ?_); rintro e w1 ⟨gm, rfl, S1⟩; have HN2 := Aside0.mk (HN2.out w1 gm S1); clear S1; refine ⟨_, rfl, ?_⟩)
    | ((with_reducible refine gate_callee (f := 12) rfl ?_); (try (refine gate_guard (by rfl) ?_; dsimp only)); refine goesL_ (some 23) rfl rfl Tryd.func12 (by kernel_rfl) rfl #[.slice (some ⟨w.heap.size + 1, 0, none⟩) 1 1, .int .i64 0, .slice none 0 0, .int .i64 1] rfl (by (try simp only [List.map_toArray, List.map_cons, List.map_nil]); first | done | rfl) ?_; (with_reducible refine (HN2.out).mono ?_); rintro e w2 ⟨gn, rfl, D0⟩; have H1 : Aside0 (Calls Tryd.prog 21 #[.pointer (some ⟨gm, 0, none⟩)] _ (fun e w' => e = .returned (.bool true) ∧ Duo gm (km 9).step.1 gn (km 1) W.heap.size W w')) := ⟨by have h := D0.step (kFit 9 (by decide) (by decide)) (Nat.le_refl _); rw [km9.1] at h; exact h⟩; clear D0; refine ⟨_, rfl, ?_⟩)
    | ((with_reducible refine gate_callee (f := 21) rfl ?_); (try (refine gate_guard (by rfl) ?_; dsimp only)); refine goesL_ (some 34) rfl rfl Tryd.func21 (by kernel_rfl) rfl #[.pointer (some ⟨gm, 0, none⟩)] rfl (by (try simp only [List.map_toArray, List.map_cons, List.map_nil]); first | done | rfl) ?_; (with_reducible refine (H1.out).mono ?_); rintro e w3 ⟨rfl, D1⟩; have H2 : Aside0 (Calls Tryd.prog 21 #[.pointer (some ⟨gm, 0, none⟩)] _ (fun e w' => e = .returned (.bool true) ∧ Duo gm (km 9).step.1.step.1 gn (km 1) W.heap.size W w')) := ⟨by have h := D1.step (step_fit (kFit 9 (by decide) (by decide))).1 (Nat.le_refl _); rw [km9.2.1] at h; exact h⟩; clear D1; refine ⟨_, rfl, ?_⟩)
    | ((with_reducible refine gate_callee (f := 21) rfl ?_); (try (refine gate_guard (by rfl) ?_; dsimp only)); refine goesL_ (some 39) rfl rfl Tryd.func21 (by kernel_rfl) rfl #[.pointer (some ⟨gm, 0, none⟩)] rfl (by (try simp only [List.map_toArray, List.map_cons, List.map_nil]); first | done | rfl) ?_; (with_reducible refine (H2.out).mono ?_); rintro e w4 ⟨rfl, D2⟩; have H3 : Aside0 (Calls Tryd.prog 21 #[.pointer (some ⟨gm, 0, none⟩)] _ (fun e w' => e = .returned (.bool false) ∧ Duo gm (km 9).step.1.step.1.step.1 gn (km 1) W.heap.size W w')) := ⟨by have h := D2.step (step_fit (step_fit (kFit 9 (by decide) (by decide))).1).1 (Nat.le_refl _); rw [km9.2.2.1] at h; exact h⟩; clear D2; refine ⟨_, rfl, ?_⟩)
    | ((with_reducible refine gate_callee (f := 21) rfl ?_); (try (refine gate_guard (by rfl) ?_; dsimp only)); refine goesL_ (some 44) rfl rfl Tryd.func21 (by kernel_rfl) rfl #[.pointer (some ⟨gm, 0, none⟩)] rfl (by (try simp only [List.map_toArray, List.map_cons, List.map_nil]); first | done | rfl) ?_; (with_reducible refine (H3.out).mono ?_); rintro e w5 ⟨rfl, D3⟩; have H4 : Aside0 (Calls Tryd.prog 21 #[.pointer (some ⟨gn, 0, none⟩)] _ (fun e w' => e = .returned (.bool true) ∧ Duo gn (km 1).step.1 gm (km 9).step.1.step.1.step.1 W.heap.size W w')) := ⟨by have h := D3.swap.step (kFit 1 (by decide) (by decide)) (Nat.le_refl _); rw [km1.1] at h; exact h⟩; clear D3; refine ⟨_, rfl, ?_⟩)
    | ((with_reducible refine gate_callee (f := 21) rfl ?_); (try (refine gate_guard (by rfl) ?_; dsimp only)); refine goesL_ (some 48) rfl rfl Tryd.func21 (by kernel_rfl) rfl #[.pointer (some ⟨gn, 0, none⟩)] rfl (by (try simp only [List.map_toArray, List.map_cons, List.map_nil]); first | done | rfl) ?_; (with_reducible refine (H4.out).mono ?_); rintro e w6 ⟨rfl, D4⟩; have H5 : Aside0 (Calls Tryd.prog 21 #[.pointer (some ⟨gn, 0, none⟩)] _ (fun e w' => e = .returned (.bool false) ∧ Duo gn (km 1).step.1.step.1 gm (km 9).step.1.step.1.step.1 W.heap.size W w')) := ⟨by have h := D4.step (step_fit (kFit 1 (by decide) (by decide))).1 (Nat.le_refl _); rw [km1.2.1] at h; exact h⟩; clear D4; refine ⟨_, rfl, ?_⟩)
    | ((with_reducible refine gate_callee (f := 21) rfl ?_); (try (refine gate_guard (by rfl) ?_; dsimp only)); refine goesL_ (some 53) rfl rfl Tryd.func21 (by kernel_rfl) rfl #[.pointer (some ⟨gn, 0, none⟩)] rfl (by (try simp only [List.map_toArray, List.map_cons, List.map_nil]); first | done | rfl) ?_; (with_reducible refine (H5.out).mono ?_); rintro e w7 ⟨rfl, D5⟩; have H6 := Aside0.mk (D5.swap.solo.events (Nat.le_of_succ_le (Nat.le_of_succ_le (step_fit (step_fit (step_fit (kFit 9 (by decide) (by decide))).1).1).1.evb))); have D5 := Aside0.mk D5; refine ⟨_, rfl, ?_⟩)
    | ((with_reducible refine gate_callee (f := 16) rfl ?_); (try (refine gate_guard (by rfl) ?_; dsimp only)); refine goesL_ (some 56) rfl rfl Tryd.func16 (by kernel_rfl) rfl #[.pointer (some ⟨gm, 0, none⟩)] rfl (by (try simp only [List.map_toArray, List.map_cons, List.map_nil]); first | done | rfl) ?_; (with_reducible refine (H6.out).mono ?_); rintro e w8 ⟨va, rfl, ha, hb⟩; have D6 := Aside0.mk (D5.out.below (Nat.le_refl _) hb); rw [show ((km 9).step.1.step.1.step.1).events = [(1, 5), (3, 0)] from km9.2.2.2.2.1] at ha; obtain ⟨ka, ca, rfl, hka, xa0, xa1, xa2, xa3⟩ := two_events ha; have H7 := Aside0.mk (D6.out.solo.events (Nat.le_of_succ_le (Nat.le_of_succ_le (step_fit (step_fit (kFit 1 (by decide) (by decide))).1).1.evb))); clear ha hb; refine ⟨_, rfl, ?_⟩)
    | ((with_reducible refine gate_callee (f := 16) rfl ?_); (try (refine gate_guard (by rfl) ?_; dsimp only)); refine goesL_ (some 58) rfl rfl Tryd.func16 (by kernel_rfl) rfl #[.pointer (some ⟨gn, 0, none⟩)] rfl (by (try simp only [List.map_toArray, List.map_cons, List.map_nil]); first | done | rfl) ?_; (with_reducible refine (H7.out).mono ?_); rintro e w9 ⟨vb, rfl, ha, hb⟩; have D7 := Aside0.mk (D6.out.below (Nat.le_refl _) hb); rw [show ((km 1).step.1.step.1).events = [(1, 5), (5, 0)] from km1.2.2.1] at ha; obtain ⟨kb, cb, rfl, hkb, xb0, xb1, xb2, xb3⟩ := two_events ha; have XA := Aside0.mk (And.intro ((hb.cell hka).trans xa0) (And.intro ((hb.cell hka).trans xa1) (And.intro ((hb.cell hka).trans xa2) (Nat.lt_of_lt_of_le hka hb.size)))); have XB := Aside0.mk (And.intro xb2 hkb); clear xa0 xa1 xa2 xa3 xb0 xb1 xb2 xb3 ha hb hka hkb; have H8 : Aside0 (Calls Tryd.prog 18 #[.pointer (some ⟨gm, 0, none⟩)] w9 (fun e w' => e = .returned (.int .i64 2) ∧ Below w9.heap.size w9 w')) := ⟨by have h := D7.out.swap.solo.ticks; rw [km9.2.2.2.1] at h; exact h⟩; refine ⟨_, rfl, ?_⟩)
    | ((with_reducible refine gate_callee (f := 18) rfl ?_); (try (refine gate_guard (by rfl) ?_; dsimp only)); refine goesL_ (some 60) rfl rfl Tryd.func18 (by kernel_rfl) rfl #[.pointer (some ⟨gm, 0, none⟩)] rfl (by (try simp only [List.map_toArray, List.map_cons, List.map_nil]); first | done | rfl) ?_; (with_reducible refine (H8.out).mono ?_); rintro e w10 ⟨rfl, hb⟩; have D8 := Aside0.mk (D7.out.below (Nat.le_refl _) hb); have xa0 := (hb.cell XA.out.2.2.2).trans XA.out.1; have xa1 := (hb.cell XA.out.2.2.2).trans XA.out.2.1; have xa2 := (hb.cell XA.out.2.2.2).trans XA.out.2.2.1; have xb2 := (hb.cell XB.out.2).trans XB.out.1; clear hb; have H9 : Aside0 (Calls Tryd.prog 30 #[.pointer (some ⟨gm, 0, none⟩)] w10 (fun e w' => e = .returned (.bool true) ∧ Below w10.heap.size w10 w')) := ⟨by have h := D8.out.swap.solo.ended; rw [km9.2.2.2.2.2.1] at h; exact h⟩; refine ⟨_, rfl, ?_⟩)
    | ((with_reducible refine gate_callee (f := 30) rfl ?_); (try (refine gate_guard (by rfl) ?_; dsimp only)); refine goesL_ (some 95) rfl rfl Tryd.func30 (by kernel_rfl) rfl #[.pointer (some ⟨gm, 0, none⟩)] rfl (by (try simp only [List.map_toArray, List.map_cons, List.map_nil]); first | done | rfl) ?_; (with_reducible refine (H9.out).mono ?_); rintro e w11 ⟨rfl, hb⟩; have D9 := Aside0.mk (D8.out.below (Nat.le_refl _) hb); clear hb; have H10 : Aside0 (Calls Tryd.prog 20 #[.pointer (some ⟨gm, 0, none⟩)] w11 (fun e w' => e = .returned (.int .i64 0) ∧ Below w11.heap.size w11 w')) := ⟨by have h := D9.out.swap.solo.frames; rw [km9.2.2.2.2.2.2] at h; exact h⟩; refine ⟨_, rfl, ?_⟩)
    | ((with_reducible refine gate_callee (f := 20) rfl ?_); (try (refine gate_guard (by rfl) ?_; dsimp only)); refine goesL_ (some 99) rfl rfl Tryd.func20 (by kernel_rfl) rfl #[.pointer (some ⟨gm, 0, none⟩)] rfl (by (try simp only [List.map_toArray, List.map_cons, List.map_nil]); first | done | rfl) ?_; (with_reducible refine (H10.out).mono ?_); rintro e w12 ⟨rfl, hb⟩; have D10 := Aside0.mk (D9.out.below (Nat.le_refl _) hb); clear hb; have H11 : Aside0 (Calls Tryd.prog 20 #[.pointer (some ⟨gn, 0, none⟩)] w12 (fun e w' => e = .returned (.int .i64 1) ∧ Below w12.heap.size w12 w')) := ⟨by have h := D10.out.solo.frames; rw [km1.2.2.2] at h; exact h⟩; refine ⟨_, rfl, ?_⟩)
    | ((with_reducible refine gate_callee (f := 20) rfl ?_); (try (refine gate_guard (by rfl) ?_; dsimp only)); refine goesL_ (some 104) rfl rfl Tryd.func20 (by kernel_rfl) rfl #[.pointer (some ⟨gn, 0, none⟩)] rfl (by (try simp only [List.map_toArray, List.map_cons, List.map_nil]); first | done | rfl) ?_; (with_reducible refine (H11.out).mono ?_); rintro e w13 ⟨rfl, hb⟩; have HF : Aside0 (Below w.heap.size w w13) := ⟨by obtain ⟨_, _, _, _, _, _, _, _, _, _, _, _, h9⟩ := D10.out; exact HBW.out.trans ((h9.trans (hb.mono h9.size)).mono HBW.out.size)⟩; clear hb; refine ⟨_, rfl, ?_⟩))
  go_ret
  exact ⟨rfl, HF.out⟩
end Go.Proofs.YthckiolgpgplpaaDoor
end
section
namespace Go.Proofs.YthckiolgpgplpaaDoor
open Go.RowKit Go.Proofs.YthckiolgpgplpaaDoorW.PrintWords Go.Proofs.YthckiolgpgplpaaDoorW.PrintLast Go.Proofs.YthckiolgpgplpaaDoorW.PrintMore Go.Proofs.YthckiolgpgplpaaDoor.P Go.Proofs.YthckiolgpgplpaaDoor.Q
set_option linter.unusedVariables false
set_option linter.unusedSimpArgs false
set_option maxRecDepth 1000000
set_option maxHeartbeats 2000000
theorem dAll (n : Nat) (hn : n < 70) : dchk n = true := by
  by_cases h4 : n < 4
  · rcases (show n = 0 ∨ n = 1 ∨ n = 2 ∨ n = 3 by omega) with rfl | rfl | rfl | rfl
    · exact dAll0.1
    · exact dAll0.2.1
    · exact dAll0.2.2.1
    · exact dAll0.2.2.2
  by_cases h8 : n < 8
  · rcases (show n = 4 ∨ n = 5 ∨ n = 6 ∨ n = 7 by omega) with rfl | rfl | rfl | rfl
    · exact dAll4.1
    · exact dAll4.2.1
    · exact dAll4.2.2.1
    · exact dAll4.2.2.2
  by_cases h12 : n < 12
  · rcases (show n = 8 ∨ n = 9 ∨ n = 10 ∨ n = 11 by omega) with rfl | rfl | rfl | rfl
    · exact dAll8.1
    · exact dAll8.2.1
    · exact dAll8.2.2.1
    · exact dAll8.2.2.2
  by_cases h16 : n < 16
  · rcases (show n = 12 ∨ n = 13 ∨ n = 14 ∨ n = 15 by omega) with rfl | rfl | rfl | rfl
    · exact dAll12.1
    · exact dAll12.2.1
    · exact dAll12.2.2.1
    · exact dAll12.2.2.2
  by_cases h20 : n < 20
  · rcases (show n = 16 ∨ n = 17 ∨ n = 18 ∨ n = 19 by omega) with rfl | rfl | rfl | rfl
    · exact dAll16.1
    · exact dAll16.2.1
    · exact dAll16.2.2.1
    · exact dAll16.2.2.2
  by_cases h24 : n < 24
  · rcases (show n = 20 ∨ n = 21 ∨ n = 22 ∨ n = 23 by omega) with rfl | rfl | rfl | rfl
    · exact dAll20.1
    · exact dAll20.2.1
    · exact dAll20.2.2.1
    · exact dAll20.2.2.2
  by_cases h28 : n < 28
  · rcases (show n = 24 ∨ n = 25 ∨ n = 26 ∨ n = 27 by omega) with rfl | rfl | rfl | rfl
    · exact dAll24.1
    · exact dAll24.2.1
    · exact dAll24.2.2.1
    · exact dAll24.2.2.2
  by_cases h32 : n < 32
  · rcases (show n = 28 ∨ n = 29 ∨ n = 30 ∨ n = 31 by omega) with rfl | rfl | rfl | rfl
    · exact dAll28.1
    · exact dAll28.2.1
    · exact dAll28.2.2.1
    · exact dAll28.2.2.2
  by_cases h36 : n < 36
  · rcases (show n = 32 ∨ n = 33 ∨ n = 34 ∨ n = 35 by omega) with rfl | rfl | rfl | rfl
    · exact dAll32.1
    · exact dAll32.2.1
    · exact dAll32.2.2.1
    · exact dAll32.2.2.2
  by_cases h40 : n < 40
  · rcases (show n = 36 ∨ n = 37 ∨ n = 38 ∨ n = 39 by omega) with rfl | rfl | rfl | rfl
    · exact dAll36.1
    · exact dAll36.2.1
    · exact dAll36.2.2.1
    · exact dAll36.2.2.2
  by_cases h44 : n < 44
  · rcases (show n = 40 ∨ n = 41 ∨ n = 42 ∨ n = 43 by omega) with rfl | rfl | rfl | rfl
    · exact dAll40.1
    · exact dAll40.2.1
    · exact dAll40.2.2.1
    · exact dAll40.2.2.2
  by_cases h48 : n < 48
  · rcases (show n = 44 ∨ n = 45 ∨ n = 46 ∨ n = 47 by omega) with rfl | rfl | rfl | rfl
    · exact dAll44.1
    · exact dAll44.2.1
    · exact dAll44.2.2.1
    · exact dAll44.2.2.2
  by_cases h52 : n < 52
  · rcases (show n = 48 ∨ n = 49 ∨ n = 50 ∨ n = 51 by omega) with rfl | rfl | rfl | rfl
    · exact dAll48.1
    · exact dAll48.2.1
    · exact dAll48.2.2.1
    · exact dAll48.2.2.2
  by_cases h56 : n < 56
  · rcases (show n = 52 ∨ n = 53 ∨ n = 54 ∨ n = 55 by omega) with rfl | rfl | rfl | rfl
    · exact dAll52.1
    · exact dAll52.2.1
    · exact dAll52.2.2.1
    · exact dAll52.2.2.2
  by_cases h60 : n < 60
  · rcases (show n = 56 ∨ n = 57 ∨ n = 58 ∨ n = 59 by omega) with rfl | rfl | rfl | rfl
    · exact dAll56.1
    · exact dAll56.2.1
    · exact dAll56.2.2.1
    · exact dAll56.2.2.2
  by_cases h64 : n < 64
  · rcases (show n = 60 ∨ n = 61 ∨ n = 62 ∨ n = 63 by omega) with rfl | rfl | rfl | rfl
    · exact dAll60.1
    · exact dAll60.2.1
    · exact dAll60.2.2.1
    · exact dAll60.2.2.2
  by_cases h68 : n < 68
  · rcases (show n = 64 ∨ n = 65 ∨ n = 66 ∨ n = 67 by omega) with rfl | rfl | rfl | rfl
    · exact dAll64.1
    · exact dAll64.2.1
    · exact dAll64.2.2.1
    · exact dAll64.2.2.2
  by_cases h70 : n < 70
  · rcases (show n = 68 ∨ n = 69 by omega) with rfl | rfl
    · exact dAll68.1
    · exact dAll68.2
  omega
theorem d_facts (n : Nat) (hn : n < 70) : code_Sound.f 60 (dCod n) 0 = some true ∧ ((dm n).endP 1001).2 = true ∧ (50 < n + 2 → (dEnd n).events = [(4, 4)] ∧ (dEnd n).frames.length = 50 ∧ (dEnd n).ticks = 49) ∧ (¬ 50 < n + 2 → (dEnd n).events = [(3, 0)] ∧ (dEnd n).ticks = (n : Int) + 2) := by
  have h := dAll n hn
  unfold dchk at h
  simp only [Bool.and_eq_true, beq_iff_eq] at h
  obtain ⟨⟨h1, h2⟩, h3⟩ := h
  refine ⟨h1, h2, fun hb => ?_, fun hb => ?_⟩
  · rw [if_pos hb] at h3
    simp only [Bool.and_eq_true, decide_eq_true_eq] at h3
    exact ⟨h3.1.1, h3.1.2, h3.2⟩
  · rw [if_neg hb] at h3
    simp only [Bool.and_eq_true, decide_eq_true_eq] at h3
    exact h3
theorem dFitC (n : Nat) (hn : n < 70) : FitC (dCod n) := by
  intro x hx y hy
  have hx : x = ⟨dM n, 0, 0, false⟩ ∨ x = ⟨dF, 1, 1, false⟩ := by simpa [dCod] using hx
  rcases hx with rfl | rfl
  · have hy : y = ⟨1, n, 0⟩ ∨ y = ⟨19, 1, 1⟩ ∨ y = ⟨24, 1, 3⟩ ∨ y = ⟨20, 0, 0⟩ := by simpa [dM] using hy
    rcases hy with rfl | rfl | rfl | rfl
    · refine ⟨show (Lit.int .i64 (1 : Int)).wf = true by decide, show (Lit.int .i64 (n : Int)).wf = true from ?_, show (Lit.int .i64 (0 : Int)).wf = true by decide⟩
      simp [Lit.wf, IntKind.min, IntKind.max, IntKind.bits, IntKind.signed]
      omega
    all_goals decide
  · have : ∀ y ∈ dF, (Lit.int .i64 y.f0).wf = true ∧ ((Lit.int .i64 y.f1).wf = true ∧ (Lit.int .i64 y.f2).wf = true) := by decide
    exact this y hy
theorem dFit (n : Nat) (hn : n < 70) : Fit (dm n) := fit_new (sound_of (dFitC n hn) (d_facts n hn).1) (by simp) (by decide) (by decide)
theorem among70 (n : Int) : ∃ d : Nat, d < 70 ∧ parallaxref01_Among.f n 70 = some (d : Int) := by
  unfold parallaxref01_Among.f
  rw [if_neg (by decide), if_neg (by decide)]
  have h1 := Int.tmod_lt_of_pos n (show (0 : Int) < 70 by decide)
  have h2 : -70 < Int.tmod n 70 := Int.lt_tmod_of_pos n (by decide)
  generalize Int.tmod n 70 = x at h1 h2
  by_cases h : x < 0
  · rw [if_pos h]
    refine ⟨(x + 70).toNat, by omega, ?_⟩
    congr 1
    unfold wrap64; omega
  · rw [if_neg h]
    exact ⟨x.toNat, by omega, by congr 1; omega⟩
theorem one_event {w : World} {v : Value} {a b : Int} (h : w.ownsRow 0 38 2 v 1 (evs [(a, b)])) : ∃ k cap, v = .slice (some ⟨k, 0, none⟩) 1 cap ∧ k < w.heap.size ∧ w.cell? ⟨k, 0, none⟩ = some (.int .i64 a) ∧ w.cell? ⟨k, 1, none⟩ = some (.int .i64 b) := by
  rcases h.2 with ⟨_, h0⟩ | ⟨k, cap, cur, rfl, _, hh, _⟩
  · cases h0
  · refine ⟨k, cap, rfl, blk_lt hh, ?_, ?_⟩
    · simpa [Addr.add] using h.cells (g := k) rfl 0 (.int .i64 a) rfl
    · simpa [Addr.add] using h.cells (g := k) rfl 1 (.int .i64 b) rfl
theorem Solo.weak {g : Nat} {m : Mc} {B b : Nat} {w0 wb w : World} (S : Solo g m B w0 w) (hb : Below b wb w0) (h : b ≤ B) : Solo g m b wb w := by
  obtain ⟨Rd, o, h1, h2, h3, h4⟩ := S
  exact ⟨Rd, o, h1, h2, fun k hk => Nat.le_trans h (h3 k hk), hb.trans (h4.mono h)⟩
theorem Solo.low {g : Nat} {m : Mc} {B : Nat} {w0 w : World} (S : Solo g m B w0 w) : Below B w0 w := by
  obtain ⟨_, _, _, _, _, h⟩ := S
  exact h
theorem Solo.on {g : Nat} {m : Mc} {w0 w w' : World} (S : Solo g m w0.heap.size w0 w) (hb : Below w.heap.size w w') : Solo g m w0.heap.size w0 w' := S.below S.low.size hb
theorem deep_new (d : Nat) (hd : d < 70) (w : World) (nd : Nat) (hLd : Laid w) : Calls Tryd.prog 12 #[.slice (some ⟨w.heap.size + 1 + 1 + 1 + 1, 0, none⟩) 2 2, .int .i64 0, .slice none 0 0, .int .i64 1000]
    ((((((w.drewN nd).alloc (.cells #[.int .i64 1, .int .i64 (d : Int), .int .i64 0, .int .i64 19, .int .i64 1, .int .i64 1, .int .i64 24, .int .i64 1, .int .i64 3, .int .i64 20, .int .i64 0, .int .i64 0] 43)).alloc (.cells #[.slice (some ⟨w.heap.size, 0, none⟩) 4 4, .int .i64 0, .int .i64 0, .bool false] 46)).alloc (.cells #[.int .i64 24, .int .i64 0, .int .i64 1, .int .i64 2, .int .i64 0, .int .i64 0, .int .i64 18, .int .i64 7, .int .i64 0, .int .i64 2, .int .i64 0, .int .i64 0, .int .i64 1, .int .i64 1, .int .i64 0, .int .i64 8, .int .i64 0, .int .i64 0, .int .i64 19, .int .i64 1, .int .i64 1, .int .i64 20, .int .i64 0, .int .i64 0] 43)).alloc (.cells #[.slice (some ⟨w.heap.size + 1 + 1, 0, none⟩) 8 8, .int .i64 1, .int .i64 1, .bool false] 46)).alloc (.cells #[.slice (some ⟨w.heap.size, 0, none⟩) 4 4, .int .i64 0, .int .i64 0, .bool false, .slice (some ⟨w.heap.size + 1 + 1, 0, none⟩) 8 8, .int .i64 1, .int .i64 1, .bool false] 46))
    (fun e w1 => ∃ g, e = .returned (.tuple #[.pointer (some ⟨g, 0, none⟩), .int .i64 0]) ∧ Solo g (dm d) w.heap.size w w1) := by
  obtain ⟨W, hW⟩ : ∃ W, W = ((((((w.drewN nd).alloc (.cells #[.int .i64 1, .int .i64 (d : Int), .int .i64 0, .int .i64 19, .int .i64 1, .int .i64 1, .int .i64 24, .int .i64 1, .int .i64 3, .int .i64 20, .int .i64 0, .int .i64 0] 43)).alloc (.cells #[.slice (some ⟨w.heap.size, 0, none⟩) 4 4, .int .i64 0, .int .i64 0, .bool false] 46)).alloc (.cells #[.int .i64 24, .int .i64 0, .int .i64 1, .int .i64 2, .int .i64 0, .int .i64 0, .int .i64 18, .int .i64 7, .int .i64 0, .int .i64 2, .int .i64 0, .int .i64 0, .int .i64 1, .int .i64 1, .int .i64 0, .int .i64 8, .int .i64 0, .int .i64 0, .int .i64 19, .int .i64 1, .int .i64 1, .int .i64 20, .int .i64 0, .int .i64 0] 43)).alloc (.cells #[.slice (some ⟨w.heap.size + 1 + 1, 0, none⟩) 8 8, .int .i64 1, .int .i64 1, .bool false] 46)).alloc (.cells #[.slice (some ⟨w.heap.size, 0, none⟩) 4 4, .int .i64 0, .int .i64 0, .bool false, .slice (some ⟨w.heap.size + 1 + 1, 0, none⟩) 8 8, .int .i64 1, .int .i64 1, .bool false] 46)) := ⟨_, rfl⟩
  rw [← hW]
  have hbW : Below w.heap.size w W := by
    rw [hW]
    exact below_alloc (below_alloc (below_alloc (below_alloc (below_alloc (pw_below_drewN (Below.refl _ _) _) _) _) _) _) _
  have b1 : W.heap[w.heap.size]? = some (.cells ((dM d).flatMap insCells).toArray 43 (0, 0)) := by
    rw [hW]
    exact blk_alloc (blk_alloc (blk_alloc (blk_alloc (blk_new (w.drewN nd) _) _) _) _) _
  have b2 : W.heap[w.heap.size + 1 + 1]? = some (.cells (dF.flatMap insCells).toArray 43 (0, 0)) := by
    rw [hW]
    have := fun (X : World) (hX : X.heap.size = w.heap.size + 1 + 1) (o : Obj) => hX ▸ blk_new X o
    exact blk_alloc (blk_alloc (this _ (by simp [World.drewN]) _) _) _
  have b3 : W.heap[w.heap.size + 1 + 1 + 1 + 1]? = some (.cells #[.slice (some ⟨w.heap.size, 0, none⟩) 4 4, .int .i64 0, .int .i64 0, .bool false, .slice (some ⟨w.heap.size + 1 + 1, 0, none⟩) 8 8, .int .i64 1, .int .i64 1, .bool false] 46 (0, 0)) := by
    rw [hW]
    have := fun (X : World) (hX : X.heap.size = w.heap.size + 1 + 1 + 1 + 1) (o : Obj) => hX ▸ blk_new X o
    exact this _ (by simp [World.drewN]) _
  have r1 : Kd.C k43 W (some ⟨w.heap.size, 0, none⟩) (dM d).length (dM d) := ins_row (t := 43) b1 (show (4 : Nat) ≤ 1000000 by decide)
  have r2 : Kd.C k43 W (some ⟨w.heap.size + 1 + 1, 0, none⟩) dF.length dF := ins_row (t := 43) b2 (by decide)
  have hC : Kd.C k46 W (some ⟨w.heap.size + 1 + 1 + 1 + 1, 0, none⟩) (dCod d).length (dCod d) := by
    have q1 := (Reps.none (k46.K W) 4).snoc (p := (⟨dM d, 0, 0, false⟩ : S46)) (k46_mk W ⟨dM d, 0, 0, false⟩ (c0 := 4) (show (4 : Nat) ≤ 4 by decide) r1) rfl
    have q2 := q1.snoc (p := (⟨dF, 1, 1, false⟩ : S46)) (k46_mk W ⟨dF, 1, 1, false⟩ (c0 := 8) (by decide) r2) rfl
    exact cod_row (t := 46) q2 b3 (show (2 : Nat) ≤ 1000000 by decide)
  refine (new_solo W _ none 2 0 (dCod d) [] 0 1000 hC (Nat.le_refl _) (hLd.below hbW) 60 (d_facts d hd).1 (dFitC d hd) (Kd.C_nil _ W) (Nat.le_refl _) (by decide) (by decide) (by decide)).mono ?_
  rintro e w1 ⟨g, h1, h2⟩
  exact ⟨g, h1, h2.weak hbW hbW.size⟩
end Go.Proofs.YthckiolgpgplpaaDoor
end
section
namespace Go.Proofs.YthckiolgpgplpaaDoor
open Go.RowKit Go.Proofs.YthckiolgpgplpaaDoorW.PrintWords Go.Proofs.YthckiolgpgplpaaDoorW.PrintLast Go.Proofs.YthckiolgpgplpaaDoorW.PrintMore Go.Proofs.YthckiolgpgplpaaDoor.P Go.Proofs.YthckiolgpgplpaaDoor.Q
set_option linter.unusedVariables false
set_option linter.unusedSimpArgs false
set_option maxRecDepth 1000000
set_option maxHeartbeats 2000000
theorem vmDeep_calls (n : Int) (w : World) (hLd : Laid w) (_ : (Lit.int .i64 n).wf = true) : Calls Tryd.prog 4 #[.int .i64 n] w fun e w' => e = .returned (.bool true) ∧ Below w.heap.size w w' := by
  obtain ⟨d, hd, hA⟩ := among70 n
  obtain ⟨f1, f2, f3, f4⟩ := d_facts d hd
  have hE := (endP_fit 1001 (dFit d hd)).1
  have HLD := Aside0.mk hLd; have HA := Aside0.mk hA; have HD := Aside0.mk hd
  have HS : Aside0 (∀ g w1, Solo g (dm d) w.heap.size w w1 → Calls Tryd.prog 15 #[.pointer (some ⟨g, 0, none⟩), .int .i64 1000] w1 (fun e w2 => e = .returned (.bool true) ∧ Solo g (dEnd d) w.heap.size w w2)) := ⟨fun g w1 S => by
    have h := S.end_ (dFit d hd) (Nat.le_refl _) 1000 (by decide)
    rw [f2] at h
    exact h⟩
  have HEv : Aside0 ((dEnd d).events.length ≤ 4398046511104) := ⟨by have h : Fit (dEnd d) := hE; have := h.evb; omega⟩
  by_cases hb : 50 < d + 2
  · obtain ⟨e1, e2, e3⟩ := f3 hb
    have E1 := Aside0.mk e1; have E2 := Aside0.mk e2; have E3 := Aside0.mk e3
    have hx : decide (50 < (d : Int) + 2) = true := decide_eq_true (by omega)
    have hd2 : (d : Int) < 70 := by omega
    have hd0 : (0 : Int) ≤ (d : Int) := by omega
    clear hLd hA hd f1 f2 f3 f4 hE e1 e2 e3 hb
    go_enter Tryd.func4, Tryd.ntmps4
    go_wp2_with (first
    | ((with_reducible refine gate_callee (f := 14) rfl ?_); (try (refine gate_guard (by rfl) ?_; dsimp only)); refine goesL_ (some 9) rfl rfl Tryd.func14 (by kernel_rfl) rfl #[.int .i64 n, .int .i64 70] rfl (by (try simp only [List.map_toArray, List.map_cons, List.map_nil]); first | done | rfl) ?_; (with_reducible refine (parallaxref01_Among.calls n 70 d _ HA.out).mono ?_); rintro e w0 ⟨rfl, nd, rfl⟩; refine ⟨_, rfl, ?_⟩)
    | ((with_reducible refine gate_callee (f := 12) rfl ?_); (try (refine gate_guard (by rfl) ?_; dsimp only)); refine goesL_ (some 31) rfl rfl Tryd.func12 (by kernel_rfl) rfl #[.slice (some ⟨w.heap.size + 1 + 1 + 1 + 1, 0, none⟩) 2 2, .int .i64 0, .slice none 0 0, .int .i64 1000] rfl (by (try simp only [List.map_toArray, List.map_cons, List.map_nil]); first | done | rfl) ?_; (with_reducible refine (deep_new d HD.out w _ HLD.out).mono ?_); rintro e w1 ⟨gm, rfl, S1⟩; have H1 := Aside0.mk (HS.out gm w1 S1); clear S1; refine ⟨_, rfl, ?_⟩)
    | ((with_reducible refine gate_callee (f := 15) rfl ?_); (try (refine gate_guard (by rfl) ?_; dsimp only)); refine goesL_ (some 38) rfl rfl Tryd.func15 (by kernel_rfl) rfl #[.pointer (some ⟨gm, 0, none⟩), .int .i64 1000] rfl (by (try simp only [List.map_toArray, List.map_cons, List.map_nil]); first | done | rfl) ?_; (with_reducible refine (H1.out).mono ?_); rintro e w2 ⟨rfl, S2⟩; have S2 := Aside0.mk S2; have H2 := Aside0.mk (S2.out.events HEv.out); refine ⟨_, rfl, ?_⟩)
    | ((with_reducible refine gate_callee (f := 16) rfl ?_); (try (refine gate_guard (by rfl) ?_; dsimp only)); refine goesL_ (some 42) rfl rfl Tryd.func16 (by kernel_rfl) rfl #[.pointer (some ⟨gm, 0, none⟩)] rfl (by (try simp only [List.map_toArray, List.map_cons, List.map_nil]); first | done | rfl) ?_; (with_reducible refine (H2.out).mono ?_); rintro e w3 ⟨va, rfl, ha, hb⟩; have S3 := Aside0.mk (S2.out.on hb); rw [E1.out] at ha; obtain ⟨ka, ca, rfl, hka, xa0, xa1⟩ := one_event ha; clear ha hka hb; refine ⟨_, rfl, ?_⟩)
    | (have HT : Aside0 (Calls Tryd.prog 20 #[.pointer (some ⟨gm, 0, none⟩)] _ (fun e w' => e = .returned (.int .i64 50) ∧ Below _ _ w')) := ⟨by have h := S3.out.frames; rw [E2.out] at h; exact h⟩; (with_reducible refine gate_callee (f := 20) rfl ?_); (try (refine gate_guard (by rfl) ?_; dsimp only)); refine goesL_ (some 56) rfl rfl Tryd.func20 (by kernel_rfl) rfl #[.pointer (some ⟨gm, 0, none⟩)] rfl (by (try simp only [List.map_toArray, List.map_cons, List.map_nil]); first | done | rfl) ?_; (with_reducible refine (HT.out).mono ?_); rintro e w4 ⟨rfl, hb⟩; have S4 := Aside0.mk (S3.out.on hb); clear hb; refine ⟨_, rfl, ?_⟩)
    | (have HT : Aside0 (Calls Tryd.prog 18 #[.pointer (some ⟨gm, 0, none⟩)] _ (fun e w' => e = .returned (.int .i64 (49)) ∧ Below _ _ w')) := ⟨by have h := S4.out.ticks; rw [E3.out] at h; exact h⟩; (with_reducible refine gate_callee (f := 18) rfl ?_); (try (refine gate_guard (by rfl) ?_; dsimp only)); refine goesL_ (some 61) rfl rfl Tryd.func18 (by kernel_rfl) rfl #[.pointer (some ⟨gm, 0, none⟩)] rfl (by (try simp only [List.map_toArray, List.map_cons, List.map_nil]); first | done | rfl) ?_; (with_reducible refine (HT.out).mono ?_); rintro e w5 ⟨rfl, hb⟩; have S5 := Aside0.mk (S4.out.on hb); clear hb; refine ⟨_, rfl, ?_⟩)
    | ((with_reducible refine gate_callee (f := 11) rfl ?_); (try (refine gate_guard (by rfl) ?_; dsimp only)); refine goesL_ (some 65) rfl rfl Tryd.func11 (by kernel_rfl) rfl #[] rfl (by (try simp only [List.map_toArray, List.map_cons, List.map_nil]); first | done | rfl) ?_; (with_reducible refine (known_law _ (HLD.out.below S5.out.low)).mono ?_); rintro e w9 ⟨rfl, hb⟩; have HF : Aside0 (Below w.heap.size w w9) := ⟨S5.out.low.trans (hb.mono S5.out.low.size)⟩; clear hb; refine ⟨_, rfl, ?_⟩))
    go_ret
    exact ⟨rfl, HF.out⟩
  · obtain ⟨e1, e2⟩ := f4 hb
    have E1 := Aside0.mk e1; have E2 := Aside0.mk e2
    have hx : decide (50 < (d : Int) + 2) = false := decide_eq_false (by omega)
    have hd2 : (d : Int) < 70 := by omega
    have hd0 : (0 : Int) ≤ (d : Int) := by omega
    clear hLd hA hd f1 f2 f3 f4 hE e1 e2 hb
    go_enter Tryd.func4, Tryd.ntmps4
    go_wp2_with (first
    | ((with_reducible refine gate_callee (f := 14) rfl ?_); (try (refine gate_guard (by rfl) ?_; dsimp only)); refine goesL_ (some 9) rfl rfl Tryd.func14 (by kernel_rfl) rfl #[.int .i64 n, .int .i64 70] rfl (by (try simp only [List.map_toArray, List.map_cons, List.map_nil]); first | done | rfl) ?_; (with_reducible refine (parallaxref01_Among.calls n 70 d _ HA.out).mono ?_); rintro e w0 ⟨rfl, nd, rfl⟩; refine ⟨_, rfl, ?_⟩)
    | ((with_reducible refine gate_callee (f := 12) rfl ?_); (try (refine gate_guard (by rfl) ?_; dsimp only)); refine goesL_ (some 31) rfl rfl Tryd.func12 (by kernel_rfl) rfl #[.slice (some ⟨w.heap.size + 1 + 1 + 1 + 1, 0, none⟩) 2 2, .int .i64 0, .slice none 0 0, .int .i64 1000] rfl (by (try simp only [List.map_toArray, List.map_cons, List.map_nil]); first | done | rfl) ?_; (with_reducible refine (deep_new d HD.out w _ HLD.out).mono ?_); rintro e w1 ⟨gm, rfl, S1⟩; have H1 := Aside0.mk (HS.out gm w1 S1); clear S1; refine ⟨_, rfl, ?_⟩)
    | ((with_reducible refine gate_callee (f := 15) rfl ?_); (try (refine gate_guard (by rfl) ?_; dsimp only)); refine goesL_ (some 38) rfl rfl Tryd.func15 (by kernel_rfl) rfl #[.pointer (some ⟨gm, 0, none⟩), .int .i64 1000] rfl (by (try simp only [List.map_toArray, List.map_cons, List.map_nil]); first | done | rfl) ?_; (with_reducible refine (H1.out).mono ?_); rintro e w2 ⟨rfl, S2⟩; have S2 := Aside0.mk S2; have H2 := Aside0.mk (S2.out.events HEv.out); refine ⟨_, rfl, ?_⟩)
    | ((with_reducible refine gate_callee (f := 16) rfl ?_); (try (refine gate_guard (by rfl) ?_; dsimp only)); refine goesL_ (some 42) rfl rfl Tryd.func16 (by kernel_rfl) rfl #[.pointer (some ⟨gm, 0, none⟩)] rfl (by (try simp only [List.map_toArray, List.map_cons, List.map_nil]); first | done | rfl) ?_; (with_reducible refine (H2.out).mono ?_); rintro e w3 ⟨va, rfl, ha, hb⟩; have S3 := Aside0.mk (S2.out.on hb); rw [E1.out] at ha; obtain ⟨ka, ca, rfl, hka, xa0, xa1⟩ := one_event ha; clear ha hka hb; refine ⟨_, rfl, ?_⟩)
    | (have HT : Aside0 (Calls Tryd.prog 18 #[.pointer (some ⟨gm, 0, none⟩)] _ (fun e w' => e = .returned (.int .i64 ((d : Int) + 2)) ∧ Below _ _ w')) := ⟨by have h := S3.out.ticks; rw [E2.out] at h; exact h⟩; (with_reducible refine gate_callee (f := 18) rfl ?_); (try (refine gate_guard (by rfl) ?_; dsimp only)); refine goesL_ (some 74) rfl rfl Tryd.func18 (by kernel_rfl) rfl #[.pointer (some ⟨gm, 0, none⟩)] rfl (by (try simp only [List.map_toArray, List.map_cons, List.map_nil]); first | done | rfl) ?_; (with_reducible refine (HT.out).mono ?_); rintro e w5 ⟨rfl, hb⟩; have S4 := Aside0.mk (S3.out.on hb); clear hb; refine ⟨_, rfl, ?_⟩)
    | ((with_reducible refine gate_callee (f := 11) rfl ?_); (try (refine gate_guard (by rfl) ?_; dsimp only)); refine goesL_ (some 80) rfl rfl Tryd.func11 (by kernel_rfl) rfl #[] rfl (by (try simp only [List.map_toArray, List.map_cons, List.map_nil]); first | done | rfl) ?_; (with_reducible refine (known_law _ (HLD.out.below S4.out.low)).mono ?_); rintro e w9 ⟨rfl, hb⟩; have HF : Aside0 (Below w.heap.size w w9) := ⟨S4.out.low.trans (hb.mono S4.out.low.size)⟩; clear hb; refine ⟨_, rfl, ?_⟩))
    go_ret
    exact ⟨rfl, HF.out⟩
end Go.Proofs.YthckiolgpgplpaaDoor
end
