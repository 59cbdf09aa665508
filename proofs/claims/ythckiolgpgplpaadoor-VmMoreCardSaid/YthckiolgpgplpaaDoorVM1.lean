/- The walks of the machine, by hand. -/
import Derived.Test.YthckiolgpgplpaaDoorVM0
import Derived.Test.YthckiolgpgplpaaDoorPx13
import Derived.Test.YthckiolgpgplpaaDoorPx8
import Derived.Test.YthckiolgpgplpaaDoorPx14
section
namespace Go.Proofs.YthckiolgpgplpaaDoor
open Go.RowKit Go.Proofs.YthckiolgpgplpaaDoorW.PrintWords Go.Proofs.YthckiolgpgplpaaDoorW.PrintLast Go.Proofs.YthckiolgpgplpaaDoorW.PrintMore Go.Proofs.YthckiolgpgplpaaDoor.P Go.Proofs.YthckiolgpgplpaaDoor.Q
set_option linter.unusedVariables false
set_option linter.unusedSimpArgs false
set_option maxRecDepth 1000000
set_option maxHeartbeats 1000000
/-- A machine between two steps. -/
structure Fit (m : Mc) : Prop where
  good : GoodS m
  evs : m.ended = false → (m.events.length : Int) ≤ m.ticks * 1048577
theorem steps_fit : ∀ (k : Nat) {m : Mc}, Inv k m → m.ended = false → Fit (m.steps k).1 ∧ (m.steps k).1.codes = m.codes ∧ (m.steps k).1.input = m.input
  | 0, m, I, he => by
    have hev := I.evs he
    have G := I.good
    refine ⟨⟨⟨G.sound, (fun h => by cases h), (fun h => by cases h), (fun h => by cases h), G.fuel, G.read, G.inp, ?_⟩, (fun h => by cases h)⟩, rfl, rfl⟩
    show ((m.events ++ [(5, 0)]).length : Int) ≤ m.ticks * 1048577 + 1048577
    simp
    omega
  | k + 1, m, I, he => by
    obtain ⟨G, h1, h2, h3, h4⟩ := one_next I he
    show Fit (if m.one.2 = true then (m.one.1, true) else if m.one.1.ended = true then (m.one.1, false) else Mc.steps k m.one.1).1 ∧ (if m.one.2 = true then (m.one.1, true) else if m.one.1.ended = true then (m.one.1, false) else Mc.steps k m.one.1).1.codes = m.codes ∧ (if m.one.2 = true then (m.one.1, true) else if m.one.1.ended = true then (m.one.1, false) else Mc.steps k m.one.1).1.input = m.input
    by_cases ht : m.one.2 = true
    · rw [if_pos ht]
      exact ⟨⟨G, h2 ht⟩, h3, h4⟩
    · rw [if_neg ht]
      by_cases hd : m.one.1.ended = true
      · rw [if_pos hd]
        exact ⟨⟨G, fun h => by rw [hd] at h; cases h⟩, h3, h4⟩
      · rw [if_neg hd]
        obtain ⟨a, b, c⟩ := steps_fit k (h1 (Bool.eq_false_iff.2 ht)) (Bool.eq_false_iff.2 hd)
        exact ⟨a, b.trans h3, c.trans h4⟩
theorem Fit.inv {m : Mc} (F : Fit m) : Inv 1048576 m := ⟨F.good, fun he => by have := F.evs he; omega⟩
theorem step_fit {m : Mc} (F : Fit m) : Fit m.step.1 ∧ m.step.1.codes = m.codes ∧ m.step.1.input = m.input := by
  unfold Mc.step
  by_cases he : m.ended = true
  · rw [if_pos he]; exact ⟨F, rfl, rfl⟩
  · rw [if_neg he]; exact steps_fit _ F.inv (Bool.eq_false_iff.2 he)
theorem Fit.evb {m : Mc} (F : Fit m) : m.events.length + 2 ≤ 4398046511104 := by
  have h1 := F.good.evw
  have h2 := F.good.fuel
  have h3 : m.ticks * 1048577 ≤ 1048576 * 1048577 := Int.mul_le_mul_of_nonneg_right (by omega) (by omega)
  omega
section
variable {Rd : Nat → Prop} {w : World} {o : MHo} {m : Mc}
theorem step_ended (H : MOn Rd w o m) (he : m.ended = true) : Calls Tryd.prog 21 #[o.ptr] w (MPost Rd w o m (.bool false)) := by
  have hu24 := Tryd.underlying24
  have a8 : w.cell? ⟨o.g, 11, none⟩ = some (.bool true) := by rw [blk_cell H.blk 11, ← he]; rfl
  have HH := Aside0.mk H
  clear H he
  show Calls Tryd.prog 21 #[.pointer (some ⟨o.g, 0, none⟩)] w _
  go_enter Tryd.func21, Tryd.ntmps21
  go_wp2_with (fail)
  refine scope_of (fun _ _ _ h_ => h_) ?_
  go_wp2_with ((with_reducible refine wp_label ?_))
  go_ret
  exact ⟨rfl, o, Sub.refl _ _, HH.out, Mod.refl _ _⟩
theorem step_on (H : MOn Rd w o m) (F : Fit m) : Calls Tryd.prog 21 #[o.ptr] w (MPost Rd w o m.step.1 (.bool m.step.2)) := by
  obtain ⟨N, hN⟩ : ∃ N, N = 1048576 := ⟨_, rfl⟩
  have hi := F.inv
  have e : m.step = if m.ended = true then (m, false) else m.steps N := by rw [hN]; rfl
  rw [← hN] at hi
  rw [e]
  by_cases he : m.ended = true
  · rw [if_pos he]; exact step_ended H he
  · rw [if_neg he]; exact step_any road H N hN hi (Bool.eq_false_iff.2 he)
/-- A run to the end, as far as so many steps. -/
def Mc.endP : Nat → Mc → Mc × Bool
  | 0, m => (m, false)
  | k + 1, m => if m.step.2 = true then Mc.endP k m.step.1 else (m.step.1, m.step.1.ended)
theorem endP_fit : ∀ (k : Nat) {m : Mc}, Fit m → Fit (m.endP k).1 ∧ (m.endP k).1.codes = m.codes ∧ (m.endP k).1.input = m.input
  | 0, m, F => ⟨F, rfl, rfl⟩
  | k + 1, m, F => by
    obtain ⟨a, b, c⟩ := step_fit F
    unfold Mc.endP
    by_cases h : m.step.2 = true
    · rw [if_pos h]
      obtain ⟨d, e, f⟩ := endP_fit k a
      exact ⟨d, e.trans b, f.trans c⟩
    · rw [if_neg h]; exact ⟨a, b, c⟩
theorem end_law (H : MOn Rd w o m) (F : Fit m) (most : Nat) (hm : most ≤ 1000000) : Calls Tryd.prog 15 #[o.ptr, .int .i64 most] w (MPost Rd w o (m.endP (most + 1)).1 (.bool (m.endP (most + 1)).2)) := by
  have HH := Aside0.mk H; have HF := Aside0.mk F
  clear H F
  show Calls Tryd.prog 15 #[.pointer (some ⟨o.g, 0, none⟩), .int .i64 most] w _
  go_enter Tryd.func15, Tryd.ntmps15
  go_wp2
  go_loopg [5] (most + 1) (fun gk v5 W => ∃ (x : Nat) (o1 : MHo) (m1 : Mc), v5 = .int .i64 (x : Int) ∧ Aside0 (gk + x = most + 1) ∧ Aside0 (MOn Rd W o1 m1) ∧ Aside0 (Sub w o o1) ∧ Aside0 (Mod (fun k => k ∈ o.own) w W) ∧ Aside0 (Fit m1) ∧ Aside0 (m.endP (most + 1) = m1.endP gk))
  case atStart => exact ⟨0, o, m, rfl, ⟨rfl⟩, HH, ⟨Sub.refl _ _⟩, ⟨Mod.refl _ _⟩, HF, ⟨rfl⟩⟩
  case round =>
    obtain ⟨x, o1, m1, rfl, A1, A2, A3, A4, A5, A6⟩ := hrel
    rcases Nat.eq_zero_or_pos gk with h0 | h0
    · have hx : decide (x ≤ most) = false := decide_eq_false (by have := A1.out; omega)
      have H0 := Aside0.mk h0; clear h0
      go_wp2
      go_ret
      have hz := H0.out; subst hz
      rw [A6.out]
      exact ⟨rfl, o1, A3.out, A2.out, A4.out⟩
    · obtain ⟨gk, rfl⟩ : ∃ j, gk = j + 1 := ⟨gk - 1, by omega⟩
      have hx : x ≤ most := by have := A1.out; omega
      have hxi : (x : Int) ≤ 1000000 := by omega
      have HS : Aside0 (Calls Tryd.prog 21 #[.pointer (some ⟨o.g, 0, none⟩)] wr (MPost Rd wr o1 m1.step.1 (.bool m1.step.2))) := ⟨by
        have h := step_on A2.out A5.out
        rw [MHo.ptr, A3.out.1] at h
        exact h⟩
      have HST := Aside0.mk (step_fit A5.out).1
      have HM : Aside0 (∀ w5, MPost Rd wr o1 m1.step.1 (.bool m1.step.2) (.returned (.bool m1.step.2)) w5 → After Rd w o m1.step.1 w5) := ⟨fun w5 h => (After.of A3.out A4.out h).2⟩
      by_cases ht : m1.step.2 = true
      · rw [ht] at HS HM
        have HT := Aside0.mk ht; clear ht
        go_wp2_with ((with_reducible refine gate_callee (f := 21) rfl ?_); refine goesL_ (some 12) rfl rfl Tryd.func21 (by kernel_rfl) rfl #[.pointer (some ⟨o.g, 0, none⟩)] rfl (by (try simp only [List.map_toArray, List.map_cons, List.map_nil]); first | done | rfl) ?_; refine HS.out.mono ?_; rintro e w5 hp; obtain rfl := hp.1; have AF := Aside0.mk (HM.out w5 hp); clear hp; refine ⟨_, rfl, ?_⟩)
        go_roundg gk
        case measure => omega
        case rel =>
          obtain ⟨o2, hs, hM, hm⟩ := AF.out
          exact ⟨x + 1, o2, m1.step.1, by go_num, ⟨by have := A1.out; omega⟩, ⟨hM⟩, ⟨hs⟩, ⟨hm⟩, HST, ⟨by rw [A6.out]; show (if m1.step.2 = true then Mc.endP gk m1.step.1 else (m1.step.1, m1.step.1.ended)) = _; rw [if_pos HT.out]⟩⟩
      · have ht : m1.step.2 = false := Bool.eq_false_iff.2 ht
        rw [ht] at HS HM
        have HT := Aside0.mk ht; clear ht
        have HEN : Aside0 (∀ w5, After Rd w o m1.step.1 w5 → Calls Tryd.prog 30 #[.pointer (some ⟨o.g, 0, none⟩)] w5 (fun e w6 => e = .returned (.bool m1.step.1.ended) ∧ After Rd w o m1.step.1 w6)) := ⟨by
          rintro w5 ⟨o2, hs, hM, hm⟩
          have h := ended_on hM
          rw [show o2.ptr = .pointer (some ⟨o.g, 0, none⟩) by rw [MHo.ptr, hs.1]] at h
          refine h.mono ?_
          rintro e w6 ⟨rfl, hb⟩
          exact ⟨rfl, o2, hs, hM.below hb, hm.trans (Mod.of_below hb (fun _ => False)) (fun _ _ h => h.elim)⟩⟩
        go_wp2_with (first
          | ((with_reducible refine gate_callee (f := 21) rfl ?_); refine goesL_ (some 12) rfl rfl Tryd.func21 (by kernel_rfl) rfl #[.pointer (some ⟨o.g, 0, none⟩)] rfl (by (try simp only [List.map_toArray, List.map_cons, List.map_nil]); first | done | rfl) ?_; refine HS.out.mono ?_; rintro e w5 hp; obtain rfl := hp.1; have AF := Aside0.mk (HM.out w5 hp); clear hp; refine ⟨_, rfl, ?_⟩)
          | ((with_reducible refine gate_callee (f := 30) rfl ?_); refine goesL_ (some 15) rfl rfl Tryd.func30 (by kernel_rfl) rfl #[.pointer (some ⟨o.g, 0, none⟩)] rfl (by (try simp only [List.map_toArray, List.map_cons, List.map_nil]); first | done | rfl) ?_; refine (HEN.out _ AF.out).mono ?_; rintro e w6 ⟨rfl, AF2⟩; have AF2 := Aside0.mk AF2; refine ⟨_, rfl, ?_⟩))
        go_ret
        rw [A6.out]
        show MPost Rd w o (if m1.step.2 = true then Mc.endP gk m1.step.1 else (m1.step.1, m1.step.1.ended)).1 (.bool (if m1.step.2 = true then Mc.endP gk m1.step.1 else (m1.step.1, m1.step.1.ended)).2) _ _
        rw [if_neg (by rw [HT.out]; decide)]
        exact AF2.out.post
end
end Go.Proofs.YthckiolgpgplpaaDoor
end
section
namespace Go.Proofs.YthckiolgpgplpaaDoor
open Go.RowKit Go.Proofs.YthckiolgpgplpaaDoorW.PrintWords Go.Proofs.YthckiolgpgplpaaDoorW.PrintLast Go.Proofs.YthckiolgpgplpaaDoorW.PrintMore Go.Proofs.YthckiolgpgplpaaDoor.P Go.Proofs.YthckiolgpgplpaaDoor.Q
set_option linter.unusedVariables false
set_option linter.unusedSimpArgs false
set_option maxRecDepth 1000000
set_option maxHeartbeats 1000000
/-- What jumps lead to lies in the code. -/
def Leads (x : S46) : Prop := x.f0.length ≤ 65536 ∧ ∀ j : Int, 0 ≤ j → j < x.f0.length → (rd_T43 x.f0 j).f0 = 17 ∨ (rd_T43 x.f0 j).f0 = 18 → 0 ≤ (rd_T43 x.f0 j).f1 ∧ (rd_T43 x.f0 j).f1 < x.f0.length
theorem slow_calls (w : World) (A0 : Option Addr) (c0 : Nat) (l : List S46) (hl : Kd.C k46 w A0 l.length l) (hc : l.length ≤ c0) (hn : l.length ≤ 1000) (hT : ∀ i : Int, 0 ≤ i → i < l.length → Leads (rd_T46 l i)) :
    Calls Tryd.prog 31 #[.slice A0 l.length c0] w fun e w' => ∃ b, e = .returned (.bool b) ∧ Below w.heap.size w w' := by
  have hu43 := Tryd.underlying43
  have HL := Aside0.mk hl; have HC := Aside0.mk hc; have HT := Aside0.mk hT
  clear hl hc hT
  go_enter Tryd.func31, Tryd.ntmps31
  go_wp2
  go_loopg [3] l.length (fun gk v3 W => ∃ (x : Nat), v3 = .int .i64 (x : Int) ∧ Aside0 (gk + x = l.length) ∧ Aside0 (Below w.heap.size w W))
  case atStart => exact ⟨0, rfl, ⟨rfl⟩, ⟨Below.refl _ _⟩⟩
  case round =>
    obtain ⟨x, rfl, A1, A2⟩ := hrel
    rcases Nat.eq_zero_or_pos gk with h0 | h0
    · have hx : decide (x < l.length) = false := decide_eq_false (by have := A1.out; omega)
      clear h0
      go_wp2
      repeat (go_quiet (fail); try go_wp2)
      go_ret
      exact ⟨_, rfl, A2.out⟩
    · obtain ⟨gO, rfl⟩ : ∃ j, gk = j + 1 := ⟨gk - 1, by omega⟩
      have hx : decide (x < l.length) = true := decide_eq_true (by have := A1.out; omega)
      have hxb : (x : Int) ≤ 1000 := by have := A1.out; omega
      obtain ⟨y, hy⟩ : ∃ y, y = rd_T46 l (x : Int) := ⟨_, rfl⟩
      have hLy : Leads y := by rw [hy]; exact HT.out _ (by omega) (by have := A1.out; omega)
      have HLY := Aside0.mk hLy; have HY := Aside0.mk hy
      have hyl : (y.f0.length : Int) ≤ 65536 := by have := hLy.1; omega
      clear hLy hy
      go_wp2
      repeat (go_quiet (fail); try go_wp2)
      go_loopg [4] y.f0.length (fun gj v4 W => ∃ (z : Nat), v4 = .int .i64 (z : Int) ∧ Aside0 (gj + z = y.f0.length) ∧ Aside0 (Below w.heap.size w W))
      case atStart => exact ⟨0, rfl, ⟨rfl⟩, A2⟩
      case round =>
        clear A2
        obtain ⟨z, rfl, A3, A2⟩ := hrel
        obtain ⟨ad, B0, d0, hA0, hx0, _, _, _, hl0, hi0⟩ := at_T46 (Kd.C_below HL.out A2.out) (x : Int) (by omega) (by have := A1.out; omega)
        subst hA0
        simp only [Int.toNat_natCast] at hx0
        rw [← HY.out] at hx0 hl0 hi0
        have p1 := eq_true (show (0 : Int) ≤ (x : Int) by omega); have p2 := eq_true (show (x : Int) < (l.length : Int) by have := A1.out; omega)
        have HL0 := Aside0.mk hl0; have HI0 := Aside0.mk hi0
        clear hl0 hi0
        rcases Nat.eq_zero_or_pos gk with h1 | h1
        · have hz : decide (z < y.f0.length) = false := decide_eq_false (by have := A3.out; omega)
          clear h1
          go_wp2
          repeat (go_quiet (fail); try go_wp2)
          go_roundg gO
          case measure => omega
          case rel => exact ⟨x + 1, by go_num, ⟨by have := A1.out; omega⟩, A2⟩
        · obtain ⟨gk, rfl⟩ : ∃ j, gk = j + 1 := ⟨gk - 1, by omega⟩
          have hz : decide (z < y.f0.length) = true := decide_eq_true (by have := A3.out; omega)
          have hzb : (z : Int) ≤ 65536 := by have := A3.out; omega
          obtain ⟨ad1, hB0, hz0, hz1, hz2⟩ := at_T43 HI0.out (z : Int) (by omega) (by have := A3.out; omega)
          subst hB0
          simp only [Int.toNat_natCast] at hz0 hz1 hz2
          obtain ⟨i, hi⟩ : ∃ i, i = rd_T43 y.f0 (z : Int) := ⟨_, rfl⟩
          rw [← hi] at hz0 hz1 hz2
          have HI := Aside0.mk hi
          have p3 := eq_true (show (0 : Int) ≤ (z : Int) by omega); have p4 := eq_true (show (z : Int) < (y.f0.length : Int) by have := A3.out; omega)
          have HD : Aside0 (i.f0 = 17 ∨ i.f0 = 18 → 0 ≤ i.f1 ∧ i.f1 < y.f0.length) := ⟨fun h => by rw [HI.out] at h ⊢; exact HLY.out.2 z (by omega) (of_eq_true p4) h⟩
          clear h1 hi HI
          obtain ⟨F0, F1, F2⟩ := i
          simp only at hz0 hz1 hz2
          by_cases k1 : F0 = 17
          · subst k1
            have HDT := Aside0.mk (HD.out (Or.inl rfl)); clear HD
            have HBX := Aside0.mk (blk_new wr (.cells #[.int .i64 17, .int .i64 F1, .int .i64 F2] 43))
            have q0 : (wr.alloc (.cells #[.int .i64 17, .int .i64 F1, .int .i64 F2] 43)).cell? ⟨wr.heap.size, 0, none⟩ = some (.int .i64 17) := blk_cell HBX.out 0
            have q1 : (wr.alloc (.cells #[.int .i64 17, .int .i64 F1, .int .i64 F2] 43)).cell? ⟨wr.heap.size, 1, none⟩ = some (.int .i64 F1) := blk_cell HBX.out 1
            have q2 := Lib.cell?_alloc_some (.cells #[.int .i64 17, .int .i64 F1, .int .i64 F2] 43) hx0
            by_cases k3 : F1 ≤ (z : Int)
            · have e3 : decide (F1 ≤ (z : Int)) = true := decide_eq_true k3
              have t0 : 0 ≤ F1 := HDT.out.1; have t1 : F1 < y.f0.length := HDT.out.2
              obtain ⟨ad2, hB2, hu0, hu1, hu2⟩ := at_T43 HI0.out F1 t0 t1
              obtain rfl : ad1 = ad2 := Option.some.inj hB2
              generalize (rd_T43 y.f0 F1).f0 = u at hu0
              have p5 := eq_true t0; have p6 := eq_true t1
              have q3 := Lib.cell?_alloc_some (.cells #[.int .i64 17, .int .i64 F1, .int .i64 F2] 43) hu0
              clear hB2 hu0 hu1 hu2 t0 t1 k3
              by_cases k4 : u = 24
              · subst k4
                go_wp2
                repeat (go_quiet (fail); try go_wp2)
                go_roundg gk
                case measure => omega
                case rel => exact ⟨z + 1, by go_num, ⟨by have := A3.out; omega⟩, ⟨by repeat (first | apply below_alloc | apply pw_below_drewN | apply below_drew1 | exact A2.out)⟩⟩
              · have e4 : (u != 24) = true := bne_iff_ne.2 k4
                clear k4
                go_wp2
                repeat (go_quiet (fail); try go_wp2)
                go_ret
                exact ⟨_, rfl, by repeat (first | apply below_alloc | apply pw_below_drewN | apply below_drew1 | exact A2.out)⟩
            · have e3 : decide (F1 ≤ (z : Int)) = false := decide_eq_false k3
              clear k3
              go_wp2
              repeat (go_quiet (fail); try go_wp2)
              go_roundg gk
              case measure => omega
              case rel => exact ⟨z + 1, by go_num, ⟨by have := A3.out; omega⟩, ⟨by repeat (first | apply below_alloc | apply pw_below_drewN | apply below_drew1 | exact A2.out)⟩⟩
          by_cases k2 : F0 = 18
          · subst k2
            have HDT := Aside0.mk (HD.out (Or.inr rfl)); clear HD
            have HBX := Aside0.mk (blk_new wr (.cells #[.int .i64 18, .int .i64 F1, .int .i64 F2] 43))
            have q0 : (wr.alloc (.cells #[.int .i64 18, .int .i64 F1, .int .i64 F2] 43)).cell? ⟨wr.heap.size, 0, none⟩ = some (.int .i64 18) := blk_cell HBX.out 0
            have q1 : (wr.alloc (.cells #[.int .i64 18, .int .i64 F1, .int .i64 F2] 43)).cell? ⟨wr.heap.size, 1, none⟩ = some (.int .i64 F1) := blk_cell HBX.out 1
            have q2 := Lib.cell?_alloc_some (.cells #[.int .i64 18, .int .i64 F1, .int .i64 F2] 43) hx0
            by_cases k3 : F1 ≤ (z : Int)
            · have e3 : decide (F1 ≤ (z : Int)) = true := decide_eq_true k3
              have t0 : 0 ≤ F1 := HDT.out.1; have t1 : F1 < y.f0.length := HDT.out.2
              obtain ⟨ad2, hB2, hu0, hu1, hu2⟩ := at_T43 HI0.out F1 t0 t1
              obtain rfl : ad1 = ad2 := Option.some.inj hB2
              generalize (rd_T43 y.f0 F1).f0 = u at hu0
              have p5 := eq_true t0; have p6 := eq_true t1
              have q3 := Lib.cell?_alloc_some (.cells #[.int .i64 18, .int .i64 F1, .int .i64 F2] 43) hu0
              clear hB2 hu0 hu1 hu2 t0 t1 k3
              by_cases k4 : u = 24
              · subst k4
                go_wp2
                repeat (go_quiet (fail); try go_wp2)
                go_roundg gk
                case measure => omega
                case rel => exact ⟨z + 1, by go_num, ⟨by have := A3.out; omega⟩, ⟨by repeat (first | apply below_alloc | apply pw_below_drewN | apply below_drew1 | exact A2.out)⟩⟩
              · have e4 : (u != 24) = true := bne_iff_ne.2 k4
                clear k4
                go_wp2
                repeat (go_quiet (fail); try go_wp2)
                go_ret
                exact ⟨_, rfl, by repeat (first | apply below_alloc | apply pw_below_drewN | apply below_drew1 | exact A2.out)⟩
            · have e3 : decide (F1 ≤ (z : Int)) = false := decide_eq_false k3
              clear k3
              go_wp2
              repeat (go_quiet (fail); try go_wp2)
              go_roundg gk
              case measure => omega
              case rel => exact ⟨z + 1, by go_num, ⟨by have := A3.out; omega⟩, ⟨by repeat (first | apply below_alloc | apply pw_below_drewN | apply below_drew1 | exact A2.out)⟩⟩
          have e1 : (F0 == 17) = false := beq_eq_false_iff_ne.2 k1
          have e2 : (F0 == 18) = false := beq_eq_false_iff_ne.2 k2
          have HBX := Aside0.mk (blk_new wr (.cells #[.int .i64 F0, .int .i64 F1, .int .i64 F2] 43))
          have q0 : (wr.alloc (.cells #[.int .i64 F0, .int .i64 F1, .int .i64 F2] 43)).cell? ⟨wr.heap.size, 0, none⟩ = some (.int .i64 F0) := blk_cell HBX.out 0
          have q1 : (wr.alloc (.cells #[.int .i64 F0, .int .i64 F1, .int .i64 F2] 43)).cell? ⟨wr.heap.size, 1, none⟩ = some (.int .i64 F1) := blk_cell HBX.out 1
          have q2 := Lib.cell?_alloc_some (.cells #[.int .i64 F0, .int .i64 F1, .int .i64 F2] 43) hx0
          clear k1 k2
          go_wp2
          repeat (go_quiet (fail); try go_wp2)
          go_roundg gk
          case measure => omega
          case rel => exact ⟨z + 1, by go_num, ⟨by have := A3.out; omega⟩, ⟨by repeat (first | apply below_alloc | apply pw_below_drewN | apply below_drew1 | exact A2.out)⟩⟩
end Go.Proofs.YthckiolgpgplpaaDoor
end
section
namespace Go.Proofs.YthckiolgpgplpaaDoor
open Go.RowKit Go.Proofs.YthckiolgpgplpaaDoorW.PrintWords Go.Proofs.YthckiolgpgplpaaDoorW.PrintLast Go.Proofs.YthckiolgpgplpaaDoorW.PrintMore Go.Proofs.YthckiolgpgplpaaDoor.P Go.Proofs.YthckiolgpgplpaaDoor.Q
set_option linter.unusedVariables false
set_option linter.unusedSimpArgs false
set_option maxRecDepth 1000000
set_option maxHeartbeats 1000000
theorem info80 : (Tryd.prog.info? 80).map (fun i => (i.zero, i.size, i.bytes)) = some (some (.agg #[.int .i64 0, .int .i64 0, .int .i64 0, .slice none 0 0, .slice none 0 0]), 5, 72) := by kernel_rfl
theorem rbegin_nil (w : World) (g : Nat) (A0 : Option Addr) (c0 : Nat) (l : List S46) (x2 : Value) (main fuel : Int) (hb : w.heap[g]? = some (.cells #[.slice A0 l.length c0, .slice none 0 0, x2, .int .i64 0, .int .i64 fuel, .int .i64 0, .int .i64 0, .int .i64 0, .int .i64 0, .int .i64 0, .slice none 0 0, .bool false, .int .i64 0] 54 (0, 0)))
    (hl : Kd.C k46 w A0 l.length l) (k0 : 0 ≤ main) (k1 : main < l.length) (c : Nat) (hc : (rd_T46 l main).f1 = c) (hc1 : c ≤ 65536) (w0 : World) (hB : w0.heap.size ≤ g) (hw : Below w0.heap.size w0 w) :
    Calls Tryd.prog 48 #[.pointer (some ⟨g, 0, none⟩), .int .i64 main, .slice none 0 0] w fun e w' => e = .returned (.tuple #[]) ∧ Below w0.heap.size w0 w' := by
  obtain ⟨ad, A1, c1, e, hx0, hx1, hx2, hx3, hl0, hi0⟩ := at_T46 hl main k0 k1
  subst e
  rw [hc] at hx1
  have b0 : w.cell? ⟨g, 0, none⟩ = some (.slice (some ad) l.length c0) := blk_cell hb 0
  have p1 := eq_true k0; have q1 := eq_true k1
  have hgl := blk_lt hb
  have HB := Aside0.mk hb; have HC := Aside0.mk hc; have HW := Aside0.mk hw
  clear hb hc hw hi0 hx0 hx2 hx3 hl0 hl
  go_enter Tryd.func48, Tryd.ntmps48
  obtain ⟨i2, hi2, hz2⟩ := Option.map_eq_some_iff.1 info2
  simp only [Prod.mk.injEq] at hz2
  go_wp2_with (first
    | (with_reducible refine wpList_make_row w rfl (.tmp 16) (.tmp 16) 23 rfl 2 i2 (.int .i64 0) Tryd.underlying23 hi2 hz2.1 hz2.2.1 rfl .i64 .i64 c rfl rfl (by rw [hz2.2.2]; omega) (by omega) ?_))
  go_loopg [7] 1 (fun gk v7 W => v7 = .int .i64 0 ∧ Aside0 (W = (w.alloc (.cells (madeCells #[.int .i64 0] c) 2)).alloc (.cells #[.int .i64 main, .int .i64 0, .int .i64 (-1), .slice (some ⟨w.heap.size, 0, none⟩) c c, .slice none 0 0] 80)))
  case atStart => exact ⟨rfl, ⟨rfl⟩⟩
  case round =>
    obtain ⟨rfl, HWR⟩ := hrel
    have hbr : wr.heap[g]? = some (.cells #[.slice (some ad) l.length c0, .slice none 0 0, x2, .int .i64 0, .int .i64 fuel, .int .i64 0, .int .i64 0, .int .i64 0, .int .i64 0, .int .i64 0, .slice none 0 0, .bool false, .int .i64 0] 54 (0, 0)) := by
      rw [HWR.out]; exact blk_alloc (blk_alloc HB.out _) _
    have hfr : wr.heap[w.heap.size + 1]? = some (.cells #[.int .i64 main, .int .i64 0, .int .i64 (-1), .slice (some ⟨w.heap.size, 0, none⟩) c c, .slice none 0 0] 80 (0, 0)) := by
      rw [HWR.out]
      have := blk_new (w.alloc (.cells (madeCells #[.int .i64 0] c) 2)) (.cells #[.int .i64 main, .int .i64 0, .int .i64 (-1), .slice (some ⟨w.heap.size, 0, none⟩) c c, .slice none 0 0] 80)
      rwa [show (w.alloc (.cells (madeCells #[.int .i64 0] c) 2)).heap.size = w.heap.size + 1 by simp] at this
    have HBR := Aside0.mk (show Below w0.heap.size w0 wr by rw [HWR.out]; exact below_alloc (below_alloc HW.out _) _)
    have HG := Aside0.mk hbr
    have y1 : wr.cell? ⟨g, 1, none⟩ = some (.slice none 0 0) := blk_cell hbr 1
    have z0 : wr.cell? ⟨w.heap.size + 1, 0, none⟩ = some (.int .i64 main) := blk_cell hfr 0
    have z1 : wr.cell? ⟨w.heap.size + 1, 1, none⟩ = some (.int .i64 0) := blk_cell hfr 1
    have z2 : wr.cell? ⟨w.heap.size + 1, 2, none⟩ = some (.int .i64 (-1)) := blk_cell hfr 2
    have z3 : wr.cell? ⟨w.heap.size + 1, 3, none⟩ = some (.slice (some ⟨w.heap.size, 0, none⟩) c c) := blk_cell hfr 3
    have z4 : wr.cell? ⟨w.heap.size + 1, 4, none⟩ = some (.slice none 0 0) := blk_cell hfr 4
    have y1a := Lib.cell?_alloc_some (.cells #[.int .i64 main, .int .i64 0, .int .i64 (-1), .slice (some ⟨w.heap.size, 0, none⟩) c c, .slice none 0 0] 80) y1
    clear hbr hfr
    go_wp2
    go_region_law (refine step_append_cells (w0 := w0) w0.heap.size (by rfl) (.tmp 37) (.tmp 39) 50 80 (.agg #[.int .i64 0, .int .i64 0, .int .i64 0, .slice none 0 0, .slice none 0 0]) 5 72 rfl Tryd.underlying50 info80 rfl (by decide) (by decide) (.slice none 0 0) 0 [] [.int .i64 main, .int .i64 0, .int .i64 (-1), .slice (some ⟨w.heap.size, 0, none⟩) c c, .slice none 0 0] rfl rfl rfl (by intro u hu; simp at hu; rcases hu with rfl | rfl | rfl | rfl | rfl <;> rfl) ⟨rfl, .inl ⟨rfl, rfl⟩⟩ (below_drew1 HBR.out) (below_size (below_drew1 HBR.out)) (by decide) ?_; intro v1 w1 ho hb hg hat; have HB5 := Aside0.mk hb; have G5 := blk_grown (blk_drew HG.out) hg (by simp [Value.ownBlock]); have t1 := blk_cell G5 1; have t1f := blk_frozen G5 1; obtain ⟨vA, vn, vC, rfl⟩ : ∃ A n c, v1 = .slice A n c := (by rcases ho.2 with ⟨h, _⟩ | ⟨_, _, _, h, _⟩ <;> exact ⟨_, _, _, h⟩); clear ho hb hg hat G5)
    all_goals
      go_wp2
      go_end0
      exact ⟨rfl, below_set HB5.out hB⟩
section
variable (w : World) (A0 A2 : Option Addr) (c0 c2 : Nat) (l : List S46) (input : List Int) (main fuel : Int)
theorem refnew_unsound (hl : Kd.C k46 w A0 l.length l) (hc : l.length ≤ c0) (k : Nat) (h : parallaxref08_Sound.f k l main = some false) (v : Value) :
    Calls Tryd.prog 26 #[.slice A0 l.length c0, .int .i64 main, v, .int .i64 fuel] w fun e w' => e = .returned (.tuple #[.pointer none, .int .i64 60]) ∧ Below w.heap.size w w' := by
  have HL := Aside0.mk hl; have H := Aside0.mk h; have HC := Aside0.mk hc
  clear hl h hc
  go_enter Tryd.func26, Tryd.ntmps26
  go_wp2_with ((with_reducible refine gate_callee (f := 46) rfl ?_); refine goesL_ (some 13) rfl rfl Tryd.func46 (by kernel_rfl) rfl #[.slice A0 l.length c0, .int .i64 main] rfl (by (try simp only [List.map_toArray, List.map_cons, List.map_nil]); first | done | rfl) ?_; refine (parallaxref08_Sound.calls k A0 c0 l main false w HL.out HC.out H.out).mono ?_; rintro e w1 ⟨rfl, hb⟩; have HB := Aside0.mk hb; clear hb; refine ⟨_, rfl, ?_⟩)
  go_ret2
  exact ⟨rfl, HB.out⟩
theorem refnew_args (hl : Kd.C k46 w A0 l.length l) (hc : l.length ≤ c0) (k : Nat) (h : parallaxref08_Sound.f k l main = some true) (n2 : Nat) (hbad : fuel < 0 ∨ 1048576 < fuel ∨ 1000 < n2) :
    Calls Tryd.prog 26 #[.slice A0 l.length c0, .int .i64 main, .slice A2 n2 c2, .int .i64 fuel] w fun e w' => e = .returned (.tuple #[.pointer none, .int .i64 1]) ∧ Below w.heap.size w w' := by
  have HL := Aside0.mk hl; have H := Aside0.mk h; have HC := Aside0.mk hc
  clear hl h hc
  by_cases d1 : fuel < 0
  · have e1 : decide (fuel < 0) = true := decide_eq_true d1
    clear hbad d1
    go_enter Tryd.func26, Tryd.ntmps26
    go_wp2_with ((with_reducible refine gate_callee (f := 46) rfl ?_); refine goesL_ (some 13) rfl rfl Tryd.func46 (by kernel_rfl) rfl #[.slice A0 l.length c0, .int .i64 main] rfl (by (try simp only [List.map_toArray, List.map_cons, List.map_nil]); first | done | rfl) ?_; refine (parallaxref08_Sound.calls k A0 c0 l main true w HL.out HC.out H.out).mono ?_; rintro e w1 ⟨rfl, hb⟩; have HB := Aside0.mk hb; clear hb; refine ⟨_, rfl, ?_⟩)
    go_ret2
    exact ⟨rfl, HB.out⟩
  have e1 : decide (fuel < 0) = false := decide_eq_false d1
  by_cases d2 : 1048576 < fuel
  · have e2 : decide (1048576 < fuel) = true := decide_eq_true d2
    clear hbad d1 d2
    go_enter Tryd.func26, Tryd.ntmps26
    go_wp2_with ((with_reducible refine gate_callee (f := 46) rfl ?_); refine goesL_ (some 13) rfl rfl Tryd.func46 (by kernel_rfl) rfl #[.slice A0 l.length c0, .int .i64 main] rfl (by (try simp only [List.map_toArray, List.map_cons, List.map_nil]); first | done | rfl) ?_; refine (parallaxref08_Sound.calls k A0 c0 l main true w HL.out HC.out H.out).mono ?_; rintro e w1 ⟨rfl, hb⟩; have HB := Aside0.mk hb; clear hb; refine ⟨_, rfl, ?_⟩)
    go_ret2
    exact ⟨rfl, HB.out⟩
  have e2 : decide (1048576 < fuel) = false := decide_eq_false d2
  have e3 : decide (1000 < (n2 : Int)) = true := decide_eq_true (by omega)
  clear hbad d1 d2
  go_enter Tryd.func26, Tryd.ntmps26
  go_wp2_with ((with_reducible refine gate_callee (f := 46) rfl ?_); refine goesL_ (some 13) rfl rfl Tryd.func46 (by kernel_rfl) rfl #[.slice A0 l.length c0, .int .i64 main] rfl (by (try simp only [List.map_toArray, List.map_cons, List.map_nil]); first | done | rfl) ?_; refine (parallaxref08_Sound.calls k A0 c0 l main true w HL.out HC.out H.out).mono ?_; rintro e w1 ⟨rfl, hb⟩; have HB := Aside0.mk hb; clear hb; refine ⟨_, rfl, ?_⟩)
  go_ret2
  exact ⟨rfl, HB.out⟩
theorem refnew_ok (hl : Kd.C k46 w A0 l.length l) (hc : l.length ≤ c0) (k : Nat) (h : parallaxref08_Sound.f k l main = some true) (hin : Kd.C (Kd.int .i64) w A2 input.length input) (hc2 : input.length ≤ c2) (hf0 : 0 ≤ fuel) (hf1 : fuel ≤ 1048576) (hi1 : input.length ≤ 1000)
    (m0 : 0 ≤ main) (m1 : main < l.length) (hcells : 0 ≤ (rd_T46 l main).f1 ∧ (rd_T46 l main).f1 ≤ 65536) :
    Calls Tryd.prog 26 #[.slice A0 l.length c0, .int .i64 main, .slice A2 input.length c2, .int .i64 fuel] w fun e w' => ∃ g, e = .returned (.tuple #[.pointer (some ⟨g, 0, none⟩), .int .i64 0]) ∧ Below w.heap.size w w' := by
  have e1 : decide (fuel < 0) = false := decide_eq_false (by omega)
  have e2 : decide (1048576 < fuel) = false := decide_eq_false (by omega)
  have e3 : decide (1000 < (input.length : Int)) = false := decide_eq_false (by omega)
  have HO : parallaxref09_own.f input = some ([] ++ input) := by unfold parallaxref09_own.f; rw [if_pos (by simp; omega)]
  have HL := Aside0.mk hl; have H := Aside0.mk h; have HC := Aside0.mk hc; have HIN := Aside0.mk hin; have HCE := Aside0.mk hcells; have HO := Aside0.mk HO; have HC2 := Aside0.mk hc2
  clear hl h hc hin hcells hc2
  go_enter Tryd.func26, Tryd.ntmps26
  go_wp2_with (first
    | ((with_reducible refine gate_callee (f := 46) rfl ?_); refine goesL_ (some 13) rfl rfl Tryd.func46 (by kernel_rfl) rfl #[.slice A0 l.length c0, .int .i64 main] rfl (by (try simp only [List.map_toArray, List.map_cons, List.map_nil]); first | done | rfl) ?_; refine (parallaxref08_Sound.calls k A0 c0 l main true w HL.out HC.out H.out).mono ?_; rintro e w1 ⟨rfl, hb⟩; have HB := Aside0.mk hb; clear hb; refine ⟨_, rfl, ?_⟩)
    | ((with_reducible refine gate_callee (f := 47) rfl ?_); refine goesL_ (some 28) rfl rfl Tryd.func47 (by kernel_rfl) rfl #[.slice A2 input.length c2] rfl (by (try simp only [List.map_toArray, List.map_cons, List.map_nil]); first | done | rfl) ?_; refine (parallaxref09_own.calls A2 c2 input _ _ (Kd.C_below HIN.out HB.out) HC2.out HO.out).mono ?_; rintro e w2 ⟨v2, rfl, ho, hb⟩; obtain ⟨vA, vn, vC, rfl⟩ : ∃ A n c, v2 = .slice A n c := (by obtain ⟨A, c, e⟩ := Kd.R_slice ho; exact ⟨_, _, _, e⟩); clear ho; have HB2 := Aside0.mk (HB.out.trans (hb.mono HB.out.size)); clear hb; refine ⟨_, rfl, ?_⟩)
    | ((with_reducible refine gate_callee (f := 48) rfl ?_); refine goesL_ (some 34) rfl rfl Tryd.func48 (by kernel_rfl) rfl #[.pointer (some ⟨w2.heap.size, 0, none⟩), .int .i64 main, .slice none 0 0] rfl (by (try simp only [List.map_toArray, List.map_cons, List.map_nil]); first | done | rfl) ?_; refine (rbegin_nil _ w2.heap.size A0 c0 l (.slice vA vn vC) main fuel (blk_new w2 _) (Kd.C_alloc (Kd.C_below HL.out HB2.out) _) m0 m1 (rd_T46 l main).f1.toNat (by have := HCE.out; omega) (by have := HCE.out; omega) w HB2.out.size (below_alloc HB2.out _)).mono ?_; rintro e w3 ⟨rfl, hb⟩; have HB3 := Aside0.mk hb; clear hb; refine ⟨_, rfl, ?_⟩))
  go_ret2
  exact ⟨_, rfl, HB3.out⟩
end
end Go.Proofs.YthckiolgpgplpaaDoor
end
section
namespace Go.Proofs.YthckiolgpgplpaaDoor
open Go.RowKit Go.Proofs.YthckiolgpgplpaaDoorW.PrintWords Go.Proofs.YthckiolgpgplpaaDoorW.PrintLast Go.Proofs.YthckiolgpgplpaaDoorW.PrintMore Go.Proofs.YthckiolgpgplpaaDoor.P Go.Proofs.YthckiolgpgplpaaDoor.Q
set_option linter.unusedVariables false
set_option linter.unusedSimpArgs false
/-- What a part of a step leaves of a machine that has not ended. -/
structure Fate (m : Mc) (p : Mc × Bool) : Prop where
  sum : p.1.ticks + p.1.fuel = m.ticks + m.fuel
  ticks : p.1.ticks = m.ticks + (if p.2 = true then 1 else 0)
  goes : p.2 = true → p.1.ended = false
  last : p.1.ended = true → ∃ l x, p.1.events = l ++ [x] ∧ (∀ e ∈ l, e.1 < 3) ∧ 3 ≤ x.1
  evs : p.1.ended = false → ∀ e ∈ p.1.events, e.1 < 3
theorem Fate.end_ {m m' : Mc} (k n : Int) (hk : 3 ≤ k) (h1 : m'.ticks = m.ticks) (h2 : m'.fuel = m.fuel) (he : m'.events = m.events) (hv : ∀ e ∈ m.events, e.1 < 3) : Fate m (m'.endM k n, false) := by
  refine ⟨by show m'.ticks + m'.fuel = _; omega, by show m'.ticks = _; simp [h1], (fun h => by cases h), fun _ => ⟨m.events, (k, n), by show m'.events ++ [(k, n)] = _; rw [he], hv, hk⟩, fun h => by cases h⟩
theorem Fate.on {m m' : Mc} (h1 : m'.ticks = m.ticks) (h2 : m'.fuel = m.fuel) (hd : m'.ended = false) (he : ∀ e ∈ m'.events, e.1 < 3) : Fate m (m', false) :=
  ⟨by show m'.ticks + m'.fuel = _; omega, by simp [h1], (fun h => by cases h), (fun h => by rw [show m'.ended = true from h] at hd; cases hd), fun _ => he⟩
theorem snoc_lt {l : List (Int × Int)} {k n : Int} (h : ∀ e ∈ l, e.1 < 3) (hk : k < 3) : ∀ e ∈ l ++ [(k, n)], e.1 < 3 := by
  intro e he
  rcases List.mem_append.1 he with h1 | h1
  · exact h e h1
  · obtain rfl := List.mem_singleton.1 h1; exact hk
theorem does_fate {m : Mc} (hd : m.ended = false) (hv : ∀ e ∈ m.events, e.1 < 3) (r : List Fr) (f : Fr) (i : S43) : Fate m (m.does r f i) := by
  unfold Mc.does
  split
  · split
    · exact .end_ 4 4 (by decide) rfl rfl rfl hv
    · exact .on rfl rfl hd hv
  split
  · split
    · exact .end_ 3 0 (by decide) rfl rfl rfl hv
    split
    · exact .on rfl rfl hd hv
    · exact .on rfl rfl hd hv
  split
  · exact .on rfl rfl hd (snoc_lt hv (by decide))
  split
  · split
    · exact .end_ 4 5 (by decide) rfl rfl rfl hv
    · exact .on rfl rfl hd (snoc_lt hv (by decide))
  split
  · split
    · exact .end_ 5 0 (by decide) rfl rfl rfl hv
    · refine ⟨?_, ?_, fun _ => hd, (fun h => by rw [show m.ended = true from h] at hd; cases hd), fun _ => hv⟩
      · show m.ticks + 1 + (m.fuel - 1) = _; omega
      · rfl
  split
  · exact .on rfl rfl hd hv
  · exact .end_ 4 _ (by decide) rfl rfl rfl hv
theorem one_fate {m : Mc} (hd : m.ended = false) (hv : ∀ e ∈ m.events, e.1 < 3) : Fate m m.one := by
  unfold Mc.one
  cases m.frames.getLast? with
  | none => exact .on rfl rfl hd hv
  | some f => exact does_fate hd hv _ _ _
theorem steps_fate : ∀ (k : Nat) {m : Mc}, m.ended = false → (∀ e ∈ m.events, e.1 < 3) → Fate m (m.steps k) ∧ ((m.steps k).2 = false → (m.steps k).1.ended = true)
  | 0, m, hd, hv => ⟨.end_ 5 0 (by decide) rfl rfl rfl hv, fun _ => rfl⟩
  | k + 1, m, hd, hv => by
    have F := one_fate hd hv
    show Fate m (if m.one.2 = true then (m.one.1, true) else if m.one.1.ended = true then (m.one.1, false) else Mc.steps k m.one.1) ∧ ((if m.one.2 = true then (m.one.1, true) else if m.one.1.ended = true then (m.one.1, false) else Mc.steps k m.one.1).2 = false → (if m.one.2 = true then (m.one.1, true) else if m.one.1.ended = true then (m.one.1, false) else Mc.steps k m.one.1).1.ended = true)
    by_cases ht : m.one.2 = true
    · rw [if_pos ht]
      have e : (m.one.1, true) = m.one := by rw [← ht]
      rw [e]
      exact ⟨F, fun h => by rw [ht] at h; cases h⟩
    · rw [if_neg ht]
      have ht := Bool.eq_false_iff.2 ht
      have hs := F.ticks
      rw [ht, if_neg (by decide)] at hs
      by_cases hd : m.one.1.ended = true
      · rw [if_pos hd]
        have e : (m.one.1, false) = m.one := by rw [← ht]
        rw [e]
        exact ⟨F, fun _ => hd⟩
      · rw [if_neg hd]
        have hd := Bool.eq_false_iff.2 hd
        obtain ⟨G, g⟩ := steps_fate k hd (F.evs hd)
        exact ⟨⟨G.sum.trans F.sum, by rw [G.ticks]; omega, G.goes, G.last, G.evs⟩, g⟩
/-- A machine between two steps: its last event is an end if it has ended, and no other. -/
structure Told (m : Mc) : Prop where
  last : m.ended = true → ∃ l x, m.events = l ++ [x] ∧ (∀ e ∈ l, e.1 < 3) ∧ 3 ≤ x.1
  evs : m.ended = false → ∀ e ∈ m.events, e.1 < 3
theorem step_told {m : Mc} (T : Told m) : Told m.step.1 ∧ m.step.1.ticks + m.step.1.fuel = m.ticks + m.fuel ∧ m.step.1.ticks = m.ticks + (if m.step.2 = true then 1 else 0) ∧ (m.step.2 = false → m.step.1.ended = true) := by
  unfold Mc.step
  by_cases he : m.ended = true
  · rw [if_pos he]
    exact ⟨T, rfl, by simp, fun _ => he⟩
  · rw [if_neg he]
    have he := Bool.eq_false_iff.2 he
    obtain ⟨F, h⟩ := steps_fate 1048576 he (T.evs he)
    exact ⟨⟨F.last, F.evs⟩, F.sum, F.ticks, h⟩
theorem endP_told : ∀ (k : Nat) {m : Mc}, Told m → Told (m.endP k).1 ∧ (m.endP k).1.ticks + (m.endP k).1.fuel = m.ticks + m.fuel
  | 0, m, T => ⟨T, rfl⟩
  | k + 1, m, T => by
    obtain ⟨a, b, c, d⟩ := step_told T
    unfold Mc.endP
    by_cases h : m.step.2 = true
    · rw [if_pos h]
      obtain ⟨e, f⟩ := endP_told k a
      exact ⟨e, f.trans b⟩
    · rw [if_neg h]; exact ⟨a, b⟩
theorem endP_ends : ∀ (k : Nat) {m : Mc}, Told m → Fit m → m.fuel < k → (m.endP k).2 = true ∧ (m.endP k).1.ended = true
  | 0, m, T, F, h => by have := F.good.fuel.1; omega
  | k + 1, m, T, F, h => by
    obtain ⟨a, b, c, d⟩ := step_told T
    unfold Mc.endP
    by_cases h1 : m.step.2 = true
    · rw [if_pos h1]
      rw [h1, if_pos rfl] at c
      exact endP_ends k a (step_fit F).1 (by omega)
    · rw [if_neg h1]
      have h2 := d (Bool.eq_false_iff.2 h1)
      exact ⟨h2, h2⟩
theorem told_new (l : List S46) (input : List Int) (main fuel : Int) : Told ((mc0 l input fuel).beginM main []) :=
  ⟨(fun h => by cases h), fun _ e he => by cases he⟩
end Go.Proofs.YthckiolgpgplpaaDoor
end
section
namespace Go.Proofs.YthckiolgpgplpaaDoor
open Go.RowKit Go.Proofs.YthckiolgpgplpaaDoorW.PrintWords Go.Proofs.YthckiolgpgplpaaDoorW.PrintLast Go.Proofs.YthckiolgpgplpaaDoorW.PrintMore Go.Proofs.YthckiolgpgplpaaDoor.P Go.Proofs.YthckiolgpgplpaaDoor.Q
set_option linter.unusedVariables false
set_option linter.unusedSimpArgs false
/-- One machine at g, of its own from B on. -/
def Solo (g : Nat) (m : Mc) (B : Nat) (w0 w : World) : Prop := ∃ Rd o, o.g = g ∧ MOn Rd w o m ∧ (∀ k, k ∈ o.own → B ≤ k) ∧ Below B w0 w
theorem Solo.below {g : Nat} {m : Mc} {B : Nat} {w0 w w' : World} (S : Solo g m B w0 w) (hB : B ≤ w.heap.size) (hb : Below w.heap.size w w') : Solo g m B w0 w' := by
  obtain ⟨Rd, o, hg, hM, hl, hw⟩ := S
  exact ⟨Rd, o, hg, hM.below hb, hl, hw.trans (hb.mono hB)⟩
theorem Solo.of {g : Nat} {B : Nat} {w0 w w' : World} {Rd : Nat → Prop} {o : MHo} (hg : o.g = g) (hl : ∀ k, k ∈ o.own → B ≤ k) (hw : Below B w0 w) {m' : Mc} {v : Value} {e : Ending} (hB : B ≤ w.heap.size) (hp : MPost Rd w o m' v e w') : e = .returned v ∧ Solo g m' B w0 w' := by
  obtain ⟨he, o', hs, hM, hm⟩ := hp
  refine ⟨he, Rd, o', hs.1.trans hg, hM, fun k hk => ?_, hw.trans (hm.below (a := w) hB (fun k hk => hl k hk))⟩
  rcases hs.2 k hk with h | h
  · exact hl k h
  · omega
theorem Solo.step {g : Nat} {m : Mc} {B : Nat} {w0 w : World} (S : Solo g m B w0 w) (F : Fit m) (hB : B ≤ w0.heap.size) : Calls Tryd.prog 21 #[.pointer (some ⟨g, 0, none⟩)] w (fun e w' => e = .returned (.bool m.step.2) ∧ Solo g m.step.1 B w0 w') := by
  obtain ⟨Rd, o, hg, hM, hl, hw⟩ := S
  have h := step_on hM F
  rw [MHo.ptr, hg] at h
  exact h.mono (fun e w' hp => Solo.of hg hl hw (Nat.le_trans hB hw.size) hp)
theorem Solo.end_ {g : Nat} {m : Mc} {B : Nat} {w0 w : World} (S : Solo g m B w0 w) (F : Fit m) (hB : B ≤ w0.heap.size) (most : Nat) (hm : most ≤ 1000000) : Calls Tryd.prog 15 #[.pointer (some ⟨g, 0, none⟩), .int .i64 most] w (fun e w' => e = .returned (.bool (m.endP (most + 1)).2) ∧ Solo g (m.endP (most + 1)).1 B w0 w') := by
  obtain ⟨Rd, o, hg, hM, hl, hw⟩ := S
  have h := end_law hM F most hm
  rw [MHo.ptr, hg] at h
  exact h.mono (fun e w' hp => Solo.of hg hl hw (Nat.le_trans hB hw.size) hp)
/-- Two. -/
def Duo (g1 : Nat) (m1 : Mc) (g2 : Nat) (m2 : Mc) (B : Nat) (w0 w : World) : Prop :=
  ∃ Rd1 o1 Rd2 o2, o1.g = g1 ∧ o2.g = g2 ∧ MOn Rd1 w o1 m1 ∧ MOn Rd2 w o2 m2 ∧ (∀ k, k ∈ o1.own → B ≤ k) ∧ (∀ k, k ∈ o2.own → B ≤ k) ∧ (∀ k, k ∈ o1.own → k ∉ o2.own ∧ ¬ Rd2 k) ∧ (∀ k, k ∈ o2.own → ¬ Rd1 k) ∧ Below B w0 w
section
variable {g1 g2 : Nat} {m1 m2 : Mc} {B : Nat} {w0 w w' : World}
theorem Duo.swap (D : Duo g1 m1 g2 m2 B w0 w) : Duo g2 m2 g1 m1 B w0 w := by
  obtain ⟨Rd1, o1, Rd2, o2, h1, h2, h3, h4, h5, h6, h7, h8, h9⟩ := D
  exact ⟨Rd2, o2, Rd1, o1, h2, h1, h4, h3, h6, h5, fun k hk => ⟨fun h => (h7 k h).1 hk, h8 k hk⟩, fun k hk => (h7 k hk).2, h9⟩
theorem Duo.below (D : Duo g1 m1 g2 m2 B w0 w) (hB : B ≤ w0.heap.size) (hb : Below w.heap.size w w') : Duo g1 m1 g2 m2 B w0 w' := by
  obtain ⟨Rd1, o1, Rd2, o2, h1, h2, h3, h4, h5, h6, h7, h8, h9⟩ := D
  exact ⟨Rd1, o1, Rd2, o2, h1, h2, h3.below hb, h4.below hb, h5, h6, h7, h8, h9.trans (hb.mono (Nat.le_trans hB h9.size))⟩
theorem Duo.solo (D : Duo g1 m1 g2 m2 B w0 w) : Solo g1 m1 B w0 w := by
  obtain ⟨Rd1, o1, Rd2, o2, h1, h2, h3, h4, h5, h6, h7, h8, h9⟩ := D
  exact ⟨Rd1, o1, h1, h3, h5, h9⟩
theorem Duo.step (D : Duo g1 m1 g2 m2 B w0 w) (F : Fit m1) (hB : B ≤ w0.heap.size) : Calls Tryd.prog 21 #[.pointer (some ⟨g1, 0, none⟩)] w (fun e w' => e = .returned (.bool m1.step.2) ∧ Duo g1 m1.step.1 g2 m2 B w0 w') := by
  obtain ⟨Rd1, o1, Rd2, o2, h1, h2, h3, h4, h5, h6, h7, h8, h9⟩ := D
  have h := step_on h3 F
  rw [MHo.ptr, h1] at h
  refine h.mono ?_
  rintro e w' ⟨rfl, o', hs, hM, hm⟩
  have hsz := Nat.le_trans hB h9.size
  have hnew : ∀ k, k ∈ o'.own → k ∈ o1.own ∨ w.heap.size ≤ k := hs.2
  refine ⟨rfl, Rd1, o', Rd2, o2, hs.1.trans h1, h2, hM, h4.mod hm (fun k hk hk1 => ?_), fun k hk => ?_, h6, fun k hk => ?_, h8, h9.trans (hm.below (a := w) hsz (fun k hk => h5 k hk))⟩
  · rcases hk with hk | hk
    · exact (h7 k hk1).1 hk
    · exact (h7 k hk1).2 hk
  · rcases hnew k hk with h | h
    · exact h5 k h
    · omega
  · rcases hnew k hk with h | h
    · exact h7 k h
    · exact ⟨fun h' => by have := h4.lt k h'; omega, fun h' => by have := h4.low k h'; omega⟩
end
/-! Codes that are written down. -/
def insCells (x : S43) : List Value := [.int .i64 x.f0, .int .i64 x.f1, .int .i64 x.f2]
theorem reps_ins_from (w : World) : ∀ (l pre : List S43) (cs : List Value), Reps (k43.K w) 3 pre cs → Reps (k43.K w) 3 (pre ++ l) (cs ++ l.flatMap insCells)
  | [], pre, cs, h => by simpa using h
  | x :: l, pre, cs, h => by
    have := reps_ins_from w l (pre ++ [x]) (cs ++ insCells x) (h.snoc (k43_mk w x) rfl)
    simpa [List.append_assoc] using this
theorem reps_ins (w : World) (l : List S43) : Reps (k43.K w) 3 l (l.flatMap insCells) := reps_ins_from w l [] [] (Reps.none _ _)
theorem ins_row {w : World} {g : Nat} {t : TypeId} {l : List S43} (h : w.heap[g]? = some (.cells (l.flatMap insCells).toArray t (0, 0))) (hl : l.length ≤ 1000000) : Kd.C k43 w (some ⟨g, 0, none⟩) l.length l := by
  have hlen : (l.flatMap insCells).length = l.length * 3 := (reps_ins w l).1
  have ho : w.ownsRow 0 t 3 (.slice (some ⟨g, 0, none⟩) l.length l.length) l.length (l.flatMap insCells) := ⟨hlen, .inr ⟨g, l.length, _, rfl, Nat.zero_le _, h, Nat.le_refl _, by simp only [maxLen]; omega, by simpa using hlen, by rw [← hlen]; exact List.take_length⟩⟩
  obtain ⟨A, c, e, hr⟩ := own_reads_row ho (reps_ins w l) rfl
  obtain rfl := (Value.slice.inj e).1
  exact hr
theorem cod_row {w : World} {g : Nat} {t : TypeId} {l : List S46} {cs : List Value} (hr : Reps (k46.K w) 4 l cs) (h : w.heap[g]? = some (.cells cs.toArray t (0, 0))) (hl : l.length ≤ 1000000) : Kd.C k46 w (some ⟨g, 0, none⟩) l.length l := by
  have ho : w.ownsRow 0 t 4 (.slice (some ⟨g, 0, none⟩) l.length l.length) l.length cs := ⟨hr.1, .inr ⟨g, l.length, _, rfl, Nat.zero_le _, h, Nat.le_refl _, by simp only [maxLen]; omega, by simpa using hr.1, by rw [← hr.1]; exact List.take_length⟩⟩
  obtain ⟨A, c, e, hr⟩ := own_reads_row ho hr rfl
  obtain rfl := (Value.slice.inj e).1
  exact hr
end Go.Proofs.YthckiolgpgplpaaDoor
end
section
namespace Go.Proofs.YthckiolgpgplpaaDoor
open Go.RowKit Go.Proofs.YthckiolgpgplpaaDoorW.PrintWords Go.Proofs.YthckiolgpgplpaaDoorW.PrintLast Go.Proofs.YthckiolgpgplpaaDoorW.PrintMore Go.Proofs.YthckiolgpgplpaaDoor.P Go.Proofs.YthckiolgpgplpaaDoor.Q
set_option linter.unusedVariables false
theorem Solo.weak {g : Nat} {m : Mc} {B b : Nat} {w0 wb w : World} (S : Solo g m B w0 w) (hb : Below b wb w0) (h : b ≤ B) : Solo g m b wb w := by
  obtain ⟨Rd, o, h1, h2, h3, h4⟩ := S
  exact ⟨Rd, o, h1, h2, fun k hk => Nat.le_trans h (h3 k hk), hb.trans (h4.mono h)⟩
theorem Solo.low {g : Nat} {m : Mc} {B : Nat} {w0 w : World} (S : Solo g m B w0 w) : Below B w0 w := by
  obtain ⟨_, _, _, _, _, h⟩ := S
  exact h
theorem Solo.on {g : Nat} {m : Mc} {w0 w w' : World} (S : Solo g m w0.heap.size w0 w) (hb : Below w.heap.size w w') : Solo g m w0.heap.size w0 w' := S.below S.low.size hb
end Go.Proofs.YthckiolgpgplpaaDoor
end
section
namespace Go.Proofs.YthckiolgpgplpaaDoor
open Go.RowKit Go.Proofs.YthckiolgpgplpaaDoorW.PrintWords Go.Proofs.YthckiolgpgplpaaDoorW.PrintLast Go.Proofs.YthckiolgpgplpaaDoorW.PrintMore Go.Proofs.YthckiolgpgplpaaDoor.P Go.Proofs.YthckiolgpgplpaaDoor.Q
set_option linter.unusedVariables false
set_option linter.unusedSimpArgs false
set_option maxRecDepth 1000000
set_option maxHeartbeats 1000000
theorem sound_of {l : List S46} (hf : FitC l) {main : Int} {k : Nat} (h : code_Sound.f k l main = some true) : SoundP l main := by
  obtain ⟨r, hr, hi⟩ := Sound_ok l hf main
  obtain ⟨K, hK⟩ := hr
  have h1 := hK (max K k) (Nat.le_max_left _ _)
  have h2 := at_rounds (g := fun k => code_Sound.f k l main) (fun k => code_Sound.mono l main k) (Nat.le_max_right K k) h
  have : r = true := by
    have := h1.symm.trans h2
    exact Option.some.inj this
  exact hi.1 this
theorem fit_new {l : List S46} {main : Int} (hS : SoundP l main) {input : List Int} (hi : input.length ≤ 1000) {fuel : Int} (h0 : 0 ≤ fuel) (h1 : fuel ≤ 1048576) : Fit ((mc0 l input fuel).beginM main []) := by
  have a := hS.1
  have hz := rr_zero hS a.2.2.1 a.2.2.2.1
  obtain ⟨hs, _⟩ := hz
  obtain ⟨t1, t2, t3, t4, t5, t6, t7⟩ := hs.1
  refine ⟨⟨⟨main, hS⟩, fun _ => ⟨⟨a.2.2.1, a.2.2.2.1, ?_, 0, rfl, rr_zero hS a.2.2.1 a.2.2.2.1⟩, trivial⟩, (fun _ h => by cases h), fun _ => by show (1 : Nat) ≤ 50; decide, ⟨h0, Int.le_refl _, by show fuel + 0 ≤ 1048576; omega⟩, Nat.zero_le _, hi, by show ((0 : Nat) : Int) ≤ 0 * 1048577 + 1048577; decide⟩, fun _ => by show ((0 : Nat) : Int) ≤ 0 * 1048577; decide⟩
  show ((([] : List Int) ++ List.replicate ((rdC l main).f1.toNat - ([] : List Int).length) 0).length : Int) = (rdC l main).f1
  simp
  omega
section
variable (w : World) (A0 A2 : Option Addr) (c0 c2 : Nat) (l : List S46) (input : List Int) (main fuel : Int)
theorem new_solo (hl : Kd.C k46 w A0 l.length l) (hc : l.length ≤ c0) (hLd : Laid w) (k : Nat) (h : code_Sound.f k l main = some true) (hf : FitC l) (hin : Kd.C (Kd.int .i64) w A2 input.length input) (hc2 : input.length ≤ c2) (hf0 : 0 ≤ fuel) (hf1 : fuel ≤ 1048576) (hi1 : input.length ≤ 1000) :
    Calls Tryd.prog 12 #[.slice A0 l.length c0, .int .i64 main, .slice A2 input.length c2, .int .i64 fuel] w fun e w' => ∃ g, e = .returned (.tuple #[.pointer (some ⟨g, 0, none⟩), .int .i64 0]) ∧ Solo g ((mc0 l input fuel).beginM main []) w.heap.size w w' := by
  have hS := sound_of hf h
  have a := hS.1
  obtain ⟨hs, _⟩ := rr_zero hS a.2.2.1 a.2.2.2.1
  obtain ⟨t1, t2, t3, t4, t5, t6, t7⟩ := hs.1
  have hins : ∀ x ∈ l, x.f0.length ≤ 65536 := fun x hx => by
    obtain ⟨i, hi, rfl⟩ := List.getElem_of_mem hx
    obtain ⟨hs, _⟩ := rr_zero hS (k := (i : Int)) (by omega) (by omega)
    have := hs.1.2.1
    rw [rdC_at l i hi] at this
    exact this
  refine (new_ok w A0 A2 c0 c2 l input main fuel hl hc hLd k h hin hc2 hf0 hf1 hi1 a.2.1 hins a.2.2.1 a.2.2.2.1 ⟨t3, t4⟩).mono ?_
  rintro e w' ⟨Rd, o, rfl, hM, hlow, hb⟩
  exact ⟨o.g, rfl, Rd, o, rfl, hM, fun k hk => hlow k (.inr hk), hb⟩
theorem new_duo {g1 : Nat} {m1 : Mc} {B : Nat} {w0 : World} (S : Solo g1 m1 B w0 w) (hB : B ≤ w0.heap.size) (hl : Kd.C k46 w A0 l.length l) (hc : l.length ≤ c0) (hLd : Laid w) (k : Nat) (h : code_Sound.f k l main = some true) (hf : FitC l) (hin : Kd.C (Kd.int .i64) w A2 input.length input) (hc2 : input.length ≤ c2) (hf0 : 0 ≤ fuel) (hf1 : fuel ≤ 1048576) (hi1 : input.length ≤ 1000) :
    Calls Tryd.prog 12 #[.slice A0 l.length c0, .int .i64 main, .slice A2 input.length c2, .int .i64 fuel] w fun e w' => ∃ g, e = .returned (.tuple #[.pointer (some ⟨g, 0, none⟩), .int .i64 0]) ∧ Duo g1 m1 g ((mc0 l input fuel).beginM main []) B w0 w' := by
  have hS := sound_of hf h
  have a := hS.1
  obtain ⟨hs, _⟩ := rr_zero hS a.2.2.1 a.2.2.2.1
  obtain ⟨t1, t2, t3, t4, t5, t6, t7⟩ := hs.1
  have hins : ∀ x ∈ l, x.f0.length ≤ 65536 := fun x hx => by
    obtain ⟨i, hi, rfl⟩ := List.getElem_of_mem hx
    obtain ⟨hs, _⟩ := rr_zero hS (k := (i : Int)) (by omega) (by omega)
    have := hs.1.2.1
    rw [rdC_at l i hi] at this
    exact this
  refine (new_ok w A0 A2 c0 c2 l input main fuel hl hc hLd k h hin hc2 hf0 hf1 hi1 a.2.1 hins a.2.2.1 a.2.2.2.1 ⟨t3, t4⟩).mono ?_
  rintro e w' ⟨Rd, o, rfl, hM, hlow, hb⟩
  obtain ⟨Rd1, o1, hg1, hM1, hl1, hw1⟩ := S
  have hBw := Nat.le_trans hB hw1.size
  exact ⟨o.g, rfl, Rd1, o1, Rd, o, hg1, rfl, hM1.below hb, hM, hl1, fun k hk => Nat.le_trans hBw (hlow k (.inr hk)),
    fun k hk => ⟨fun h => by have := hM1.lt k hk; have := hlow k (.inr h); omega, fun h => by have := hM1.lt k hk; have := hlow k (.inl h); omega⟩, fun k hk h => by have := hM1.low k h; have := hlow k (.inr hk); omega, hw1.trans (hb.mono hBw)⟩
end
def kIns : List S43 := [⟨24, 0, 1⟩, ⟨1, 5, 0⟩, ⟨21, 0, 0⟩, ⟨24, 1, 3⟩, ⟨20, 0, 0⟩]
def kCod : List S46 := [⟨kIns, 0, 0, false⟩]
theorem kSound : code_Sound.f 60 kCod 0 = some true := by kernel_rfl
def km (fuel : Int) : Mc := (mc0 kCod [] fuel).beginM 0 []
theorem km9 : (km 9).step.2 = true ∧ (km 9).step.1.step.2 = true ∧ (km 9).step.1.step.1.step.2 = false ∧ (km 9).step.1.step.1.step.1.ticks = 2 ∧ (km 9).step.1.step.1.step.1.events = [(1, 5), (3, 0)] ∧ (km 9).step.1.step.1.step.1.ended = true ∧ (km 9).step.1.step.1.step.1.frames.length = 0 := by
  refine ⟨?_, ?_, ?_, ?_, ?_, ?_, ?_⟩ <;> kernel_rfl
theorem km1 : (km 1).step.2 = true ∧ (km 1).step.1.step.2 = false ∧ (km 1).step.1.step.1.events = [(1, 5), (5, 0)] ∧ (km 1).step.1.step.1.frames.length = 1 := by
  refine ⟨?_, ?_, ?_, ?_⟩ <;> kernel_rfl
end Go.Proofs.YthckiolgpgplpaaDoor
end
section
namespace Go.Proofs.YthckiolgpgplpaaDoor
open Go.RowKit Go.Proofs.YthckiolgpgplpaaDoorW.PrintWords Go.Proofs.YthckiolgpgplpaaDoorW.PrintLast Go.Proofs.YthckiolgpgplpaaDoorW.PrintMore Go.Proofs.YthckiolgpgplpaaDoor.P Go.Proofs.YthckiolgpgplpaaDoor.Q
set_option linter.unusedVariables false
set_option linter.unusedSimpArgs false
set_option maxRecDepth 1000000
set_option maxHeartbeats 2000000
theorem leads_of {l : List S46} {main : Int} (hS : SoundP l main) (i : Int) (h0 : 0 ≤ i) (h1 : i < l.length) : Leads (rd_T46 l i) := by
  obtain ⟨hs, _⟩ := rr_zero hS h0 h1
  obtain ⟨t1, t2, t3, t4, t5, t6, t7⟩ := hs.1
  refine ⟨t2, fun j j0 j1 hj => ?_⟩
  have hm := (hs.2 (rd_T43 (rd_T46 l i).f0 j) (by
    rw [show rd_T43 (rd_T46 l i).f0 j = (rd_T46 l i).f0[j.toNat]'(by omega) by simp [rd_T43, List.getD, show j.toNat < (rd_T46 l i).f0.length by omega]]
    exact List.getElem_mem _)).2
  unfold MayRest at hm
  rw [if_neg (by omega), if_neg (by omega), if_pos hj] at hm
  exact of_decide_eq_true hm
theorem great_ok (l : List S46) (hl : l.length ≤ 10000000000000) (hb : ∀ x ∈ l, x.f0.length ≤ 1000000000000000) : ∃ k r, parallaxlaw09_great.f k l = some r := by
  have loop : ∀ (d i : Nat), i + d = l.length → ∃ r, Ev (fun k => parallaxlaw09_great.l0 k l i) r := by
    intro d
    induction d with
    | zero =>
      intro i hi
      obtain rfl : i = l.length := by omega
      refine ⟨false, Q.evs ?_⟩
      simp only [parallaxlaw09_great.l0, ff (Int.lt_irrefl (l.length : Int)), if_false]; exact Ev.now _
    | succ d ih =>
      intro i hi
      have c1 := tt (show (i : Int) < (l.length : Int) by omega)
      have c2 := tt (show (0 : Int) ≤ (i : Int) by omega)
      have e2 : wrap64 ((i : Int) + 1) = ((i + 1 : Nat) : Int) := by rw [w64 (by omega) (by omega)]; rfl
      obtain ⟨r, hr⟩ := ih (i + 1) (by omega)
      by_cases h1 : (rd_T46 l (i : Int)).f1 > 300
      · by_cases h2 : (rd_T46 l (i : Int)).f1 ≤ 65536
        · refine ⟨true, Q.evs ?_⟩
          simp only [parallaxlaw09_great.l0, c1, c2, tt h1, tt h2, if_true]; exact Ev.now _
        · refine ⟨r, Q.evs ?_⟩
          simp only [parallaxlaw09_great.l0, c1, c2, tt h1, ff h2, if_true, if_false, e2]; exact hr
      · refine ⟨r, Q.evs ?_⟩
        simp only [parallaxlaw09_great.l0, c1, c2, ff h1, if_true, if_false, e2]; exact hr
  have j : ∀ b, ∃ r, Ev (fun k => parallaxlaw09_great.j0 k l b) r := by
    intro b
    by_cases h : b = true
    · refine ⟨true, Q.evs ?_⟩
      simp only [parallaxlaw09_great.j0, tt h, if_true]; exact Ev.now _
    · obtain ⟨r, hr⟩ := loop l.length 0 (by omega)
      refine ⟨r, Q.evs ?_⟩
      simp only [parallaxlaw09_great.j0, ff h, if_false]; exact hr
  have all : ∃ r, Ev (fun k => parallaxlaw09_great.f k l) r := by
    unfold parallaxlaw09_great.f
    by_cases h : (l.length : Int) > 50
    · simp only [tt h, if_true]; exact j true
    · obtain ⟨t, ht⟩ := Size_ok l hl hb 1000 (by decide)
      obtain ⟨r, hr⟩ := j (decide (t > 1000))
      refine ⟨r, ?_⟩
      simp only [ff h, if_false]
      exact Ev.bind ht hr
  obtain ⟨r, k, hk⟩ := all
  exact ⟨k, r, hk k (Nat.le_refl _)⟩
def fewP (fuel : Int) : Int := if fuel > 200 then (if fuel ≤ 1048576 then 200 else fuel) else fuel
theorem few_f (fuel : Int) : parallaxlaw09_few.f fuel = some (fewP fuel) := by
  unfold parallaxlaw09_few.f fewP
  split
  · split <;> rfl
  · rfl
/-- What both machines are: none, with nothing against it; or a machine and a machine of the document's. -/
def BothP (l : List S46) (input : List Int) (main fuel : Int) (w : World) (e : Ending) (w' : World) : Prop :=
  Below w.heap.size w w' ∧ (e = .returned (.tuple #[.pointer none, .pointer none, .bool false, .bool true]) ∨
    ∃ g gr b, e = .returned (.tuple #[.pointer (some ⟨g, 0, none⟩), .pointer (some ⟨gr, 0, none⟩), .bool b, .bool true]) ∧ Solo g ((mc0 l input (fewP fuel)).beginM main []) w.heap.size w w' ∧ SoundP l main ∧ 0 ≤ fewP fuel ∧ fewP fuel ≤ 200 ∧ input.length ≤ 200)
theorem both_great (w : World) (A0 A2 : Option Addr) (c0 c2 : Nat) (l : List S46) (input : List Int) (main fuel : Int) (hl : Kd.C k46 w A0 l.length l) (hc : l.length ≤ c0) (hLd : Laid w) (hf : FitC l) (hin : Kd.C (Kd.int .i64) w A2 input.length input) (hc2 : input.length ≤ c2) (kg : Nat) (hg : parallaxlaw09_great.f kg l = some true) : Calls Tryd.prog 10 #[.slice A0 l.length c0, .int .i64 main, .slice A2 input.length c2, .int .i64 fuel] w (BothP l input main fuel w) := by
  have HL := Aside0.mk hl; have HC := Aside0.mk hc; have HG := Aside0.mk hg
  clear hl hc hg hLd hf hin
  go_enter Tryd.func10, Tryd.ntmps10
  go_wp2_with (first
    | ((with_reducible refine gate_callee (f := 25) rfl ?_); (try (refine gate_guard (by rfl) ?_; dsimp only)); refine goesL_ (some 17) rfl rfl Tryd.func25 (by kernel_rfl) rfl #[.slice A0 l.length c0] rfl (by (try simp only [List.map_toArray, List.map_cons, List.map_nil]); first | done | rfl) ?_; (with_reducible refine (parallaxlaw09_great.calls kg A0 c0 l true w HL.out HC.out HG.out).mono ?_); rintro e w0 ⟨rfl, nd, rfl⟩; have HB := Aside0.mk (pw_below_drewN (Below.refl w.heap.size w) nd); refine ⟨_, rfl, ?_⟩))
  exact bodyPost_ret (v := .tuple #[.pointer none, .pointer none, .bool false, .bool true]) (by simp [results, Tryd.results10, go_sem]) rfl ⟨HB.out, .inl rfl⟩
theorem both_long (w : World) (A0 A2 : Option Addr) (c0 c2 : Nat) (l : List S46) (input : List Int) (main fuel : Int) (hl : Kd.C k46 w A0 l.length l) (hc : l.length ≤ c0) (hLd : Laid w) (hf : FitC l) (hin : Kd.C (Kd.int .i64) w A2 input.length input) (hc2 : input.length ≤ c2) (kg : Nat) (hg : parallaxlaw09_great.f kg l = some false) (h1 : 200 < input.length) (h2 : input.length ≤ 1000) : Calls Tryd.prog 10 #[.slice A0 l.length c0, .int .i64 main, .slice A2 input.length c2, .int .i64 fuel] w (BothP l input main fuel w) := by
  have HL := Aside0.mk hl; have HC := Aside0.mk hc; have HG := Aside0.mk hg
  have e1 : decide (200 < (input.length : Int)) = true := decide_eq_true (by omega)
  have e2 : decide ((input.length : Int) ≤ 1000) = true := decide_eq_true (by omega)
  clear hl hc hg hLd hf hin h1 h2
  go_enter Tryd.func10, Tryd.ntmps10
  go_wp2_with (first
    | ((with_reducible refine gate_callee (f := 25) rfl ?_); (try (refine gate_guard (by rfl) ?_; dsimp only)); refine goesL_ (some 17) rfl rfl Tryd.func25 (by kernel_rfl) rfl #[.slice A0 l.length c0] rfl (by (try simp only [List.map_toArray, List.map_cons, List.map_nil]); first | done | rfl) ?_; (with_reducible refine (parallaxlaw09_great.calls kg A0 c0 l false w HL.out HC.out HG.out).mono ?_); rintro e w0 ⟨rfl, nd, rfl⟩; have HB := Aside0.mk (pw_below_drewN (Below.refl w.heap.size w) nd); refine ⟨_, rfl, ?_⟩))
  exact bodyPost_ret (v := .tuple #[.pointer none, .pointer none, .bool false, .bool true]) (by simp [results, Tryd.results10, go_sem]) rfl ⟨HB.out, .inl rfl⟩
theorem both_refused (w : World) (A0 A2 : Option Addr) (c0 c2 : Nat) (l : List S46) (input : List Int) (main fuel : Int) (hl : Kd.C k46 w A0 l.length l) (hc : l.length ≤ c0) (hLd : Laid w) (hf : FitC l) (hin : Kd.C (Kd.int .i64) w A2 input.length input) (hc2 : input.length ≤ c2) (kg : Nat) (hg : parallaxlaw09_great.f kg l = some false) (h1 : ¬ (200 < input.length ∧ input.length ≤ 1000)) (er : Int) (h0 : er = 1 ∨ er = 60)
    (HN : ∀ W, Below w.heap.size w W → Calls Tryd.prog 12 #[.slice A0 l.length c0, .int .i64 main, .slice A2 input.length c2, .int .i64 (fewP fuel)] W fun e w' => e = .returned (.tuple #[.pointer none, .int .i64 er]) ∧ Below W.heap.size W w')
    (HR : ∀ W, Below w.heap.size w W → Calls Tryd.prog 26 #[.slice A0 l.length c0, .int .i64 main, .slice A2 input.length c2, .int .i64 (fewP fuel)] W fun e w' => e = .returned (.tuple #[.pointer none, .int .i64 er]) ∧ Below W.heap.size W w') :
    Calls Tryd.prog 10 #[.slice A0 l.length c0, .int .i64 main, .slice A2 input.length c2, .int .i64 fuel] w (BothP l input main fuel w) := by
  have HL := Aside0.mk hl; have HC := Aside0.mk hc; have HG := Aside0.mk hg; have HN := Aside0.mk HN; have HR := Aside0.mk HR
  clear hl hc hg hLd hf hin
  by_cases h2 : 200 < input.length
  · have e1 : decide (200 < (input.length : Int)) = true := decide_eq_true (by omega)
    have e2 : decide ((input.length : Int) ≤ 1000) = false := decide_eq_false (by omega)
    clear h1 h2
    rcases h0 with rfl | rfl
    all_goals
      go_enter Tryd.func10, Tryd.ntmps10
      go_wp2_with (first
        | ((with_reducible refine gate_callee (f := 25) rfl ?_); (try (refine gate_guard (by rfl) ?_; dsimp only)); refine goesL_ (some 17) rfl rfl Tryd.func25 (by kernel_rfl) rfl #[.slice A0 l.length c0] rfl (by (try simp only [List.map_toArray, List.map_cons, List.map_nil]); first | done | rfl) ?_; (with_reducible refine (parallaxlaw09_great.calls kg A0 c0 l false w HL.out HC.out HG.out).mono ?_); rintro e w0 ⟨rfl, nd, rfl⟩; have HB := Aside0.mk (pw_below_drewN (Below.refl w.heap.size w) nd); refine ⟨_, rfl, ?_⟩)
        | ((with_reducible refine gate_callee (f := 13) rfl ?_); (try (refine gate_guard (by rfl) ?_; dsimp only)); refine goesL_ (some 33) rfl rfl Tryd.func13 (by kernel_rfl) rfl #[.int .i64 fuel] rfl (by (try simp only [List.map_toArray, List.map_cons, List.map_nil]); first | done | rfl) ?_; (with_reducible refine (parallaxlaw09_few.calls fuel _ _ (few_f fuel)).mono ?_); rintro e w1 ⟨rfl, ndw1, rfl⟩; have HB := Aside0.mk (pw_below_drewN HB.out ndw1); refine ⟨_, rfl, ?_⟩)
        | ((with_reducible refine gate_callee (f := 12) rfl ?_); (try (refine gate_guard (by rfl) ?_; dsimp only)); refine goesL_ (some 34) rfl rfl Tryd.func12 (by kernel_rfl) rfl #[.slice A0 l.length c0, .int .i64 main, .slice A2 input.length c2, .int .i64 (fewP fuel)] rfl (by (try simp only [List.map_toArray, List.map_cons, List.map_nil]); first | done | rfl) ?_; (with_reducible refine (HN.out _ HB.out).mono ?_); rintro e w2 ⟨rfl, hb⟩; have HB := Aside0.mk (HB.out.trans (hb.mono HB.out.size)); clear hb; refine ⟨_, rfl, ?_⟩)
        | ((with_reducible refine gate_callee (f := 13) rfl ?_); (try (refine gate_guard (by rfl) ?_; dsimp only)); refine goesL_ (some 42) rfl rfl Tryd.func13 (by kernel_rfl) rfl #[.int .i64 fuel] rfl (by (try simp only [List.map_toArray, List.map_cons, List.map_nil]); first | done | rfl) ?_; (with_reducible refine (parallaxlaw09_few.calls fuel _ _ (few_f fuel)).mono ?_); rintro e w3 ⟨rfl, ndw3, rfl⟩; have HB := Aside0.mk (pw_below_drewN HB.out ndw3); refine ⟨_, rfl, ?_⟩)
        | ((with_reducible refine gate_callee (f := 26) rfl ?_); (try (refine gate_guard (by rfl) ?_; dsimp only)); refine goesL_ (some 43) rfl rfl Tryd.func26 (by kernel_rfl) rfl #[.slice A0 l.length c0, .int .i64 main, .slice A2 input.length c2, .int .i64 (fewP fuel)] rfl (by (try simp only [List.map_toArray, List.map_cons, List.map_nil]); first | done | rfl) ?_; (with_reducible refine (HR.out _ HB.out).mono ?_); rintro e w4 ⟨rfl, hb⟩; have HB := Aside0.mk (HB.out.trans (hb.mono HB.out.size)); clear hb; refine ⟨_, rfl, ?_⟩))
      exact bodyPost_ret (v := .tuple #[.pointer none, .pointer none, .bool false, .bool true]) (by simp [results, Tryd.results10, go_sem]) rfl ⟨HB.out, .inl rfl⟩
  · have e1 : decide (200 < (input.length : Int)) = false := decide_eq_false (by omega)
    clear h1 h2
    rcases h0 with rfl | rfl
    all_goals
      go_enter Tryd.func10, Tryd.ntmps10
      go_wp2_with (first
        | ((with_reducible refine gate_callee (f := 25) rfl ?_); (try (refine gate_guard (by rfl) ?_; dsimp only)); refine goesL_ (some 17) rfl rfl Tryd.func25 (by kernel_rfl) rfl #[.slice A0 l.length c0] rfl (by (try simp only [List.map_toArray, List.map_cons, List.map_nil]); first | done | rfl) ?_; (with_reducible refine (parallaxlaw09_great.calls kg A0 c0 l false w HL.out HC.out HG.out).mono ?_); rintro e w0 ⟨rfl, nd, rfl⟩; have HB := Aside0.mk (pw_below_drewN (Below.refl w.heap.size w) nd); refine ⟨_, rfl, ?_⟩)
        | ((with_reducible refine gate_callee (f := 13) rfl ?_); (try (refine gate_guard (by rfl) ?_; dsimp only)); refine goesL_ (some 33) rfl rfl Tryd.func13 (by kernel_rfl) rfl #[.int .i64 fuel] rfl (by (try simp only [List.map_toArray, List.map_cons, List.map_nil]); first | done | rfl) ?_; (with_reducible refine (parallaxlaw09_few.calls fuel _ _ (few_f fuel)).mono ?_); rintro e w1 ⟨rfl, ndw1, rfl⟩; have HB := Aside0.mk (pw_below_drewN HB.out ndw1); refine ⟨_, rfl, ?_⟩)
        | ((with_reducible refine gate_callee (f := 12) rfl ?_); (try (refine gate_guard (by rfl) ?_; dsimp only)); refine goesL_ (some 34) rfl rfl Tryd.func12 (by kernel_rfl) rfl #[.slice A0 l.length c0, .int .i64 main, .slice A2 input.length c2, .int .i64 (fewP fuel)] rfl (by (try simp only [List.map_toArray, List.map_cons, List.map_nil]); first | done | rfl) ?_; (with_reducible refine (HN.out _ HB.out).mono ?_); rintro e w2 ⟨rfl, hb⟩; have HB := Aside0.mk (HB.out.trans (hb.mono HB.out.size)); clear hb; refine ⟨_, rfl, ?_⟩)
        | ((with_reducible refine gate_callee (f := 13) rfl ?_); (try (refine gate_guard (by rfl) ?_; dsimp only)); refine goesL_ (some 42) rfl rfl Tryd.func13 (by kernel_rfl) rfl #[.int .i64 fuel] rfl (by (try simp only [List.map_toArray, List.map_cons, List.map_nil]); first | done | rfl) ?_; (with_reducible refine (parallaxlaw09_few.calls fuel _ _ (few_f fuel)).mono ?_); rintro e w3 ⟨rfl, ndw3, rfl⟩; have HB := Aside0.mk (pw_below_drewN HB.out ndw3); refine ⟨_, rfl, ?_⟩)
        | ((with_reducible refine gate_callee (f := 26) rfl ?_); (try (refine gate_guard (by rfl) ?_; dsimp only)); refine goesL_ (some 43) rfl rfl Tryd.func26 (by kernel_rfl) rfl #[.slice A0 l.length c0, .int .i64 main, .slice A2 input.length c2, .int .i64 (fewP fuel)] rfl (by (try simp only [List.map_toArray, List.map_cons, List.map_nil]); first | done | rfl) ?_; (with_reducible refine (HR.out _ HB.out).mono ?_); rintro e w4 ⟨rfl, hb⟩; have HB := Aside0.mk (HB.out.trans (hb.mono HB.out.size)); clear hb; refine ⟨_, rfl, ?_⟩))
      exact bodyPost_ret (v := .tuple #[.pointer none, .pointer none, .bool false, .bool true]) (by simp [results, Tryd.results10, go_sem]) rfl ⟨HB.out, .inl rfl⟩
theorem both_there (w : World) (A0 A2 : Option Addr) (c0 c2 : Nat) (l : List S46) (input : List Int) (main fuel : Int) (hl : Kd.C k46 w A0 l.length l) (hc : l.length ≤ c0) (hLd : Laid w) (hf : FitC l) (hin : Kd.C (Kd.int .i64) w A2 input.length input) (hc2 : input.length ≤ c2) (kg : Nat) (hg : parallaxlaw09_great.f kg l = some false) (h1 : input.length ≤ 200) (hS : SoundP l main) (hf0 : 0 ≤ fewP fuel) (hf1 : fewP fuel ≤ 200)
    (HN : ∀ W, Below w.heap.size w W → Calls Tryd.prog 12 #[.slice A0 l.length c0, .int .i64 main, .slice A2 input.length c2, .int .i64 (fewP fuel)] W fun e w' => ∃ g, e = .returned (.tuple #[.pointer (some ⟨g, 0, none⟩), .int .i64 0]) ∧ Solo g ((mc0 l input (fewP fuel)).beginM main []) W.heap.size W w')
    (HR : ∀ W, Below w.heap.size w W → Calls Tryd.prog 26 #[.slice A0 l.length c0, .int .i64 main, .slice A2 input.length c2, .int .i64 (fewP fuel)] W fun e w' => ∃ g, e = .returned (.tuple #[.pointer (some ⟨g, 0, none⟩), .int .i64 0]) ∧ Below W.heap.size W w')
    (HS : ∀ W, Below w.heap.size w W → Calls Tryd.prog 31 #[.slice A0 l.length c0] W fun e w' => ∃ b, e = .returned (.bool b) ∧ Below W.heap.size W w') :
    Calls Tryd.prog 10 #[.slice A0 l.length c0, .int .i64 main, .slice A2 input.length c2, .int .i64 fuel] w (BothP l input main fuel w) := by
  have HL := Aside0.mk hl; have HC := Aside0.mk hc; have HG := Aside0.mk hg; have HN := Aside0.mk HN; have HR := Aside0.mk HR; have HS := Aside0.mk HS
  have HALL : Aside0 (SoundP l main ∧ 0 ≤ fewP fuel ∧ fewP fuel ≤ 200 ∧ input.length ≤ 200) := ⟨hS, hf0, hf1, h1⟩
  have e1 : decide (200 < (input.length : Int)) = false := decide_eq_false (by omega)
  clear hl hc hg hLd hf hin h1 hS hf0 hf1
  go_enter Tryd.func10, Tryd.ntmps10
  go_wp2_with (first
    | ((with_reducible refine gate_callee (f := 25) rfl ?_); (try (refine gate_guard (by rfl) ?_; dsimp only)); refine goesL_ (some 17) rfl rfl Tryd.func25 (by kernel_rfl) rfl #[.slice A0 l.length c0] rfl (by (try simp only [List.map_toArray, List.map_cons, List.map_nil]); first | done | rfl) ?_; (with_reducible refine (parallaxlaw09_great.calls kg A0 c0 l false w HL.out HC.out HG.out).mono ?_); rintro e w0 ⟨rfl, nd, rfl⟩; have HB := Aside0.mk (pw_below_drewN (Below.refl w.heap.size w) nd); refine ⟨_, rfl, ?_⟩)
    | ((with_reducible refine gate_callee (f := 13) rfl ?_); (try (refine gate_guard (by rfl) ?_; dsimp only)); refine goesL_ (some 33) rfl rfl Tryd.func13 (by kernel_rfl) rfl #[.int .i64 fuel] rfl (by (try simp only [List.map_toArray, List.map_cons, List.map_nil]); first | done | rfl) ?_; (with_reducible refine (parallaxlaw09_few.calls fuel _ _ (few_f fuel)).mono ?_); rintro e w1 ⟨rfl, ndw1, rfl⟩; have HB := Aside0.mk (pw_below_drewN HB.out ndw1); refine ⟨_, rfl, ?_⟩)
    | ((with_reducible refine gate_callee (f := 12) rfl ?_); (try (refine gate_guard (by rfl) ?_; dsimp only)); refine goesL_ (some 34) rfl rfl Tryd.func12 (by kernel_rfl) rfl #[.slice A0 l.length c0, .int .i64 main, .slice A2 input.length c2, .int .i64 (fewP fuel)] rfl (by (try simp only [List.map_toArray, List.map_cons, List.map_nil]); first | done | rfl) ?_; (with_reducible refine (HN.out _ HB.out).mono ?_); rintro e w2 ⟨gm, rfl, S0⟩; have S1 := Aside0.mk (S0.weak HB.out HB.out.size); clear S0; refine ⟨_, rfl, ?_⟩)
    | ((with_reducible refine gate_callee (f := 13) rfl ?_); (try (refine gate_guard (by rfl) ?_; dsimp only)); refine goesL_ (some 42) rfl rfl Tryd.func13 (by kernel_rfl) rfl #[.int .i64 fuel] rfl (by (try simp only [List.map_toArray, List.map_cons, List.map_nil]); first | done | rfl) ?_; (with_reducible refine (parallaxlaw09_few.calls fuel _ _ (few_f fuel)).mono ?_); rintro e w3 ⟨rfl, nd3, rfl⟩; have S1 := Aside0.mk (S1.out.on (pw_below_drewN (Below.refl _ _) nd3)); refine ⟨_, rfl, ?_⟩)
    | ((with_reducible refine gate_callee (f := 26) rfl ?_); (try (refine gate_guard (by rfl) ?_; dsimp only)); refine goesL_ (some 43) rfl rfl Tryd.func26 (by kernel_rfl) rfl #[.slice A0 l.length c0, .int .i64 main, .slice A2 input.length c2, .int .i64 (fewP fuel)] rfl (by (try simp only [List.map_toArray, List.map_cons, List.map_nil]); first | done | rfl) ?_; (with_reducible refine (HR.out _ S1.out.low).mono ?_); rintro e w4 ⟨gr, rfl, hb⟩; have S2 := Aside0.mk (S1.out.on hb); clear hb; refine ⟨_, rfl, ?_⟩)
    | ((with_reducible refine gate_callee (f := 31) rfl ?_); (try (refine gate_guard (by rfl) ?_; dsimp only)); refine goesL_ (some 58) rfl rfl Tryd.func31 (by kernel_rfl) rfl #[.slice A0 l.length c0] rfl (by (try simp only [List.map_toArray, List.map_cons, List.map_nil]); first | done | rfl) ?_; (with_reducible refine (HS.out _ S2.out.low).mono ?_); rintro e w5 ⟨bs, rfl, hb⟩; have S3 := Aside0.mk (S2.out.on hb); clear hb; refine ⟨_, rfl, ?_⟩))
  exact bodyPost_ret (v := .tuple #[.pointer (some ⟨gm, 0, none⟩), .pointer (some ⟨gr, 0, none⟩), .bool (!bs), .bool true]) (by simp [results, Tryd.results10, go_sem]) rfl ⟨S3.out.low, .inr ⟨gm, gr, !bs, rfl, S3.out, HALL.out⟩⟩
end Go.Proofs.YthckiolgpgplpaaDoor
end
section
namespace Go.Proofs.YthckiolgpgplpaaDoor
open Go.RowKit Go.Proofs.YthckiolgpgplpaaDoorW.PrintWords Go.Proofs.YthckiolgpgplpaaDoorW.PrintLast Go.Proofs.YthckiolgpgplpaaDoorW.PrintMore Go.Proofs.YthckiolgpgplpaaDoor.P Go.Proofs.YthckiolgpgplpaaDoor.Q
set_option linter.unusedVariables false
set_option linter.unusedSimpArgs false
theorem few_range {fuel : Int} (h0 : 0 ≤ fewP fuel) (h1 : fewP fuel ≤ 1048576) : fewP fuel ≤ 200 := by
  unfold fewP at *
  split at * <;> (try split at *) <;> omega
theorem both_law (w : World) (A0 A2 : Option Addr) (c0 c2 : Nat) (l : List S46) (input : List Int) (main fuel : Int) (hl : Kd.C k46 w A0 l.length l) (hc : l.length ≤ c0) (hLd : Laid w) (hf : FitC l) (hin : Kd.C (Kd.int .i64) w A2 input.length input) (hc2 : input.length ≤ c2) (hn : l.length ≤ 10000000000000) (hb : ∀ x ∈ l, x.f0.length ≤ 1000000000000000) :
    Calls Tryd.prog 10 #[.slice A0 l.length c0, .int .i64 main, .slice A2 input.length c2, .int .i64 fuel] w (BothP l input main fuel w) := by
  obtain ⟨kg, r, hg⟩ := great_ok l hn hb
  cases r with
  | true => exact both_great w A0 A2 c0 c2 l input main fuel hl hc hLd hf hin hc2 kg hg
  | false =>
    by_cases h1 : 200 < input.length ∧ input.length ≤ 1000
    · exact both_long w A0 A2 c0 c2 l input main fuel hl hc hLd hf hin hc2 kg hg h1.1 h1.2
    obtain ⟨r, ⟨K1, e1⟩, ⟨K2, e2⟩, hi⟩ := Sound_both l hf main
    have e1 := e1 K1 (Nat.le_refl _)
    have e2 := e2 K2 (Nat.le_refl _)
    cases r with
    | false =>
      refine both_refused w A0 A2 c0 c2 l input main fuel hl hc hLd hf hin hc2 kg hg h1 60 (.inr rfl) (fun W hW => ?_) (fun W hW => ?_)
      · exact new_unsound W A0 c0 l main (fewP fuel) (Kd.C_below hl hW) hc (hLd.below hW) K1 e1 _
      · exact refnew_unsound W A0 c0 l main (fewP fuel) (Kd.C_below hl hW) hc K2 e2 _
    | true =>
      have hS := hi.1 rfl
      by_cases hbad : fewP fuel < 0 ∨ 1048576 < fewP fuel ∨ 1000 < input.length
      · refine both_refused w A0 A2 c0 c2 l input main fuel hl hc hLd hf hin hc2 kg hg h1 1 (.inl rfl) (fun W hW => ?_) (fun W hW => ?_)
        · exact new_args W A0 A2 c0 c2 l main (fewP fuel) (Kd.C_below hl hW) hc (hLd.below hW) K1 e1 _ hbad
        · exact refnew_args W A0 A2 c0 c2 l main (fewP fuel) (Kd.C_below hl hW) hc K2 e2 _ hbad
      · have f0 : 0 ≤ fewP fuel := by omega
        have f1 : fewP fuel ≤ 200 := few_range f0 (by omega)
        have a := hS.1
        obtain ⟨hs, _⟩ := rr_zero hS a.2.2.1 a.2.2.2.1
        obtain ⟨t1, t2, t3, t4, t5, t6, t7⟩ := hs.1
        refine both_there w A0 A2 c0 c2 l input main fuel hl hc hLd hf hin hc2 kg hg (by omega) hS f0 f1 (fun W hW => ?_) (fun W hW => ?_) (fun W hW => ?_)
        · exact new_solo W A0 A2 c0 c2 l input main (fewP fuel) (Kd.C_below hl hW) hc (hLd.below hW) K1 e1 hf (Kd.C_below hin hW) hc2 f0 (by omega) (by omega)
        · exact refnew_ok W A0 A2 c0 c2 l input main (fewP fuel) (Kd.C_below hl hW) hc K2 e2 (Kd.C_below hin hW) hc2 f0 (by omega) (by omega) a.2.2.1 a.2.2.2.1 ⟨t3, t4⟩
        · exact slow_calls W A0 c0 l (Kd.C_below hl hW) hc (by have := a.2.1; omega) (leads_of hS)
end Go.Proofs.YthckiolgpgplpaaDoor
end
section
namespace Go.Proofs.YthckiolgpgplpaaDoor
open Go.RowKit Go.Proofs.YthckiolgpgplpaaDoorW.PrintWords Go.Proofs.YthckiolgpgplpaaDoorW.PrintLast Go.Proofs.YthckiolgpgplpaaDoorW.PrintMore Go.Proofs.YthckiolgpgplpaaDoor.P Go.Proofs.YthckiolgpgplpaaDoor.Q
set_option linter.unusedVariables false
set_option linter.unusedSimpArgs false
set_option maxRecDepth 1000000
set_option maxHeartbeats 2000000
section
variable {g g1 g2 : Nat} {m m1 m2 : Mc} {B : Nat} {w0 w w' : World}
theorem Solo.ticks (S : Solo g m B w0 w) : Calls Tryd.prog 18 #[.pointer (some ⟨g, 0, none⟩)] w fun e w' => e = .returned (.int .i64 m.ticks) ∧ Below w.heap.size w w' := by
  obtain ⟨Rd, o, hg, hM, _⟩ := S
  have h := ticks_on hM; rw [MHo.ptr, hg] at h; exact h
theorem Solo.ended (S : Solo g m B w0 w) : Calls Tryd.prog 30 #[.pointer (some ⟨g, 0, none⟩)] w fun e w' => e = .returned (.bool m.ended) ∧ Below w.heap.size w w' := by
  obtain ⟨Rd, o, hg, hM, _⟩ := S
  have h := ended_on hM; rw [MHo.ptr, hg] at h; exact h
theorem Solo.frames (S : Solo g m B w0 w) : Calls Tryd.prog 20 #[.pointer (some ⟨g, 0, none⟩)] w fun e w' => e = .returned (.int .i64 (m.frames.length : Nat)) ∧ Below w.heap.size w w' := by
  obtain ⟨Rd, o, hg, hM, _⟩ := S
  have h := frames_on hM; rw [MHo.ptr, hg] at h; exact h
theorem Solo.count (S : Solo g m B w0 w) : Calls Tryd.prog 22 #[.pointer (some ⟨g, 0, none⟩)] w fun e w' => e = .returned (.int .i64 (m.events.length : Nat)) ∧ Below w.heap.size w w' := by
  obtain ⟨Rd, o, hg, hM, _⟩ := S
  have h := count_on hM; rw [MHo.ptr, hg] at h; exact h
theorem Solo.events (S : Solo g m B w0 w) (hl : m.events.length ≤ 4398046511104) : Calls Tryd.prog 16 #[.pointer (some ⟨g, 0, none⟩)] w fun e w' => ∃ v1, e = .returned v1 ∧ w'.ownsRow 0 38 2 v1 m.events.length (evs m.events) ∧ Below w.heap.size w w' := by
  obtain ⟨Rd, o, hg, hM, _⟩ := S
  have h := events_on hM hl; rw [MHo.ptr, hg] at h
  exact h.mono (fun e w' ⟨v1, a, b, _, c⟩ => ⟨v1, a, b, c⟩)
end
/-- A row of events that is read: its value, its cells. -/
theorem two_events {w : World} {v : Value} {a b c d : Int} (h : w.ownsRow 0 38 2 v 2 (evs [(a, b), (c, d)])) : ∃ k cap, v = .slice (some ⟨k, 0, none⟩) 2 cap ∧ k < w.heap.size ∧ w.cell? ⟨k, 0, none⟩ = some (.int .i64 a) ∧ w.cell? ⟨k, 1, none⟩ = some (.int .i64 b) ∧ w.cell? ⟨k, 2, none⟩ = some (.int .i64 c) ∧ w.cell? ⟨k, 3, none⟩ = some (.int .i64 d) := by
  rcases h.2 with ⟨_, h0⟩ | ⟨k, cap, cur, rfl, _, hh, _⟩
  · cases h0
  · refine ⟨k, cap, rfl, blk_lt hh, ?_, ?_, ?_, ?_⟩
    · simpa [Addr.add] using h.cells (g := k) rfl 0 (.int .i64 a) rfl
    · simpa [Addr.add] using h.cells (g := k) rfl 1 (.int .i64 b) rfl
    · simpa [Addr.add] using h.cells (g := k) rfl 2 (.int .i64 c) rfl
    · simpa [Addr.add] using h.cells (g := k) rfl 3 (.int .i64 d) rfl
theorem kFit (fuel : Int) (h0 : 0 ≤ fuel) (h1 : fuel ≤ 1048576) : Fit (km fuel) := fit_new (sound_of (by
  intro x hx y hy
  have : x = ⟨kIns, 0, 0, false⟩ := by simpa [kCod] using hx
  subst this
  have : ∀ y ∈ kIns, (Lit.int .i64 y.f0).wf = true ∧ ((Lit.int .i64 y.f1).wf = true ∧ (Lit.int .i64 y.f2).wf = true) := by decide
  exact this y hy) kSound) (by simp) h0 h1
theorem kFitC : FitC kCod := by
  intro x hx y hy
  have : x = ⟨kIns, 0, 0, false⟩ := by simpa [kCod] using hx
  subst this
  have : ∀ y ∈ kIns, (Lit.int .i64 y.f0).wf = true ∧ ((Lit.int .i64 y.f1).wf = true ∧ (Lit.int .i64 y.f2).wf = true) := by decide
  exact this y hy
theorem known_law (w : World) (hLd : Laid w) : Calls Tryd.prog 11 #[] w fun e w' => e = .returned (.bool true) ∧ Below w.heap.size w w' := by
  obtain ⟨W, hW⟩ : ∃ W, W = (w.alloc (.cells #[.int .i64 24, .int .i64 0, .int .i64 1, .int .i64 1, .int .i64 5, .int .i64 0, .int .i64 21, .int .i64 0, .int .i64 0, .int .i64 24, .int .i64 1, .int .i64 3, .int .i64 20, .int .i64 0, .int .i64 0] 43)).alloc (.cells #[.slice (some ⟨w.heap.size, 0, none⟩) 5 5, .int .i64 0, .int .i64 0, .bool false] 46) := ⟨_, rfl⟩
  have hbW : Below w.heap.size w W := by rw [hW]; exact below_alloc (below_alloc (Below.refl _ _) _) _
  have hr : Kd.C k43 W (some ⟨w.heap.size, 0, none⟩) kIns.length kIns := ins_row (t := 43) (by rw [hW]; exact blk_alloc (blk_new w _) _) (by decide)
  have hC : Kd.C k46 W (some ⟨w.heap.size + 1, 0, none⟩) kCod.length kCod := by
    refine cod_row (t := 46) (cs := [.slice (some ⟨w.heap.size, 0, none⟩) 5 5, .int .i64 0, .int .i64 0, .bool false]) ((Reps.none _ _).snoc (p := (⟨kIns, 0, 0, false⟩ : S46)) (k46_mk W ⟨kIns, 0, 0, false⟩ (c0 := 5) (by decide) hr) rfl) ?_ (by decide)
    rw [hW]
    have := blk_new (w.alloc (.cells #[.int .i64 24, .int .i64 0, .int .i64 1, .int .i64 1, .int .i64 5, .int .i64 0, .int .i64 21, .int .i64 0, .int .i64 0, .int .i64 24, .int .i64 1, .int .i64 3, .int .i64 20, .int .i64 0, .int .i64 0] 43)) (.cells #[.slice (some ⟨w.heap.size, 0, none⟩) 5 5, .int .i64 0, .int .i64 0, .bool false] 46)
    rwa [show (w.alloc (.cells #[.int .i64 24, .int .i64 0, .int .i64 1, .int .i64 1, .int .i64 5, .int .i64 0, .int .i64 21, .int .i64 0, .int .i64 0, .int .i64 24, .int .i64 1, .int .i64 3, .int .i64 20, .int .i64 0, .int .i64 0] 43)).heap.size = w.heap.size + 1 by simp] at this
  have hLW := hLd.below hbW
  have hnil : ∀ X : World, Kd.C (Kd.int .i64) X none ([] : List Int).length [] := fun X => Kd.C_nil _ X
  have HN1 : Aside0 (Calls Tryd.prog 12 #[.slice (some ⟨w.heap.size + 1, 0, none⟩) 1 1, .int .i64 0, .slice none 0 0, .int .i64 9] W (fun e w1 => ∃ g, e = .returned (.tuple #[.pointer (some ⟨g, 0, none⟩), .int .i64 0]) ∧ Solo g (km 9) W.heap.size W w1)) := ⟨new_solo W _ none 1 0 kCod [] 0 9 hC (Nat.le_refl _) hLW 60 kSound kFitC (hnil W) (Nat.le_refl _) (by decide) (by decide) (by decide)⟩
  have HN2 : Aside0 (∀ w1 g, Solo g (km 9) W.heap.size W w1 → Calls Tryd.prog 12 #[.slice (some ⟨w.heap.size + 1, 0, none⟩) 1 1, .int .i64 0, .slice none 0 0, .int .i64 1] w1 (fun e w2 => ∃ g2, e = .returned (.tuple #[.pointer (some ⟨g2, 0, none⟩), .int .i64 0]) ∧ Duo g (km 9) g2 (km 1) W.heap.size W w2)) := ⟨fun w1 g S => by
    obtain ⟨_, _, _, _, _, hb⟩ := id S
    exact new_duo w1 _ none 1 0 kCod [] 0 1 S (Nat.le_refl _) (Kd.C_below hC hb) (Nat.le_refl _) (hLW.below hb) 60 kSound kFitC (hnil w1) (Nat.le_refl _) (by decide) (by decide) (by decide)⟩
  have HBW := Aside0.mk hbW
  have HN1 : Aside0 (Calls Tryd.prog 12 #[.slice (some ⟨w.heap.size + 1, 0, none⟩) 1 1, .int .i64 0, .slice none 0 0, .int .i64 9] ((w.alloc (.cells #[.int .i64 24, .int .i64 0, .int .i64 1, .int .i64 1, .int .i64 5, .int .i64 0, .int .i64 21, .int .i64 0, .int .i64 0, .int .i64 24, .int .i64 1, .int .i64 3, .int .i64 20, .int .i64 0, .int .i64 0] 43)).alloc (.cells #[.slice (some ⟨w.heap.size, 0, none⟩) 5 5, .int .i64 0, .int .i64 0, .bool false] 46)) (fun e w1 => ∃ g, e = .returned (.tuple #[.pointer (some ⟨g, 0, none⟩), .int .i64 0]) ∧ Solo g (km 9) W.heap.size W w1)) := ⟨by rw [← hW]; exact HN1.out⟩
  clear hLd hbW hr hC hLW hnil
  have HWW := Aside0.mk hW; clear hW
  go_enter Tryd.func11, Tryd.ntmps11
  go_wp2_with (first
    | ((with_reducible refine gate_callee (f := 12) rfl ?_); (try (refine gate_guard (by rfl) ?_; dsimp only)); refine goesL_ (some 18) rfl rfl Tryd.func12 (by kernel_rfl) rfl #[.slice (some ⟨w.heap.size + 1, 0, none⟩) 1 1, .int .i64 0, .slice none 0 0, .int .i64 9] rfl (by (try simp only [List.map_toArray, List.map_cons, List.map_nil]); first | done | rfl) ?_; (with_reducible refine (HN1.out).mono ?_); rintro e w1 ⟨gm, rfl, S1⟩; have HN2 := Aside0.mk (HN2.out w1 gm S1); clear S1; refine ⟨_, rfl, ?_⟩)
    | ((with_reducible refine gate_callee (f := 12) rfl ?_); (try (refine gate_guard (by rfl) ?_; dsimp only)); refine goesL_ (some 23) rfl rfl Tryd.func12 (by kernel_rfl) rfl #[.slice (some ⟨w.heap.size + 1, 0, none⟩) 1 1, .int .i64 0, .slice none 0 0, .int .i64 1] rfl (by (try simp only [List.map_toArray, List.map_cons, List.map_nil]); first | done | rfl) ?_; (with_reducible refine (HN2.out).mono ?_); rintro e w2 ⟨gn, rfl, D0⟩; have H1 : Aside0 (Calls Tryd.prog 21 #[.pointer (some ⟨gm, 0, none⟩)] _ (fun e w' => e = .returned (.bool true) ∧ Duo gm (km 9).step.1 gn (km 1) W.heap.size W w')) := ⟨by have h := D0.step (kFit 9 (by decide) (by decide)) (Nat.le_refl _); rw [km9.1] at h; exact h⟩; clear D0; refine ⟨_, rfl, ?_⟩)
    | ((with_reducible refine gate_callee (f := 21) rfl ?_); (try (refine gate_guard (by rfl) ?_; dsimp only)); refine goesL_ (some 34) rfl rfl Tryd.func21 (by kernel_rfl) rfl #[.pointer (some ⟨gm, 0, none⟩)] rfl (by (try simp only [List.map_toArray, List.map_cons, List.map_nil]); first | done | rfl) ?_; (with_reducible refine (H1.out).mono ?_); rintro e w3 ⟨rfl, D1⟩; have H2 : Aside0 (Calls Tryd.prog 21 #[.pointer (some ⟨gm, 0, none⟩)] _ (fun e w' => e = .returned (.bool true) ∧ Duo gm (km 9).step.1.step.1 gn (km 1) W.heap.size W w')) := ⟨by have h := D1.step (step_fit (kFit 9 (by decide) (by decide))).1 (Nat.le_refl _); rw [km9.2.1] at h; exact h⟩; clear D1; refine ⟨_, rfl, ?_⟩)
    | ((with_reducible refine gate_callee (f := 21) rfl ?_); (try (refine gate_guard (by rfl) ?_; dsimp only)); refine goesL_ (some 39) rfl rfl Tryd.func21 (by kernel_rfl) rfl #[.pointer (some ⟨gm, 0, none⟩)] rfl (by (try simp only [List.map_toArray, List.map_cons, List.map_nil]); first | done | rfl) ?_; (with_reducible refine (H2.out).mono ?_); rintro e w4 ⟨rfl, D2⟩; have H3 : Aside0 (Calls Tryd.prog 21 #[.pointer (some ⟨gm, 0, none⟩)] _ (fun e w' => e = .returned (.bool false) ∧ Duo gm (km 9).step.1.step.1.step.1 gn (km 1) W.heap.size W w')) := ⟨by have h := D2.step (step_fit (step_fit (kFit 9 (by decide) (by decide))).1).1 (Nat.le_refl _); rw [km9.2.2.1] at h; exact h⟩; clear D2; refine ⟨_, rfl, ?_⟩)
    | ((with_reducible refine gate_callee (f := 21) rfl ?_); (try (refine gate_guard (by rfl) ?_; dsimp only)); refine goesL_ (some 44) rfl rfl Tryd.func21 (by kernel_rfl) rfl #[.pointer (some ⟨gm, 0, none⟩)] rfl (by (try simp only [List.map_toArray, List.map_cons, List.map_nil]); first | done | rfl) ?_; (with_reducible refine (H3.out).mono ?_); rintro e w5 ⟨rfl, D3⟩; have H4 : Aside0 (Calls Tryd.prog 21 #[.pointer (some ⟨gn, 0, none⟩)] _ (fun e w' => e = .returned (.bool true) ∧ Duo gn (km 1).step.1 gm (km 9).step.1.step.1.step.1 W.heap.size W w')) := ⟨by have h := D3.swap.step (kFit 1 (by decide) (by decide)) (Nat.le_refl _); rw [km1.1] at h; exact h⟩; clear D3; refine ⟨_, rfl, ?_⟩)
    | ((with_reducible refine gate_callee (f := 21) rfl ?_); (try (refine gate_guard (by rfl) ?_; dsimp only)); refine goesL_ (some 48) rfl rfl Tryd.func21 (by kernel_rfl) rfl #[.pointer (some ⟨gn, 0, none⟩)] rfl (by (try simp only [List.map_toArray, List.map_cons, List.map_nil]); first | done | rfl) ?_; (with_reducible refine (H4.out).mono ?_); rintro e w6 ⟨rfl, D4⟩; have H5 : Aside0 (Calls Tryd.prog 21 #[.pointer (some ⟨gn, 0, none⟩)] _ (fun e w' => e = .returned (.bool false) ∧ Duo gn (km 1).step.1.step.1 gm (km 9).step.1.step.1.step.1 W.heap.size W w')) := ⟨by have h := D4.step (step_fit (kFit 1 (by decide) (by decide))).1 (Nat.le_refl _); rw [km1.2.1] at h; exact h⟩; clear D4; refine ⟨_, rfl, ?_⟩)
    | ((with_reducible refine gate_callee (f := 21) rfl ?_); (try (refine gate_guard (by rfl) ?_; dsimp only)); refine goesL_ (some 53) rfl rfl Tryd.func21 (by kernel_rfl) rfl #[.pointer (some ⟨gn, 0, none⟩)] rfl (by (try simp only [List.map_toArray, List.map_cons, List.map_nil]); first | done | rfl) ?_; (with_reducible refine (H5.out).mono ?_); rintro e w7 ⟨rfl, D5⟩; have H6 := Aside0.mk (D5.swap.solo.events (Nat.le_of_succ_le (Nat.le_of_succ_le (step_fit (step_fit (step_fit (kFit 9 (by decide) (by decide))).1).1).1.evb))); have D5 := Aside0.mk D5; refine ⟨_, rfl, ?_⟩)
    | ((with_reducible refine gate_callee (f := 16) rfl ?_); (try (refine gate_guard (by rfl) ?_; dsimp only)); refine goesL_ (some 56) rfl rfl Tryd.func16 (by kernel_rfl) rfl #[.pointer (some ⟨gm, 0, none⟩)] rfl (by (try simp only [List.map_toArray, List.map_cons, List.map_nil]); first | done | rfl) ?_; (with_reducible refine (H6.out).mono ?_); rintro e w8 ⟨va, rfl, ha, hb⟩; have D6 := Aside0.mk (D5.out.below (Nat.le_refl _) hb); rw [show ((km 9).step.1.step.1.step.1).events = [(1, 5), (3, 0)] from km9.2.2.2.2.1] at ha; obtain ⟨ka, ca, rfl, hka, xa0, xa1, xa2, xa3⟩ := two_events ha; have H7 := Aside0.mk (D6.out.solo.events (Nat.le_of_succ_le (Nat.le_of_succ_le (step_fit (step_fit (kFit 1 (by decide) (by decide))).1).1.evb))); clear ha hb; refine ⟨_, rfl, ?_⟩)
    | ((with_reducible refine gate_callee (f := 16) rfl ?_); (try (refine gate_guard (by rfl) ?_; dsimp only)); refine goesL_ (some 58) rfl rfl Tryd.func16 (by kernel_rfl) rfl #[.pointer (some ⟨gn, 0, none⟩)] rfl (by (try simp only [List.map_toArray, List.map_cons, List.map_nil]); first | done | rfl) ?_; (with_reducible refine (H7.out).mono ?_); rintro e w9 ⟨vb, rfl, ha, hb⟩; have D7 := Aside0.mk (D6.out.below (Nat.le_refl _) hb); rw [show ((km 1).step.1.step.1).events = [(1, 5), (5, 0)] from km1.2.2.1] at ha; obtain ⟨kb, cb, rfl, hkb, xb0, xb1, xb2, xb3⟩ := two_events ha; have XA := Aside0.mk (And.intro ((hb.cell hka).trans xa0) (And.intro ((hb.cell hka).trans xa1) (And.intro ((hb.cell hka).trans xa2) (Nat.lt_of_lt_of_le hka hb.size)))); have XB := Aside0.mk (And.intro xb2 hkb); clear xa0 xa1 xa2 xa3 xb0 xb1 xb2 xb3 ha hb hka hkb; have H8 : Aside0 (Calls Tryd.prog 18 #[.pointer (some ⟨gm, 0, none⟩)] w9 (fun e w' => e = .returned (.int .i64 2) ∧ Below w9.heap.size w9 w')) := ⟨by have h := D7.out.swap.solo.ticks; rw [km9.2.2.2.1] at h; exact h⟩; refine ⟨_, rfl, ?_⟩)
    | ((with_reducible refine gate_callee (f := 18) rfl ?_); (try (refine gate_guard (by rfl) ?_; dsimp only)); refine goesL_ (some 60) rfl rfl Tryd.func18 (by kernel_rfl) rfl #[.pointer (some ⟨gm, 0, none⟩)] rfl (by (try simp only [List.map_toArray, List.map_cons, List.map_nil]); first | done | rfl) ?_; (with_reducible refine (H8.out).mono ?_); rintro e w10 ⟨rfl, hb⟩; have D8 := Aside0.mk (D7.out.below (Nat.le_refl _) hb); have xa0 := (hb.cell XA.out.2.2.2).trans XA.out.1; have xa1 := (hb.cell XA.out.2.2.2).trans XA.out.2.1; have xa2 := (hb.cell XA.out.2.2.2).trans XA.out.2.2.1; have xb2 := (hb.cell XB.out.2).trans XB.out.1; clear hb; have H9 : Aside0 (Calls Tryd.prog 30 #[.pointer (some ⟨gm, 0, none⟩)] w10 (fun e w' => e = .returned (.bool true) ∧ Below w10.heap.size w10 w')) := ⟨by have h := D8.out.swap.solo.ended; rw [km9.2.2.2.2.2.1] at h; exact h⟩; refine ⟨_, rfl, ?_⟩)
    | ((with_reducible refine gate_callee (f := 30) rfl ?_); (try (refine gate_guard (by rfl) ?_; dsimp only)); refine goesL_ (some 95) rfl rfl Tryd.func30 (by kernel_rfl) rfl #[.pointer (some ⟨gm, 0, none⟩)] rfl (by (try simp only [List.map_toArray, List.map_cons, List.map_nil]); first | done | rfl) ?_; (with_reducible refine (H9.out).mono ?_); rintro e w11 ⟨rfl, hb⟩; have D9 := Aside0.mk (D8.out.below (Nat.le_refl _) hb); clear hb; have H10 : Aside0 (Calls Tryd.prog 20 #[.pointer (some ⟨gm, 0, none⟩)] w11 (fun e w' => e = .returned (.int .i64 0) ∧ Below w11.heap.size w11 w')) := ⟨by have h := D9.out.swap.solo.frames; rw [km9.2.2.2.2.2.2] at h; exact h⟩; refine ⟨_, rfl, ?_⟩)
    | ((with_reducible refine gate_callee (f := 20) rfl ?_); (try (refine gate_guard (by rfl) ?_; dsimp only)); refine goesL_ (some 99) rfl rfl Tryd.func20 (by kernel_rfl) rfl #[.pointer (some ⟨gm, 0, none⟩)] rfl (by (try simp only [List.map_toArray, List.map_cons, List.map_nil]); first | done | rfl) ?_; (with_reducible refine (H10.out).mono ?_); rintro e w12 ⟨rfl, hb⟩; have D10 := Aside0.mk (D9.out.below (Nat.le_refl _) hb); clear hb; have H11 : Aside0 (Calls Tryd.prog 20 #[.pointer (some ⟨gn, 0, none⟩)] w12 (fun e w' => e = .returned (.int .i64 1) ∧ Below w12.heap.size w12 w')) := ⟨by have h := D10.out.solo.frames; rw [km1.2.2.2] at h; exact h⟩; refine ⟨_, rfl, ?_⟩)
    | ((with_reducible refine gate_callee (f := 20) rfl ?_); (try (refine gate_guard (by rfl) ?_; dsimp only)); refine goesL_ (some 104) rfl rfl Tryd.func20 (by kernel_rfl) rfl #[.pointer (some ⟨gn, 0, none⟩)] rfl (by (try simp only [List.map_toArray, List.map_cons, List.map_nil]); first | done | rfl) ?_; (with_reducible refine (H11.out).mono ?_); rintro e w13 ⟨rfl, hb⟩; have HF : Aside0 (Below w.heap.size w w13) := ⟨by obtain ⟨_, _, _, _, _, _, _, _, _, _, _, _, h9⟩ := D10.out; exact HBW.out.trans ((h9.trans (hb.mono h9.size)).mono HBW.out.size)⟩; clear hb; refine ⟨_, rfl, ?_⟩))
  go_ret
  exact ⟨rfl, HF.out⟩
end Go.Proofs.YthckiolgpgplpaaDoor
end
section
namespace Go.Proofs.YthckiolgpgplpaaDoor
open Go.RowKit Go.Proofs.YthckiolgpgplpaaDoorW.PrintWords Go.Proofs.YthckiolgpgplpaaDoorW.PrintLast Go.Proofs.YthckiolgpgplpaaDoorW.PrintMore Go.Proofs.YthckiolgpgplpaaDoor.P Go.Proofs.YthckiolgpgplpaaDoor.Q
set_option linter.unusedVariables false
set_option linter.unusedSimpArgs false
/-- What one machine may write no other holds or reads. -/
def Apt (o : MHo) (Rd : Nat → Prop) (o2 : MHo) : Prop := ∀ k, k ∈ o.own → k ∉ o2.own ∧ ¬ Rd k
structure Live (g : Nat) (m : Mc) (B : Nat) (w : World) (Rd : Nat → Prop) (o : MHo) : Prop where
  at_ : o.g = g
  on : MOn Rd w o m
  low : ∀ k, k ∈ o.own → B ≤ k
theorem Live.keep {g g2 : Nat} {m m2 m' : Mc} {B : Nat} {w w' : World} {Rd Rd2 : Nat → Prop} {o o2 o' : MHo} (L : Live g m B w Rd o) (L2 : Live g2 m2 B w Rd2 o2) (h : Apt o Rd2 o2) (h2 : Apt o2 Rd o) (hs : Sub w o o') (hm : Mod (fun k => k ∈ o.own) w w') (hB : B ≤ w.heap.size) :
    Live g2 m2 B w' Rd2 o2 ∧ Apt o' Rd2 o2 ∧ Apt o2 Rd o' := by
  refine ⟨⟨L2.at_, L2.on.mod hm (fun k hk hk1 => ?_), L2.low⟩, fun k hk => ?_, fun k hk => ⟨fun hk2 => ?_, (h2 k hk).2⟩⟩
  · rcases hk with hk | hk
    · exact (h k hk1).1 hk
    · exact (h k hk1).2 hk
  · rcases hs.2 k hk with q | q
    · exact h k q
    · exact ⟨fun h' => by have := L2.on.lt k h'; omega, fun h' => by have := L2.on.low k h'; omega⟩
  · rcases hs.2 k hk2 with q | q
    · exact (h k q).1 hk
    · have := L2.on.lt k hk; omega
def Trio (g1 : Nat) (m1 : Mc) (g2 : Nat) (m2 : Mc) (g3 : Nat) (m3 : Mc) (B : Nat) (w0 w : World) : Prop :=
  ∃ Rd1 o1 Rd2 o2 Rd3 o3, Live g1 m1 B w Rd1 o1 ∧ Live g2 m2 B w Rd2 o2 ∧ Live g3 m3 B w Rd3 o3 ∧ (Apt o1 Rd2 o2 ∧ Apt o2 Rd1 o1) ∧ (Apt o1 Rd3 o3 ∧ Apt o3 Rd1 o1) ∧ (Apt o2 Rd3 o3 ∧ Apt o3 Rd2 o2) ∧ Below B w0 w
section
variable {g1 g2 g3 : Nat} {m1 m2 m3 : Mc} {B : Nat} {w0 w w' : World}
theorem Trio.rot (D : Trio g1 m1 g2 m2 g3 m3 B w0 w) : Trio g2 m2 g3 m3 g1 m1 B w0 w := by
  obtain ⟨Rd1, o1, Rd2, o2, Rd3, o3, h1, h2, h3, h12, h13, h23, hb⟩ := D
  exact ⟨Rd2, o2, Rd3, o3, Rd1, o1, h2, h3, h1, h23, h12.symm, h13.symm, hb⟩
theorem Trio.low (D : Trio g1 m1 g2 m2 g3 m3 B w0 w) : Below B w0 w := by
  obtain ⟨Rd1, o1, Rd2, o2, Rd3, o3, h1, h2, h3, h12, h13, h23, hb⟩ := D
  exact hb
theorem Trio.solo (D : Trio g1 m1 g2 m2 g3 m3 B w0 w) : Solo g1 m1 B w0 w := by
  obtain ⟨Rd1, o1, Rd2, o2, Rd3, o3, h1, h2, h3, h12, h13, h23, hb⟩ := D
  exact ⟨Rd1, o1, h1.at_, h1.on, h1.low, hb⟩
theorem Trio.on {m1 m2 m3 : Mc} (D : Trio g1 m1 g2 m2 g3 m3 w0.heap.size w0 w) (hb : Below w.heap.size w w') : Trio g1 m1 g2 m2 g3 m3 w0.heap.size w0 w' := by
  obtain ⟨Rd1, o1, Rd2, o2, Rd3, o3, h1, h2, h3, h12, h13, h23, h⟩ := D
  exact ⟨Rd1, o1, Rd2, o2, Rd3, o3, ⟨h1.at_, h1.on.below hb, h1.low⟩, ⟨h2.at_, h2.on.below hb, h2.low⟩, ⟨h3.at_, h3.on.below hb, h3.low⟩, h12, h13, h23, h.trans (hb.mono h.size)⟩
theorem Trio.end_ (D : Trio g1 m1 g2 m2 g3 m3 B w0 w) (F : Fit m1) (hB : B ≤ w0.heap.size) (most : Nat) (hm : most ≤ 1000000) : Calls Tryd.prog 15 #[.pointer (some ⟨g1, 0, none⟩), .int .i64 most] w (fun e w' => e = .returned (.bool (m1.endP (most + 1)).2) ∧ Trio g1 (m1.endP (most + 1)).1 g2 m2 g3 m3 B w0 w') := by
  obtain ⟨Rd1, o1, Rd2, o2, Rd3, o3, h1, h2, h3, h12, h13, h23, hb⟩ := D
  have h := end_law h1.on F most hm
  rw [MHo.ptr, h1.at_] at h
  refine h.mono ?_
  rintro e w' ⟨rfl, o', hs, hM, hmd⟩
  have hsz := Nat.le_trans hB hb.size
  have k2 := Live.keep h1 h2 h12.1 h12.2 hs hmd hsz (m' := m1)
  have k3 := Live.keep h1 h3 h13.1 h13.2 hs hmd hsz (m' := m1)
  refine ⟨rfl, Rd1, o', Rd2, o2, Rd3, o3, ⟨hs.1.trans h1.at_, hM, fun k hk => ?_⟩, k2.1, k3.1, k2.2, k3.2, h23, hb.trans (hmd.below (a := w) hsz (fun k hk => h1.low k hk))⟩
  rcases hs.2 k hk with h | h
  · exact h1.low k h
  · omega
theorem new_trio (w : World) (A0 A2 : Option Addr) (c0 c2 : Nat) (l : List S46) (input : List Int) (main fuel : Int) (D : Duo g1 m1 g2 m2 B w0 w) (hB : B ≤ w0.heap.size) (hl : Kd.C k46 w A0 l.length l) (hc : l.length ≤ c0) (hLd : Laid w) (k : Nat) (h : code_Sound.f k l main = some true) (hf : FitC l) (hin : Kd.C (Kd.int .i64) w A2 input.length input) (hc2 : input.length ≤ c2) (hf0 : 0 ≤ fuel) (hf1 : fuel ≤ 1048576) (hi1 : input.length ≤ 1000) (hS : SoundP l main) :
    Calls Tryd.prog 12 #[.slice A0 l.length c0, .int .i64 main, .slice A2 input.length c2, .int .i64 fuel] w fun e w' => ∃ g, e = .returned (.tuple #[.pointer (some ⟨g, 0, none⟩), .int .i64 0]) ∧ Trio g1 m1 g2 m2 g ((mc0 l input fuel).beginM main []) B w0 w' := by
  have a := hS.1
  obtain ⟨hs, _⟩ := rr_zero hS a.2.2.1 a.2.2.2.1
  obtain ⟨t1, t2, t3, t4, t5, t6, t7⟩ := hs.1
  have hins : ∀ x ∈ l, x.f0.length ≤ 65536 := fun x hx => by
    obtain ⟨i, hi, rfl⟩ := List.getElem_of_mem hx
    obtain ⟨hs, _⟩ := rr_zero hS (k := (i : Int)) (by omega) (by omega)
    have := hs.1.2.1
    rw [rdC_at l i hi] at this
    exact this
  refine (new_ok w A0 A2 c0 c2 l input main fuel hl hc hLd k h hin hc2 hf0 hf1 hi1 a.2.1 hins a.2.2.1 a.2.2.2.1 ⟨t3, t4⟩).mono ?_
  rintro e w' ⟨Rd, o, rfl, hM, hlow, hb⟩
  obtain ⟨Rd1, o1, Rd2, o2, h1, h2, h3, h4, h5, h6, h7, h8, h9⟩ := D
  have hBw := Nat.le_trans hB h9.size
  have ap : ∀ {g0 : Nat} {m0 : Mc} {Rd0 : Nat → Prop} {o0 : MHo}, MOn Rd0 w o0 m0 → Apt o0 Rd o ∧ Apt o Rd0 o0 := fun hM0 =>
    ⟨fun k hk => ⟨fun h => by have := hM0.lt k hk; have := hlow k (.inr h); omega, fun h => by have := hM0.lt k hk; have := hlow k (.inl h); omega⟩,
     fun k hk => ⟨fun h => by have := hM0.lt k h; have := hlow k (.inr hk); omega, fun h => by have := hM0.low k h; have := hlow k (.inr hk); omega⟩⟩
  exact ⟨o.g, rfl, Rd1, o1, Rd2, o2, Rd, o, ⟨h1, h3.below hb, h5⟩, ⟨h2, h4.below hb, h6⟩, ⟨rfl, hM, fun k hk => Nat.le_trans hBw (hlow k (.inr hk))⟩, ⟨h7, fun k hk => ⟨fun hk1 => (h7 k hk1).1 hk, h8 k hk⟩⟩, ap (g0 := 0) h3, ap (g0 := 0) h4, h9.trans (hb.mono hBw)⟩
end
end Go.Proofs.YthckiolgpgplpaaDoor
end
section
namespace Go.Proofs.YthckiolgpgplpaaDoor
open Go.RowKit Go.Proofs.YthckiolgpgplpaaDoorW.PrintWords Go.Proofs.YthckiolgpgplpaaDoorW.PrintLast Go.Proofs.YthckiolgpgplpaaDoorW.PrintMore Go.Proofs.YthckiolgpgplpaaDoor.P Go.Proofs.YthckiolgpgplpaaDoor.Q
set_option linter.unusedVariables false
set_option linter.unusedSimpArgs false
def Mc.lift (d : Int) (J : List Int) (m : Mc) : Mc := { m with fuel := m.fuel + d, input := m.input ++ J }
/-- What is not over grows: events, ticks. -/
def Grows (m m' : Mc) : Prop := m.events <+: m'.events ∧ m.ticks ≤ m'.ticks ∧ (m.read ≤ m.input.length → m'.read ≤ m'.input.length) ∧ (0 ≤ m.fuel → 0 ≤ m'.fuel)
theorem Grows.refl (m : Mc) : Grows m m := ⟨List.prefix_refl _, Int.le_refl _, id, id⟩
theorem Grows.trans {a b c : Mc} (h : Grows a b) (k : Grows b c) : Grows a c := ⟨h.1.trans k.1, Int.le_trans h.2.1 k.2.1, fun x => k.2.2.1 (h.2.2.1 x), fun x => k.2.2.2 (h.2.2.2 x)⟩
theorem does_grows (m : Mc) (r : List Fr) (f : Fr) (i : S43) : Grows m (m.does r f i).1 := by
  unfold Mc.does
  split
  · split
    · exact ⟨List.prefix_append _ _, Int.le_refl _, id, id⟩
    · exact .refl m
  split
  · split
    · exact ⟨List.prefix_append _ _, Int.le_refl _, id, id⟩
    split
    · exact .refl m
    · exact .refl m
  split
  · exact ⟨List.prefix_append _ _, Int.le_refl _, id, id⟩
  split
  · split
    · exact ⟨List.prefix_append _ _, Int.le_refl _, id, id⟩
    · rename_i h
      exact ⟨List.prefix_append _ _, Int.le_refl _, fun x => (show m.read + 1 ≤ m.input.length by omega), id⟩
  split
  · split
    · exact ⟨List.prefix_append _ _, Int.le_refl _, id, id⟩
    · rename_i h
      exact ⟨List.prefix_refl _, (show m.ticks ≤ m.ticks + 1 by omega), id, fun x => (show 0 ≤ m.fuel - 1 by omega)⟩
  split
  · exact .refl m
  · exact ⟨List.prefix_append _ _, Int.le_refl _, id, id⟩
theorem one_grows (m : Mc) : Grows m m.one.1 := by
  unfold Mc.one
  cases m.frames.getLast? with
  | none => exact .refl m
  | some f => exact does_grows _ _ _ _
theorem steps_grows : ∀ (k : Nat) (m : Mc), Grows m (m.steps k).1
  | 0, m => ⟨List.prefix_append _ _, Int.le_refl _, id, id⟩
  | k + 1, m => by
    show Grows m (if m.one.2 = true then (m.one.1, true) else if m.one.1.ended = true then (m.one.1, false) else Mc.steps k m.one.1).1
    split
    · exact one_grows m
    split
    · exact one_grows m
    · exact (one_grows m).trans (steps_grows k _)
theorem step_grows (m : Mc) : Grows m m.step.1 := by
  unfold Mc.step
  split
  · exact .refl m
  · exact steps_grows _ m
theorem endP_grows : ∀ (k : Nat) (m : Mc), Grows m (m.endP k).1
  | 0, m => .refl m
  | k + 1, m => by
    unfold Mc.endP
    split
    · exact (step_grows m).trans (endP_grows k _)
    · exact step_grows m
/-- One has ended for want of what the other has. -/
def Div (d : Int) (J : List Int) (M K : Mc) : Prop := ∃ E z, M.events = E ++ [z] ∧ E <+: K.events ∧ M.ticks ≤ K.ticks ∧ ((z = (5, 0) ∧ 0 < d) ∨ (z = (4, 5) ∧ J ≠ []))
theorem Div.grows {d : Int} {J : List Int} {M K K' : Mc} (h : Div d J M K) (g : Grows K K') : Div d J M K' := by
  obtain ⟨E, z, h1, h2, h3, h4⟩ := h
  exact ⟨E, z, h1, h2.trans g.1, Int.le_trans h3 g.2.1, h4⟩
def Outc (d : Int) (J : List Int) (p q : Mc × Bool) : Prop := q = (p.1.lift d J, p.2) ∨ (Div d J p.1 q.1 ∧ p.1.ended = true ∧ p.2 = false)
theorem does_lift {d : Int} (hd : 0 ≤ d) (J : List Int) {m : Mc} (hr : m.read ≤ m.input.length) (hf : 0 ≤ m.fuel) (r : List Fr) (f : Fr) (i : S43) : Outc d J (m.does r f i) ((m.lift d J).does r f i) := by
  unfold Mc.does
  by_cases h1 : i.f0 = 19
  · rw [if_pos h1, if_pos h1]
    by_cases h2 : r.length + 1 = 50
    · rw [if_pos h2, if_pos h2]; exact .inl rfl
    · rw [if_neg h2, if_neg h2]; exact .inl rfl
  rw [if_neg h1, if_neg h1]
  by_cases h1 : i.f0 = 20
  · rw [if_pos h1, if_pos h1]
    by_cases h2 : r = []
    · rw [if_pos h2, if_pos h2]; exact .inl rfl
    rw [if_neg h2, if_neg h2]
    by_cases h3 : i.f1 = 1
    · rw [if_pos h3, if_pos h3]; exact .inl rfl
    · rw [if_neg h3, if_neg h3]; exact .inl rfl
  rw [if_neg h1, if_neg h1]
  by_cases h1 : i.f0 = 21
  · rw [if_pos h1, if_pos h1]; exact .inl rfl
  rw [if_neg h1, if_neg h1]
  by_cases h1 : i.f0 = 22
  · rw [if_pos h1, if_pos h1]
    by_cases h2 : m.read = m.input.length
    · rw [if_pos h2]
      by_cases hJ : J = []
      · subst hJ
        rw [if_pos (show (m.lift d []).read = (m.lift d []).input.length by show m.read = (m.input ++ []).length; simpa using h2)]
        exact .inl rfl
      · rw [if_neg (show ¬ (m.lift d J).read = (m.lift d J).input.length by
          show ¬ m.read = (m.input ++ J).length
          have := List.length_pos_iff.2 hJ
          simp; omega)]
        exact .inr ⟨⟨m.events, (4, 5), rfl, List.prefix_append _ _, Int.le_refl _, .inr ⟨rfl, hJ⟩⟩, rfl, rfl⟩
    · rw [if_neg h2, if_neg (show ¬ (m.lift d J).read = (m.lift d J).input.length by show ¬ m.read = (m.input ++ J).length; simp; omega)]
      have e : (m.lift d J).input.getD (m.lift d J).read 0 = m.input.getD m.read 0 := by
        show (m.input ++ J).getD m.read 0 = _
        simp only [List.getD]
        rw [List.getElem?_append_left (by omega)]
      rw [e]
      exact .inl rfl
  rw [if_neg h1, if_neg h1]
  by_cases h1 : i.f0 = 24
  · rw [if_pos h1, if_pos h1]
    by_cases h2 : m.fuel = 0
    · rw [if_pos h2]
      by_cases h3 : d = 0
      · rw [if_pos (show (m.lift d J).fuel = 0 by show m.fuel + d = 0; omega)]
        exact .inl rfl
      · rw [if_neg (show ¬ (m.lift d J).fuel = 0 by show ¬ m.fuel + d = 0; omega)]
        exact .inr ⟨⟨m.events, (5, 0), rfl, List.prefix_refl _, (show m.ticks ≤ m.ticks + 1 by omega), .inl ⟨rfl, by omega⟩⟩, rfl, rfl⟩
    · rw [if_neg h2, if_neg (show ¬ (m.lift d J).fuel = 0 by show ¬ m.fuel + d = 0; omega)]
      refine .inl ?_
      have e : (m.lift d J).fuel - 1 = m.fuel - 1 + d := by show m.fuel + d - 1 = _; omega
      rw [e]
      rfl
  rw [if_neg h1, if_neg h1]
  by_cases h2 : (dataR f i).2 = 0
  · rw [if_pos h2, if_pos h2]; exact .inl rfl
  · rw [if_neg h2, if_neg h2]; exact .inl rfl
theorem one_lift {d : Int} (hd : 0 ≤ d) (J : List Int) {m : Mc} (hr : m.read ≤ m.input.length) (hf : 0 ≤ m.fuel) : Outc d J m.one (m.lift d J).one := by
  unfold Mc.one
  show Outc d J _ (match m.frames.getLast? with | none => (m.lift d J, false) | some f => (m.lift d J).does m.frames.dropLast { f with at_ := f.at_ + 1 } (m.ins f))
  cases m.frames.getLast? with
  | none => exact .inl rfl
  | some f => exact does_lift hd J hr hf _ _ _
theorem steps_lift {d : Int} (hd : 0 ≤ d) (J : List Int) : ∀ (k : Nat) {m : Mc}, m.read ≤ m.input.length → 0 ≤ m.fuel → Outc d J (m.steps k) ((m.lift d J).steps k)
  | 0, m, hr, hf => .inl rfl
  | k + 1, m, hr, hf => by
    have h := one_lift hd J hr hf
    have g := one_grows m
    have g2 : ∀ (x : Mc × Bool), Grows x.1 (if x.2 = true then (x.1, true) else if x.1.ended = true then (x.1, false) else Mc.steps k x.1).1 := fun x => by
      split
      · exact .refl _
      split
      · exact .refl _
      · exact steps_grows k _
    show Outc d J (if m.one.2 = true then (m.one.1, true) else if m.one.1.ended = true then (m.one.1, false) else Mc.steps k m.one.1) (if (m.lift d J).one.2 = true then ((m.lift d J).one.1, true) else if (m.lift d J).one.1.ended = true then ((m.lift d J).one.1, false) else Mc.steps k (m.lift d J).one.1)
    rcases h with h | ⟨h1, h2, h3⟩
    · rw [h]
      by_cases ht : m.one.2 = true
      · rw [if_pos ht, if_pos ht]; exact .inl rfl
      rw [if_neg ht, if_neg ht]
      by_cases he : m.one.1.ended = true
      · rw [if_pos he, if_pos (show (m.one.1.lift d J).ended = true from he)]; exact .inl rfl
      · rw [if_neg he, if_neg (show ¬ (m.one.1.lift d J).ended = true from he)]
        exact steps_lift hd J k (g.2.2.1 hr) (g.2.2.2 hf)
    · rw [if_neg (by rw [h3]; decide), if_pos h2]
      exact .inr ⟨h1.grows (g2 _), h2, rfl⟩
theorem step_lift {d : Int} (hd : 0 ≤ d) (J : List Int) {m : Mc} (hr : m.read ≤ m.input.length) (hf : 0 ≤ m.fuel) : Outc d J m.step (m.lift d J).step := by
  unfold Mc.step
  by_cases he : m.ended = true
  · rw [if_pos he, if_pos (show (m.lift d J).ended = true from he)]; exact .inl rfl
  · rw [if_neg he, if_neg (show ¬ (m.lift d J).ended = true from he)]
    exact steps_lift hd J _ hr hf
/-- At the end of both: the same, or the one has ended for want of what the other has. -/
theorem endP_lift {d : Int} (hd : 0 ≤ d) (J : List Int) : ∀ (a b : Nat) {m : Mc}, m.read ≤ m.input.length → Told m → 0 ≤ m.fuel → m.fuel < a → m.fuel + d < b →
    ((m.endP a).1.events = ((m.lift d J).endP b).1.events ∧ (m.endP a).1.ticks = ((m.lift d J).endP b).1.ticks) ∨ Div d J (m.endP a).1 ((m.lift d J).endP b).1
  | 0, _, m, _, _, hf, ha, _ => by omega
  | a + 1, 0, m, _, _, hf, _, hb => by omega
  | a + 1, b + 1, m, hr, T, hf, ha, hb => by
    have h := step_lift hd J hr hf
    obtain ⟨T2, s2, t2, e2⟩ := step_told T
    have g := step_grows m
    unfold Mc.endP
    rcases h with h | ⟨h1, h2, h3⟩
    · rw [h]
      by_cases ht : m.step.2 = true
      · rw [if_pos ht, if_pos ht]
        rw [ht, if_pos rfl] at t2
        exact endP_lift hd J a b (g.2.2.1 hr) T2 (g.2.2.2 hf) (by omega) (by omega)
      · rw [if_neg ht, if_neg ht]; exact .inl ⟨rfl, rfl⟩
    · rw [if_neg (by rw [h3]; decide)]
      refine .inr (h1.grows ?_)
      split
      · exact endP_grows b _
      · exact .refl _
end Go.Proofs.YthckiolgpgplpaaDoor
end
section
namespace Go.Proofs.YthckiolgpgplpaaDoor
open Go.RowKit Go.Proofs.YthckiolgpgplpaaDoorW.PrintWords Go.Proofs.YthckiolgpgplpaaDoorW.PrintLast Go.Proofs.YthckiolgpgplpaaDoorW.PrintMore Go.Proofs.YthckiolgpgplpaaDoor.P Go.Proofs.YthckiolgpgplpaaDoor.Q
set_option linter.unusedVariables false
set_option linter.unusedSimpArgs false
def ev38 (l : List (Int × Int)) : List S38 := l.map fun p => ⟨p.1, p.2⟩
theorem ev38_length (l : List (Int × Int)) : (ev38 l).length = l.length := by simp [ev38]
theorem reps_ev_from (w : World) : ∀ (l : List (Int × Int)) (pre : List S38) (cs : List Value), Reps (k38.K w) 2 pre cs → Reps (k38.K w) 2 (pre ++ ev38 l) (cs ++ evs l)
  | [], pre, cs, h => by simpa [ev38, evs] using h
  | x :: l, pre, cs, h => by
    have := reps_ev_from w l (pre ++ [⟨x.1, x.2⟩]) (cs ++ [.int .i64 x.1, .int .i64 x.2]) (h.snoc (k38_mk w ⟨x.1, x.2⟩) rfl)
    simpa [ev38, evs, List.append_assoc] using this
theorem ev_row {w : World} {v : Value} {l : List (Int × Int)} (h : w.ownsRow 0 38 2 v l.length (evs l)) : ∃ A c, v = .slice A (ev38 l).length c ∧ (ev38 l).length ≤ c ∧ Kd.C k38 w A (ev38 l).length (ev38 l) := by
  have hR : Reps (k38.K w) 2 (ev38 l) (evs l) := by simpa using reps_ev_from w l [] [] (Reps.none _ _)
  obtain ⟨A, c, e, hr⟩ := own_reads_row h hR (ev38_length l)
  subst e
  rw [ev38_length]
  refine ⟨A, c, rfl, ?_, hr⟩
  rcases h.2 with ⟨e, h0⟩ | ⟨k, cap, cur, e, _, _, hc, _⟩
  · have := (Value.slice.inj e).2.1; omega
  · have := (Value.slice.inj e).2.2; omega
theorem same_true (l : List S38) (hl : l.length ≤ 1000000000000000) : ∃ k, parallaxref09_SameEvents.f k l l = some true := by
  have loop : ∀ (d i : Nat), i + d = l.length → Ev (fun k => parallaxref09_SameEvents.l0 k l l i) true := by
    intro d
    induction d with
    | zero =>
      intro i hi
      obtain rfl : i = l.length := by omega
      refine Q.evs ?_
      simp only [parallaxref09_SameEvents.l0, ff (Int.lt_irrefl (l.length : Int)), if_false]; exact Ev.now _
    | succ d ih =>
      intro i hi
      have c1 := tt (show (i : Int) < (l.length : Int) by omega)
      have c2 := tt (show (0 : Int) ≤ (i : Int) by omega)
      have e2 : wrap64 ((i : Int) + 1) = ((i + 1 : Nat) : Int) := by rw [w64 (by omega) (by omega)]; rfl
      have e3 : (!(((rd_T38 l i).f0) == ((rd_T38 l i).f0)) || (!(((rd_T38 l i).f1) == ((rd_T38 l i).f1)))) = false := by simp
      refine Q.evs ?_
      simp only [parallaxref09_SameEvents.l0, c1, c2, if_true, e3, e2]
      exact ih (i + 1) (by omega)
  obtain ⟨k, hk⟩ := loop l.length 0 (by omega)
  refine ⟨k, ?_⟩
  unfold parallaxref09_SameEvents.f
  rw [if_pos rfl]
  exact hk k (Nat.le_refl _)
theorem ahead_true (l0 l1 : List S38) (h : l0 <+: l1) (hl : l0.length ≤ 1000000000000000) : ∃ k, parallaxlaw09_ahead.f k l0 l1 = some true := by
  obtain ⟨k, hk⟩ := same_true l0 hl
  refine ⟨k, ?_⟩
  unfold parallaxlaw09_ahead.f
  rw [if_pos (by have := h.length_le; omega), if_pos (by omega), show ((l0.length : Int) : Int).toNat = l0.length by omega, ← List.prefix_iff_eq_take.1 h, hk]
  rfl
end Go.Proofs.YthckiolgpgplpaaDoor
end
section
namespace Go.Proofs.YthckiolgpgplpaaDoor
open Go.RowKit Go.Proofs.YthckiolgpgplpaaDoorW.PrintWords Go.Proofs.YthckiolgpgplpaaDoorW.PrintLast Go.Proofs.YthckiolgpgplpaaDoorW.PrintMore Go.Proofs.YthckiolgpgplpaaDoor.P Go.Proofs.YthckiolgpgplpaaDoor.Q
set_option linter.unusedVariables false
set_option linter.unusedSimpArgs false
theorem snoc_inj {E E' : List (Int × Int)} {z z' : Int × Int} (h : E ++ [z] = E' ++ [z']) : E = E' ∧ z = z' := by
  have := List.append_inj' h rfl
  exact ⟨this.1, List.cons.inj this.2 |>.1⟩
/-- More fuel. -/
theorem more_fuel {d : Int} (hd : 0 ≤ d) (a b : Nat) {m : Mc} (hr : m.read ≤ m.input.length) (T : Told m) (hf : 0 ≤ m.fuel) (ha : m.fuel < a) (hb : m.fuel + d < b) {E : List (Int × Int)} {z : Int × Int} (hE : (m.endP a).1.events = E ++ [z]) :
    (z.1 = 5 → E <+: ((m.lift d []).endP b).1.events ∧ (m.endP a).1.ticks ≤ ((m.lift d []).endP b).1.ticks) ∧ (z.1 ≠ 5 → (m.endP a).1.events = ((m.lift d []).endP b).1.events ∧ (m.endP a).1.ticks = ((m.lift d []).endP b).1.ticks) := by
  rcases endP_lift hd [] a b hr T hf ha hb with ⟨h1, h2⟩ | ⟨E', z', h1, h2, h3, h4⟩
  · refine ⟨fun _ => ⟨?_, by omega⟩, fun _ => ⟨h1, h2⟩⟩
    rw [← h1, hE]; exact List.prefix_append _ _
  · obtain ⟨rfl, rfl⟩ := snoc_inj (hE.symm.trans h1)
    refine ⟨fun _ => ⟨h2, h3⟩, fun h => ?_⟩
    rcases h4 with ⟨rfl, _⟩ | ⟨_, h⟩
    · exact absurd rfl h
    · exact absurd rfl h
/-- More input. -/
theorem more_input (J : List Int) (a b : Nat) {m : Mc} (hr : m.read ≤ m.input.length) (T : Told m) (hf : 0 ≤ m.fuel) (ha : m.fuel < a) (hb : m.fuel + 0 < b) {E : List (Int × Int)} {z : Int × Int} (hE : (m.endP a).1.events = E ++ [z]) :
    (z = (4, 5) → E <+: ((m.lift 0 J).endP b).1.events ∧ (m.endP a).1.ticks ≤ ((m.lift 0 J).endP b).1.ticks) ∧ (z ≠ (4, 5) → (m.endP a).1.events = ((m.lift 0 J).endP b).1.events ∧ (m.endP a).1.ticks = ((m.lift 0 J).endP b).1.ticks) := by
  rcases endP_lift (Int.le_refl 0) J a b hr T hf ha hb with ⟨h1, h2⟩ | ⟨E', z', h1, h2, h3, h4⟩
  · refine ⟨fun _ => ⟨?_, by omega⟩, fun _ => ⟨h1, h2⟩⟩
    rw [← h1, hE]; exact List.prefix_append _ _
  · obtain ⟨rfl, rfl⟩ := snoc_inj (hE.symm.trans h1)
    refine ⟨fun _ => ⟨h2, h3⟩, fun h => ?_⟩
    rcases h4 with ⟨_, h⟩ | ⟨rfl, _⟩
    · exact absurd h (Int.lt_irrefl 0)
    · exact absurd rfl h
theorem ev38_take {L E : List (Int × Int)} {z : Int × Int} (h : L = E ++ [z]) : (ev38 L).take ((ev38 L).length - 1) = ev38 E ∧ rd_T38 (ev38 L) ((ev38 L).length - 1 : Nat) = ⟨z.1, z.2⟩ := by
  subst h
  simp [ev38, rd_T38, List.getD]
theorem ev38_prefix {E L : List (Int × Int)} (h : E <+: L) : ev38 E <+: ev38 L := by
  obtain ⟨r, rfl⟩ := h
  exact ⟨ev38 r, by simp [ev38]⟩
theorem lift_fuel (l : List S46) (input : List Int) (main f d : Int) : ((mc0 l input f).beginM main []).lift d [] = (mc0 l input (f + d)).beginM main [] := by
  simp [Mc.lift, mc0, Mc.beginM]
theorem lift_input (l : List S46) (input J : List Int) (main f : Int) : ((mc0 l input f).beginM main []).lift 0 J = (mc0 l (input ++ J) f).beginM main [] := by
  simp [Mc.lift, mc0, Mc.beginM]
theorem among_n (n : Int) (N : Nat) (h0 : 1 ≤ N) (h1 : N ≤ 1000) : ∃ d : Nat, d < N ∧ parallaxref01_Among.f n N = some (d : Int) := by
  unfold parallaxref01_Among.f
  rw [if_neg (by omega), if_neg (by omega)]
  have h1 := Int.tmod_lt_of_pos n (show (0 : Int) < N by omega)
  have h2 : -(N : Int) < Int.tmod n N := Int.lt_tmod_of_pos n (by omega)
  generalize Int.tmod n N = x at h1 h2
  by_cases h : x < 0
  · rw [if_pos h]
    refine ⟨(x + N).toNat, by omega, ?_⟩
    congr 1
    unfold wrap64; omega
  · rw [if_neg h]
    exact ⟨x.toNat, by omega, by congr 1; omega⟩
end Go.Proofs.YthckiolgpgplpaaDoor
end
section
namespace Go.Proofs.YthckiolgpgplpaaDoor
open Go.RowKit Go.Proofs.YthckiolgpgplpaaDoorW.PrintWords Go.Proofs.YthckiolgpgplpaaDoorW.PrintLast Go.Proofs.YthckiolgpgplpaaDoorW.PrintMore Go.Proofs.YthckiolgpgplpaaDoor.P Go.Proofs.YthckiolgpgplpaaDoor.Q
set_option linter.unusedVariables false
set_option linter.unusedSimpArgs false
set_option maxRecDepth 1000000
set_option maxHeartbeats 2000000
/-- What is known of the three ends. -/
structure Ends3 (l : List S46) (main : Int) (input inn : List Int) (fuel more : Int) (f d : Nat) (M K N : Mc) (E : List (Int × Int)) (z : Int × Int) : Prop where
  few : parallaxlaw09_few.f fuel = some (f : Int)
  among : parallaxref01_Among.f more 100 = some (d : Int)
  fb : f ≤ 200
  db : d < 100
  eqf : fewP fuel = f
  sound : ∃ k, code_Sound.f k l main = some true
  fm : Fit ((mc0 l input (fewP fuel)).beginM main [])
  fk : Fit ((mc0 l input ((f : Int) + d)).beginM main [])
  fn : Fit ((mc0 l (input ++ inn) f).beginM main [])
  em : ((mc0 l input (fewP fuel)).beginM main []).endP 301 = (M, true)
  ek : ((mc0 l input ((f : Int) + d)).beginM main []).endP 401 = (K, true)
  en : ((mc0 l (input ++ inn) f).beginM main []).endP 301 = (N, true)
  ev : M.events = E ++ [z]
  kpos : 0 < K.events.length
  npos : 0 < N.events.length
  ml : M.events.length ≤ 4398046511104
  kl : K.events.length ≤ 4398046511104
  nl : N.events.length ≤ 4398046511104
  p1 : z.1 = 5 → E <+: K.events ∧ M.ticks ≤ K.ticks
  q1 : z.1 ≠ 5 → M.events = K.events ∧ M.ticks = K.ticks
  p2 : z = (4, 5) → E <+: N.events ∧ M.ticks ≤ N.ticks
  q2 : z ≠ (4, 5) → M.events = N.events ∧ M.ticks = N.ticks
theorem told_pos {M : Mc} (T : Told M) (h : M.ended = true) : 0 < M.events.length := by
  obtain ⟨E, z, h1, _⟩ := T.last h
  rw [h1]; simp
theorem ends3 {l : List S46} {main : Int} {input inn : List Int} {fuel : Int} (more : Int) (hf : FitC l) (hS : SoundP l main) (hf0 : 0 ≤ fewP fuel) (hf1 : fewP fuel ≤ 200) (hi : input.length ≤ 200) (hj : inn.length ≤ 100) : ∃ f d M K N E z, Ends3 l main input inn fuel more f d M K N E z := by
  obtain ⟨f, hF⟩ : ∃ f : Nat, fewP fuel = f := ⟨(fewP fuel).toNat, by omega⟩
  obtain ⟨d, hd, hA⟩ := among_n more 100 (by decide) (by decide)
  obtain ⟨r, ⟨K1, e1⟩, _, hr⟩ := Sound_both l hf main
  obtain rfl := hr.2 hS
  have Fm : Fit ((mc0 l input (fewP fuel)).beginM main []) := fit_new hS (by omega) hf0 (by omega)
  have Fk : Fit ((mc0 l input ((f : Int) + d)).beginM main []) := fit_new hS (by omega) (by omega) (by omega)
  have Fn : Fit ((mc0 l (input ++ inn) f).beginM main []) := fit_new hS (by simp; omega) (by omega) (by omega)
  have Tm := told_new l input main (fewP fuel)
  have Tk := told_new l input main ((f : Int) + d)
  have Tn := told_new l (input ++ inn) main f
  have em := endP_ends 301 Tm Fm (by show fewP fuel < _; omega)
  have ek := endP_ends 401 Tk Fk (by show (f : Int) + d < _; omega)
  have en := endP_ends 301 Tn Fn (by show (f : Int) < _; omega)
  have Um := (endP_told 301 Tm).1
  have Uk := (endP_told 401 Tk).1
  have Un := (endP_told 301 Tn).1
  obtain ⟨E, z, hE, _, _⟩ := Um.last em.2
  have g1 := more_fuel (d := (d : Int)) (by omega) 301 401 (m := (mc0 l input (fewP fuel)).beginM main []) (Nat.zero_le _) Tm hf0 (by show fewP fuel < _; omega) (by show fewP fuel + d < _; omega) hE
  have g2 := more_input inn 301 301 (m := (mc0 l input (fewP fuel)).beginM main []) (Nat.zero_le _) Tm hf0 (by show fewP fuel < _; omega) (by show fewP fuel + 0 < _; omega) hE
  rw [lift_fuel] at g1
  rw [lift_input] at g2
  rw [hF] at g1 g2 em hE Fm
  have bm := (endP_fit 301 Fm).1.evb
  have bk := (endP_fit 401 Fk).1.evb
  have bn := (endP_fit 301 Fn).1.evb
  exact ⟨f, d, _, _, _, E, z, by rw [few_f, hF], hA, by omega, hd, hF, ⟨K1, e1 K1 (Nat.le_refl _)⟩, by rw [hF]; exact Fm, Fk, Fn, by rw [hF]; exact Prod.ext rfl em.1, Prod.ext rfl ek.1, Prod.ext rfl en.1, hE, told_pos Uk ek.2, told_pos Un en.2, Nat.le_of_succ_le (Nat.le_of_succ_le bm), Nat.le_of_succ_le (Nat.le_of_succ_le bk), Nat.le_of_succ_le (Nat.le_of_succ_le bn), g1.1, g1.2, g2.1, g2.2⟩
end Go.Proofs.YthckiolgpgplpaaDoor
end
section
namespace Go.Proofs.YthckiolgpgplpaaDoor
open Go.RowKit Go.Proofs.YthckiolgpgplpaaDoorW.PrintWords Go.Proofs.YthckiolgpgplpaaDoorW.PrintLast Go.Proofs.YthckiolgpgplpaaDoorW.PrintMore Go.Proofs.YthckiolgpgplpaaDoor.P Go.Proofs.YthckiolgpgplpaaDoor.Q
set_option linter.unusedVariables false
set_option linter.unusedSimpArgs false
set_option maxRecDepth 1000000
set_option maxHeartbeats 2000000
section
variable {g1 g2 g3 : Nat} {m1 m2 m3 M : Mc} {B : Nat} {w0 w w' : World}
theorem Trio.ends (D : Trio g1 m1 g2 m2 g3 m3 w0.heap.size w0 w) (F : Fit m1) (most : Nat) (hm : most ≤ 1000000) (e : m1.endP (most + 1) = (M, true)) : Calls Tryd.prog 15 #[.pointer (some ⟨g1, 0, none⟩), .int .i64 most] w (fun e w' => e = .returned (.bool true) ∧ Trio g2 m2 g3 m3 g1 M w0.heap.size w0 w') := by
  have h := D.end_ F (Nat.le_refl _) most hm
  rw [e] at h
  exact h.mono (fun e w' ⟨h1, h2⟩ => ⟨h1, h2.rot⟩)
end
theorem ahead_law {W : World} {A B : Option Addr} {aC bC : Nat} {La Lb : List S38} (ha : Kd.C k38 W A La.length La) (hac : La.length ≤ aC) (hb : Kd.C k38 W B Lb.length Lb) (hbc : Lb.length ≤ bC) (h : La.take (La.length - 1) <+: Lb) (hl : (La.length : Int) ≤ 4398046511104) :
    Calls Tryd.prog 17 #[.slice A (La.length - 1) aC, .slice B Lb.length bC] W fun e w' => e = .returned (.bool true) ∧ Drawn0 W w' := by
  have e : (La.take (La.length - 1)).length = La.length - 1 := by simp
  obtain ⟨k, hk⟩ := ahead_true _ _ h (by omega)
  have := parallaxlaw09_ahead.calls k A aC (La.take (La.length - 1)) B bC Lb true W (Kd.C_take ha (by omega)) (by omega) hb hbc hk
  rw [e] at this
  exact this
theorem same_law {W : World} {A B : Option Addr} {aC bC : Nat} {La Lb : List S38} (ha : Kd.C k38 W A La.length La) (hac : La.length ≤ aC) (hb : Kd.C k38 W B Lb.length Lb) (hbc : Lb.length ≤ bC) (h : La = Lb) (hl : (La.length : Int) ≤ 4398046511104) :
    Calls Tryd.prog 19 #[.slice A La.length aC, .slice B Lb.length bC] W fun e w' => e = .returned (.bool true) ∧ Drawn0 W w' := by
  subst h
  obtain ⟨k, hk⟩ := same_true La (by omega)
  exact parallaxref09_SameEvents.calls k A aC La B bC La true W ha hac hb hbc hk
theorem four (z1 z2 : Int) : z1 = 5 ∨ (z1 = 4 ∧ z2 = 5) ∨ (z1 = 4 ∧ z2 ≠ 5) ∨ (z1 ≠ 5 ∧ z1 ≠ 4) := by omega
structure Told3 (La Lb Lc : List S38) (z1 z2 TM TK TN : Int) : Prop where
  a1 : z1 = 5 → La.take (La.length - 1) <+: Lb ∧ TM ≤ TK
  s1 : z1 ≠ 5 → La = Lb ∧ TM = TK
  a2 : z1 = 4 ∧ z2 = 5 → La.take (La.length - 1) <+: Lc ∧ TM ≤ TN
  s2 : ¬ (z1 = 4 ∧ z2 = 5) → La = Lc ∧ TM = TN
theorem told3 {l : List S46} {main : Int} {input inn : List Int} {fuel more : Int} {f d : Nat} {M K N : Mc} {E : List (Int × Int)} {z1 z2 : Int} (H : Ends3 l main input inn fuel more f d M K N E (z1, z2)) : Told3 (ev38 M.events) (ev38 K.events) (ev38 N.events) z1 z2 M.ticks K.ticks N.ticks := by
  have ht := (ev38_take H.ev).1
  refine ⟨fun h => ?_, fun h => ?_, fun h => ?_, fun h => ?_⟩
  · rw [ht]; exact ⟨ev38_prefix (H.p1 h).1, (H.p1 h).2⟩
  · rw [(H.q1 h).1]; exact ⟨rfl, (H.q1 h).2⟩
  · rw [ht]; have := H.p2 (by rw [h.1, h.2]); exact ⟨ev38_prefix this.1, this.2⟩
  · have := H.q2 (fun e => h ⟨(Prod.mk.inj e).1, (Prod.mk.inj e).2⟩); rw [this.1]; exact ⟨rfl, this.2⟩
theorem of_beq_false {n : Nat} (h : ((n : Int) == 0) = false) : 0 < n := by
  have := beq_eq_false_iff_ne.1 h; omega
theorem last_at {L : List S38} {ev E : List (Int × Int)} {z1 z2 : Int} (h : L = ev38 ev) (he : ev = E ++ [(z1, z2)]) (h0 : (0 : Int) ≤ (L.length : Int) - 1) : (rd_T38 L ((L.length : Int) - 1)).f0 = z1 ∧ (rd_T38 L ((L.length : Int) - 1)).f1 = z2 := by
  have := (ev38_take he).2
  rw [← h] at this
  rw [show ((L.length : Int) - 1) = ((L.length - 1 : Nat) : Int) by omega, this]
  exact ⟨rfl, rfl⟩
theorem vmMore_calls (A0 : Option Addr) (c0 : Nat) (l : List S46) (main : Int) (A2 : Option Addr) (c2 : Nat) (input : List Int) (fuel more : Int) (A5 : Option Addr) (c5 : Nat) (inn : List Int) (w : World) (hLd : Laid w) (hl : Kd.C k46 w A0 l.length l) (hc : l.length ≤ c0) (hin : Kd.C (Kd.int .i64) w A2 input.length input) (hc2 : input.length ≤ c2) (hi5 : Kd.C (Kd.int .i64) w A5 inn.length inn) (hc5 : inn.length ≤ c5)
    (g0 : l.length * 48 ≤ 140737488351232 ∧ ∀ x ∈ l, ((x.f0.length * 24 ≤ 140737488351232 ∧ ∀ y3 ∈ x.f0, ((Lit.int .i64 y3.f0).wf = true ∧ ((Lit.int .i64 y3.f1).wf = true ∧ (Lit.int .i64 y3.f2).wf = true))) ∧ ((Lit.int .i64 x.f1).wf = true ∧ ((Lit.int .i64 x.f2).wf = true ∧ True))))
    (_ : (Lit.int .i64 main).wf = true) (_ : input.length * 8 ≤ 140737488351232 ∧ ∀ x ∈ input, (Lit.int .i64 x).wf = true) (_ : (Lit.int .i64 fuel).wf = true) (_ : (Lit.int .i64 more).wf = true) (_ : inn.length * 8 ≤ 140737488351232 ∧ ∀ x ∈ inn, (Lit.int .i64 x).wf = true) :
    Calls Tryd.prog 3 #[.slice A0 l.length c0, .int .i64 main, .slice A2 input.length c2, .int .i64 fuel, .int .i64 more, .slice A5 inn.length c5] w fun e w' => e = .returned (.bool true) ∧ Below w.heap.size w w' := by
  have hFC : FitC l := fun x hx y hy => (g0.2 x hx).1.2 y hy
  have HBO := Aside0.mk (both_law w A0 A2 c0 c2 l input main fuel hl hc hLd hFC hin hc2 (by omega) (fun x hx => by have := (g0.2 x hx).1.1; omega))
  have HLD := Aside0.mk hLd
  have HFC := Aside0.mk hFC
  have HI5 := Aside0.mk hi5; have HI2 := Aside0.mk hin
  have HNK : Aside0 (∀ (f d : Nat) (M K N : Mc) (E : List (Int × Int)) (z : Int × Int) (gm : Nat) (W : World), Ends3 l main input inn fuel more f d M K N E z → input.length ≤ 200 → Solo gm ((mc0 l input (fewP fuel)).beginM main []) w.heap.size w W → Calls Tryd.prog 12 #[.slice A0 l.length c0, .int .i64 main, .slice A2 input.length c2, .int .i64 ((f : Int) + d)] W fun e w' => ∃ g, e = .returned (.tuple #[.pointer (some ⟨g, 0, none⟩), .int .i64 0]) ∧ Duo gm ((mc0 l input (fewP fuel)).beginM main []) g ((mc0 l input ((f : Int) + d)).beginM main []) w.heap.size w w') :=
    ⟨fun f d M K N E z gm W H hi S => by
      obtain ⟨k, hk⟩ := H.sound
      have := H.fb; have := H.db
      exact new_duo W A0 A2 c0 c2 l input main ((f : Int) + d) S (Nat.le_refl _) (Kd.C_below hl S.low) hc (hLd.below S.low) k hk hFC (Kd.C_below hin S.low) hc2 (by omega) (by omega) (by omega)⟩
  have HNN : Aside0 (∀ (f d : Nat) (M K N : Mc) (E : List (Int × Int)) (z : Int × Int) (gm gk : Nat) (W : World) (A : Option Addr) (c : Nat), Ends3 l main input inn fuel more f d M K N E z → SoundP l main → (input ++ inn).length ≤ 1000 → Duo gm ((mc0 l input (fewP fuel)).beginM main []) gk ((mc0 l input ((f : Int) + d)).beginM main []) w.heap.size w W → Kd.C (Kd.int .i64) W A (input ++ inn).length (input ++ inn) → (input ++ inn).length ≤ c → Calls Tryd.prog 12 #[.slice A0 l.length c0, .int .i64 main, .slice A (input.length + inn.length) c, .int .i64 (f : Int)] W fun e w' => ∃ g, e = .returned (.tuple #[.pointer (some ⟨g, 0, none⟩), .int .i64 0]) ∧ Trio gm ((mc0 l input (fewP fuel)).beginM main []) gk ((mc0 l input ((f : Int) + d)).beginM main []) g ((mc0 l (input ++ inn) f).beginM main []) w.heap.size w w') :=
    ⟨fun f d M K N E z gm gk W A c H hS hlen D hC hcc => by
      obtain ⟨k, hk⟩ := H.sound
      have := H.fb
      have hb := D.solo.low
      have h := new_trio W A0 A c0 c l (input ++ inn) main f D (Nat.le_refl _) (Kd.C_below hl hb) hc (hLd.below hb) k hk hFC hC hcc (by omega) (by omega) hlen hS
      rw [List.length_append] at h
      exact h⟩
  clear hl hc hin hLd g0 hi5 hFC
  by_cases hj : inn.length ≤ 100
  · have e1 : decide (100 < (inn.length : Int)) = false := decide_eq_false (by omega)
    have HJ := Aside0.mk hj; clear hj
    go_enter Tryd.func3, Tryd.ntmps3
    go_wp2_with (first
      | ((with_reducible refine gate_callee (f := 10) rfl ?_); (try (refine gate_guard (by rfl) ?_; dsimp only)); refine goesL_ (some 31) rfl rfl Tryd.func10 (by kernel_rfl) rfl #[.slice A0 l.length c0, .int .i64 main, .slice A2 input.length c2, .int .i64 fuel] rfl (by (try simp only [List.map_toArray, List.map_cons, List.map_nil]); first | done | rfl) ?_; (with_reducible refine (HBO.out).mono ?_); rintro e w1 ⟨hb, h⟩; rcases h with rfl | ⟨gm, gr, b, rfl, S0, hS, hf0, hf1, hi⟩; rotate_left; obtain ⟨f, d, M, K, N, E, ⟨z1, z2⟩, h3⟩ := ends3 more HFC.out hS hf0 hf1 hi HJ.out; have hfb : (f : Int) ≤ 200 := (by have := h3.fb; omega); have hdb : (d : Int) < 100 := (by have := h3.db; omega); have HIL := Aside0.mk hi; have HS := Aside0.mk hS; have H3 := Aside0.mk h3; have S0 := Aside0.mk S0; have HB := Aside0.mk hb; clear hb hS hf0 hf1 hi h3; refine ⟨_, rfl, ?_⟩; rotate_left; have HB := Aside0.mk hb; clear hb; refine ⟨_, rfl, ?_⟩)
      | ((with_reducible refine gate_callee (f := 11) rfl ?_); (try (refine gate_guard (by rfl) ?_; dsimp only)); refine goesL_ (some 49) rfl rfl Tryd.func11 (by kernel_rfl) rfl #[] rfl (by (try simp only [List.map_toArray, List.map_cons, List.map_nil]); first | done | rfl) ?_; (with_reducible refine (known_law _ (HLD.out.below HB.out)).mono ?_); rintro e w9 ⟨rfl, hb⟩; have HZ : Aside0 (Below w.heap.size w w9) := ⟨HB.out.trans (hb.mono HB.out.size)⟩; clear hb; refine ⟨_, rfl, ?_⟩)
      | ((with_reducible refine gate_callee (f := 13) rfl ?_); (try (refine gate_guard (by rfl) ?_; dsimp only)); refine goesL_ (some 56) rfl rfl Tryd.func13 (by kernel_rfl) rfl #[.int .i64 fuel] rfl (by (try simp only [List.map_toArray, List.map_cons, List.map_nil]); first | done | rfl) ?_; (with_reducible refine (parallaxlaw09_few.calls fuel _ _ H3.out.few).mono ?_); rintro e w2 ⟨rfl, nd2, rfl⟩; refine ⟨_, rfl, ?_⟩)
      | ((with_reducible refine gate_callee (f := 14) rfl ?_); (try (refine gate_guard (by rfl) ?_; dsimp only)); refine goesL_ (some 58) rfl rfl Tryd.func14 (by kernel_rfl) rfl #[.int .i64 more, .int .i64 100] rfl (by (try simp only [List.map_toArray, List.map_cons, List.map_nil]); first | done | rfl) ?_; (with_reducible refine (parallaxref01_Among.calls more 100 _ _ H3.out.among).mono ?_); rintro e w3 ⟨rfl, nd3, rfl⟩; refine ⟨_, rfl, ?_⟩)
      | ((with_reducible refine gate_callee (f := 12) rfl ?_); (try (refine gate_guard (by rfl) ?_; dsimp only)); refine goesL_ (some 60) rfl rfl Tryd.func12 (by kernel_rfl) rfl #[.slice A0 l.length c0, .int .i64 main, .slice A2 input.length c2, .int .i64 ((f : Int) + d)] rfl (by (try simp only [List.map_toArray, List.map_cons, List.map_nil]); first | done | rfl) ?_; (with_reducible refine (HNK.out _ _ _ _ _ _ _ _ _ H3.out HIL.out (S0.out.on (pw_below_drewN (Below.refl w1.heap.size w1) _))).mono ?_); rintro e w4 ⟨gk, rfl, D0⟩; have D0 := Aside0.mk D0; refine ⟨_, rfl, ?_⟩)
      | ((with_reducible refine gate_builtin (b := .append) (xs := #[.tmp 63, .tmp 64]) rfl ?_); at_builtin; refine Kd.R_append_rows (Kd.int .i64) (w0 := w4) w4.heap.size rfl (.tmp 63) (.tmp 64) 23 2 (.int .i64 0) 8 rfl Tryd.underlying23 info2 rfl (by decide) (by decide) (.slice none 0 0) ([] : List Int) input _ _ _ (fun _ => True) (fun _ => False) rfl rfl (Kd.R_nil _ _ _ _ (fun _ => True)) (Kd.C_below HI2.out D0.out.solo.low) (fun _ _ h => h) (fun _ h => h.elim) (fun _ _ => trivial) (Below.refl w4.heap.size w4) (Nat.le_refl _) (by have := HIL.out; have := HJ.out; simp; omega) ?_; intro iv w5 ho hb hg hat; have ho : Kd.R (Kd.int .i64) 2 w5 w4.heap.size (fun _ => True) iv input := ho; obtain ⟨iA, iC, rfl⟩ := Kd.R_slice ho; have HO := Aside0.mk ho; have HB5 := Aside0.mk hb; clear ho hb hg hat)
      | ((with_reducible refine gate_builtin (b := .append) (xs := #[.tmp 65, .tmp 66]) rfl ?_); at_builtin; refine Kd.R_append_rows (Kd.int .i64) (w0 := w4) w4.heap.size rfl (.tmp 65) (.tmp 66) 23 2 (.int .i64 0) 8 rfl Tryd.underlying23 info2 rfl (by decide) (by decide) (.slice iA input.length iC) (input) inn _ _ _ (fun _ => True) (fun _ => False) rfl rfl HO.out (Kd.C_below HI5.out (D0.out.solo.low.trans (HB5.out.mono D0.out.solo.low.size))) (fun _ _ h => h) (fun _ h => h.elim) (fun _ _ => trivial) HB5.out HB5.out.size (by have := HIL.out; have := HJ.out; simp; omega) ?_; intro jv w6 ho hb hg hat; obtain ⟨jA, jC, rfl, hjc, hjr⟩ := Kd.R_reads ho; have D0 := Aside0.mk (D0.out.below (Nat.le_refl _) hb); have HJC := Aside0.mk hjc; have HJR := Aside0.mk hjr; clear ho hb hg hat hjc hjr)
      | ((with_reducible refine gate_callee (f := 13) rfl ?_); (try (refine gate_guard (by rfl) ?_; dsimp only)); refine goesL_ (some 73) rfl rfl Tryd.func13 (by kernel_rfl) rfl #[.int .i64 fuel] rfl (by (try simp only [List.map_toArray, List.map_cons, List.map_nil]); first | done | rfl) ?_; (with_reducible refine (parallaxlaw09_few.calls fuel _ _ H3.out.few).mono ?_); rintro e w7 ⟨rfl, nd7, rfl⟩; have D0 := Aside0.mk (D0.out.below (Nat.le_refl _) (pw_below_drewN (Below.refl _ _) nd7)); have HJR := Aside0.mk (Kd.C_drewN HJR.out nd7); refine ⟨_, rfl, ?_⟩)
      | ((with_reducible refine gate_callee (f := 12) rfl ?_); (try (refine gate_guard (by rfl) ?_; dsimp only)); refine goesL_ (some 74) rfl rfl Tryd.func12 (by kernel_rfl) rfl #[.slice A0 l.length c0, .int .i64 main, .slice jA (input.length + inn.length) jC, .int .i64 (f : Int)] rfl (by (try simp only [List.map_toArray, List.map_cons, List.map_nil]); first | done | rfl) ?_; (with_reducible refine (HNN.out _ _ _ _ _ _ _ _ _ _ _ _ H3.out HS.out (by have := HIL.out; have := HJ.out; simp; omega) D0.out HJR.out HJC.out).mono ?_); rintro e w8 ⟨gn, rfl, T0⟩; have T0 := Aside0.mk T0; refine ⟨_, rfl, ?_⟩)
      | (have HX : Aside0 (Calls Tryd.prog 15 #[.pointer (some ⟨gm, 0, none⟩), .int .i64 300] _ (fun e w' => e = .returned (.bool true) ∧ Trio gk _ gn _ gm M w.heap.size w w')) := ⟨T0.out.ends H3.out.fm 300 (by decide) H3.out.em⟩; (with_reducible refine gate_callee (f := 15) rfl ?_); (try (refine gate_guard (by rfl) ?_; dsimp only)); refine goesL_ (some 85) rfl rfl Tryd.func15 (by kernel_rfl) rfl #[.pointer (some ⟨gm, 0, none⟩), .int .i64 300] rfl (by (try simp only [List.map_toArray, List.map_cons, List.map_nil]); first | done | rfl) ?_; (with_reducible refine (HX.out).mono ?_); rintro e w9 ⟨rfl, T1⟩; have T1 := Aside0.mk T1; refine ⟨_, rfl, ?_⟩)
      | (have HX : Aside0 (Calls Tryd.prog 15 #[.pointer (some ⟨gk, 0, none⟩), .int .i64 400] _ (fun e w' => e = .returned (.bool true) ∧ Trio gn _ gm _ gk K w.heap.size w w')) := ⟨T1.out.ends H3.out.fk 400 (by decide) H3.out.ek⟩; (with_reducible refine gate_callee (f := 15) rfl ?_); (try (refine gate_guard (by rfl) ?_; dsimp only)); refine goesL_ (some 90) rfl rfl Tryd.func15 (by kernel_rfl) rfl #[.pointer (some ⟨gk, 0, none⟩), .int .i64 400] rfl (by (try simp only [List.map_toArray, List.map_cons, List.map_nil]); first | done | rfl) ?_; (with_reducible refine (HX.out).mono ?_); rintro e w10 ⟨rfl, T2⟩; have T2 := Aside0.mk T2; refine ⟨_, rfl, ?_⟩)
      | (have HX : Aside0 (Calls Tryd.prog 15 #[.pointer (some ⟨gn, 0, none⟩), .int .i64 300] _ (fun e w' => e = .returned (.bool true) ∧ Trio gm _ gk _ gn N w.heap.size w w')) := ⟨T2.out.ends H3.out.fn 300 (by decide) H3.out.en⟩; (with_reducible refine gate_callee (f := 15) rfl ?_); (try (refine gate_guard (by rfl) ?_; dsimp only)); refine goesL_ (some 95) rfl rfl Tryd.func15 (by kernel_rfl) rfl #[.pointer (some ⟨gn, 0, none⟩), .int .i64 300] rfl (by (try simp only [List.map_toArray, List.map_cons, List.map_nil]); first | done | rfl) ?_; (with_reducible refine (HX.out).mono ?_); rintro e w11 ⟨rfl, T3⟩; have T3 := Aside0.mk T3; refine ⟨_, rfl, ?_⟩)
      | ((with_reducible refine gate_callee (f := 16) rfl ?_); (try (refine gate_guard (by rfl) ?_; dsimp only)); refine goesL_ (some 99) rfl rfl Tryd.func16 (by kernel_rfl) rfl #[.pointer (some ⟨gm, 0, none⟩)] rfl (by (try simp only [List.map_toArray, List.map_cons, List.map_nil]); first | done | rfl) ?_; (with_reducible refine ((T3.out.solo).events H3.out.ml).mono ?_); rintro e w12 ⟨va, rfl, ha, hb⟩; have T3 := Aside0.mk (T3.out.on hb); obtain ⟨aA, aC, rfl, hc_, hr_⟩ := ev_row ha; obtain ⟨La, hL_⟩ : ∃ L_, L_ = ev38 M.events := ⟨_, rfl⟩; rw [← hL_] at hc_ hr_ ⊢; have pos_a : ((La.length : Int) == 0) = false := beq_eq_false_iff_ne.2 (by rw [hL_, ev38_length]; have := (show 0 < M.events.length by rw [H3.out.ev]; simp); omega); have HCa := Aside0.mk hc_; have HRa := Aside0.mk hr_; have HLa := Aside0.mk hL_; clear ha hb hc_ hr_ hL_; refine ⟨_, rfl, ?_⟩)
      | ((with_reducible refine gate_callee (f := 16) rfl ?_); (try (refine gate_guard (by rfl) ?_; dsimp only)); refine goesL_ (some 101) rfl rfl Tryd.func16 (by kernel_rfl) rfl #[.pointer (some ⟨gk, 0, none⟩)] rfl (by (try simp only [List.map_toArray, List.map_cons, List.map_nil]); first | done | rfl) ?_; (with_reducible refine ((T3.out.rot.solo).events H3.out.kl).mono ?_); rintro e w13 ⟨vb, rfl, ha, hb⟩; have T3 := Aside0.mk (T3.out.on hb); obtain ⟨bA, bC, rfl, hc_, hr_⟩ := ev_row ha; obtain ⟨Lb, hL_⟩ : ∃ L_, L_ = ev38 K.events := ⟨_, rfl⟩; rw [← hL_] at hc_ hr_ ⊢; have pos_b : ((Lb.length : Int) == 0) = false := beq_eq_false_iff_ne.2 (by rw [hL_, ev38_length]; have := H3.out.kpos; omega); have HCb := Aside0.mk hc_; have HRb := Aside0.mk hr_; have HLb := Aside0.mk hL_; have HRa := Aside0.mk (Kd.C_below HRa.out hb); clear ha hb hc_ hr_ hL_; refine ⟨_, rfl, ?_⟩)
      | ((with_reducible refine gate_callee (f := 16) rfl ?_); (try (refine gate_guard (by rfl) ?_; dsimp only)); refine goesL_ (some 103) rfl rfl Tryd.func16 (by kernel_rfl) rfl #[.pointer (some ⟨gn, 0, none⟩)] rfl (by (try simp only [List.map_toArray, List.map_cons, List.map_nil]); first | done | rfl) ?_; (with_reducible refine ((T3.out.rot.rot.solo).events H3.out.nl).mono ?_); rintro e w14 ⟨vc, rfl, ha, hb⟩; have T3 := Aside0.mk (T3.out.on hb); obtain ⟨cA, cC, rfl, hc_, hr_⟩ := ev_row ha; obtain ⟨Lc, hL_⟩ : ∃ L_, L_ = ev38 N.events := ⟨_, rfl⟩; rw [← hL_] at hc_ hr_ ⊢; have pos_c : ((Lc.length : Int) == 0) = false := beq_eq_false_iff_ne.2 (by rw [hL_, ev38_length]; have := H3.out.npos; omega); have HCc := Aside0.mk hc_; have HRc := Aside0.mk hr_; have HLc := Aside0.mk hL_; have HRa := Aside0.mk (Kd.C_below HRa.out hb); have HRb := Aside0.mk (Kd.C_below HRb.out hb); clear ha hb hc_ hr_ hL_; have hLab : (La.length : Int) ≤ 4398046511104 := (by have := HLa.out; subst this; rw [ev38_length]; have := H3.out.ml; omega); have hLa0 : (0 : Int) < (La.length : Int) := (by have := of_beq_false pos_a; omega); have pl0 : (0 : Int) ≤ (La.length : Int) - 1 := (by have := of_beq_false pos_a; omega); have pl1 : (La.length : Int) - 1 < (La.length : Int) := (by omega); obtain ⟨ad, hA_, hz0, hz1⟩ := at_T38 HRa.out ((La.length : Int) - 1) pl0 pl1; subst hA_; rw [(last_at HLa.out H3.out.ev pl0).1] at hz0; rw [(last_at HLa.out H3.out.ev pl0).2] at hz1; rw [show ((La.length : Int) - 1).toNat = La.length - 1 by omega] at hz0 hz1; have h3t := told3 H3.out; rw [← HLa.out, ← HLb.out, ← HLc.out] at h3t; obtain ⟨TM, hTM⟩ : ∃ T, T = M.ticks := ⟨_, rfl⟩; obtain ⟨TK, hTK⟩ : ∃ T, T = K.ticks := ⟨_, rfl⟩; obtain ⟨TN, hTN⟩ : ∃ T, T = N.ticks := ⟨_, rfl⟩; rw [← hTM, ← hTK, ← hTN] at h3t; have HTM := Aside0.mk hTM; have HTK := Aside0.mk hTK; have HTN := Aside0.mk hTN; clear hTM hTK hTN; have HT3 := Aside0.mk h3t; replace pl0 := eq_true pl0; replace pl1 := eq_true pl1; have pl2 := eq_true (show (1 : Int) ≤ (La.length : Int) ∧ (La.length : Int) - 1 ≤ (aC : Int) from ⟨by omega, by have := HCa.out; omega⟩); have BXX : Aside0 (∀ nd, ((w14.alloc (.cells #[.int .i64 z1, .int .i64 z2] 38)).drewN nd).heap[w14.heap.size]? = some (.cells #[.int .i64 z1, .int .i64 z2] 38 (0, 0))) := ⟨fun nd => blk_drewN (blk_new w14 _) nd⟩; have HXX : Aside0 (∀ nd, Below w14.heap.size w14 ((w14.alloc (.cells #[.int .i64 z1, .int .i64 z2] 38)).drewN nd)) := ⟨fun nd => pw_below_drewN (below_alloc (Below.refl w14.heap.size w14) _) nd⟩; have T3X := Aside0.mk (fun nd => T3.out.on (HXX.out nd)); rcases four z1 z2 with rfl | ⟨rfl, rfl⟩ | ⟨rfl, n2⟩ | ⟨n5, n4⟩; have t1 : decide (TK < TM) = false := decide_eq_false (by have := (h3t.a1 rfl).2; omega); obtain rfl := (h3t.s2 (by omega)).2; have nb := Aside0.mk (show ¬ ((5 : Int) = 4 ∧ z2 = 5) by omega); clear h3t; refine ⟨_, rfl, ?_⟩; rotate_left; obtain rfl := (h3t.s1 (by decide)).2; have t1 : decide (TM ≤ TN) = true := decide_eq_true (h3t.a2 ⟨rfl, rfl⟩).2; clear h3t; refine ⟨_, rfl, ?_⟩; rotate_left; obtain rfl := (h3t.s1 (by decide)).2; obtain rfl := (h3t.s2 (fun h => n2 h.2)).2; have t1 : (z2 == 5) = false := beq_eq_false_iff_ne.2 n2; clear h3t; have nb := Aside0.mk (show ¬ ((4 : Int) = 4 ∧ z2 = 5) from fun h => n2 h.2); clear n2; refine ⟨_, rfl, ?_⟩; rotate_left; obtain rfl := (h3t.s1 n5).2; obtain rfl := (h3t.s2 (fun h => n4 h.1)).2; have t1 : (z1 == 5) = false := beq_eq_false_iff_ne.2 n5; have t2 : (z1 == 4) = false := beq_eq_false_iff_ne.2 n4; clear h3t; have n5 := Aside0.mk n5; have nb := Aside0.mk (show ¬ (z1 = 4 ∧ z2 = 5) from fun h => n4 h.1); clear n4; refine ⟨_, rfl, ?_⟩; rotate_left)
      | ((with_reducible refine gate_callee (f := 17) rfl ?_); (try (refine gate_guard (by rfl) ?_; dsimp only)); refine goesL_ (some 132) rfl rfl Tryd.func17 (by kernel_rfl) rfl #[.slice (some ad) (La.length - 1) aC, .slice bA Lb.length bC] rfl (by (try simp only [List.map_toArray, List.map_cons, List.map_nil]); first | done | rfl) ?_; (with_reducible refine (ahead_law (Kd.C_below HRa.out (below_alloc (Below.refl w14.heap.size w14) _)) HCa.out (Kd.C_below HRb.out (below_alloc (Below.refl w14.heap.size w14) _)) HCb.out (HT3.out.a1 rfl).1 hLab).mono ?_); rintro e w15 ⟨rfl, nd, rfl⟩; have T3 := Aside0.mk (T3X.out nd); have BX := Aside0.mk (BXX.out nd); have HX := Aside0.mk (HXX.out nd); refine ⟨_, rfl, ?_⟩)
      | (have HT18 : Aside0 (Calls Tryd.prog 18 #[.pointer (some ⟨gk, 0, none⟩)] _ (fun e w' => e = .returned (.int .i64 _) ∧ Below _ _ w')) := ⟨(T3.out.rot.solo).ticks⟩; rw [← HTK.out] at HT18; (with_reducible refine gate_callee (f := 18) rfl ?_); (try (refine gate_guard (by rfl) ?_; dsimp only)); refine goesL_ (some 136) rfl rfl Tryd.func18 (by kernel_rfl) rfl #[.pointer (some ⟨gk, 0, none⟩)] rfl (by (try simp only [List.map_toArray, List.map_cons, List.map_nil]); first | done | rfl) ?_; (with_reducible refine (HT18.out).mono ?_); rintro e w16 ⟨rfl, hb⟩; have T3 := Aside0.mk (T3.out.on hb); have HX := Aside0.mk (HX.out.trans (hb.mono HX.out.size)); have BX := Aside0.mk (blk_below BX.out hb); have c0 := blk_cell BX.out 0; have c1 := blk_cell BX.out 1; clear hb; refine ⟨_, rfl, ?_⟩)
      | (have HT18 : Aside0 (Calls Tryd.prog 18 #[.pointer (some ⟨gm, 0, none⟩)] _ (fun e w' => e = .returned (.int .i64 _) ∧ Below _ _ w')) := ⟨(T3.out.solo).ticks⟩; rw [← HTM.out] at HT18; (with_reducible refine gate_callee (f := 18) rfl ?_); (try (refine gate_guard (by rfl) ?_; dsimp only)); refine goesL_ (some 138) rfl rfl Tryd.func18 (by kernel_rfl) rfl #[.pointer (some ⟨gm, 0, none⟩)] rfl (by (try simp only [List.map_toArray, List.map_cons, List.map_nil]); first | done | rfl) ?_; (with_reducible refine (HT18.out).mono ?_); rintro e w17 ⟨rfl, hb⟩; have T3 := Aside0.mk (T3.out.on hb); have HX := Aside0.mk (HX.out.trans (hb.mono HX.out.size)); have BX := Aside0.mk (blk_below BX.out hb); have c0 := blk_cell BX.out 0; have c1 := blk_cell BX.out 1; clear hb; refine ⟨_, rfl, ?_⟩)
      | ((with_reducible refine gate_callee (f := 19) rfl ?_); (try (refine gate_guard (by rfl) ?_; dsimp only)); refine goesL_ (some 143) rfl rfl Tryd.func19 (by kernel_rfl) rfl #[.slice (some ad) La.length aC, .slice bA Lb.length bC] rfl (by (try simp only [List.map_toArray, List.map_cons, List.map_nil]); first | done | rfl) ?_; (with_reducible refine (same_law (Kd.C_below HRa.out (below_alloc (Below.refl w14.heap.size w14) _)) HCa.out (Kd.C_below HRb.out (below_alloc (Below.refl w14.heap.size w14) _)) HCb.out (HT3.out.s1 (by first | decide | exact n5.out)).1 hLab).mono ?_); rintro e w15 ⟨rfl, nd, rfl⟩; have T3 := Aside0.mk (T3X.out nd); have BX := Aside0.mk (BXX.out nd); have HX := Aside0.mk (HXX.out nd); refine ⟨_, rfl, ?_⟩)
      | (have HT18 : Aside0 (Calls Tryd.prog 18 #[.pointer (some ⟨gm, 0, none⟩)] _ (fun e w' => e = .returned (.int .i64 _) ∧ Below _ _ w')) := ⟨(T3.out.solo).ticks⟩; rw [← HTM.out] at HT18; (with_reducible refine gate_callee (f := 18) rfl ?_); (try (refine gate_guard (by rfl) ?_; dsimp only)); refine goesL_ (some 147) rfl rfl Tryd.func18 (by kernel_rfl) rfl #[.pointer (some ⟨gm, 0, none⟩)] rfl (by (try simp only [List.map_toArray, List.map_cons, List.map_nil]); first | done | rfl) ?_; (with_reducible refine (HT18.out).mono ?_); rintro e w16 ⟨rfl, hb⟩; have T3 := Aside0.mk (T3.out.on hb); have HX := Aside0.mk (HX.out.trans (hb.mono HX.out.size)); have BX := Aside0.mk (blk_below BX.out hb); have c0 := blk_cell BX.out 0; have c1 := blk_cell BX.out 1; clear hb; refine ⟨_, rfl, ?_⟩)
      | (have HT18 : Aside0 (Calls Tryd.prog 18 #[.pointer (some ⟨gk, 0, none⟩)] _ (fun e w' => e = .returned (.int .i64 _) ∧ Below _ _ w')) := ⟨(T3.out.rot.solo).ticks⟩; rw [← HTK.out] at HT18; (with_reducible refine gate_callee (f := 18) rfl ?_); (try (refine gate_guard (by rfl) ?_; dsimp only)); refine goesL_ (some 149) rfl rfl Tryd.func18 (by kernel_rfl) rfl #[.pointer (some ⟨gk, 0, none⟩)] rfl (by (try simp only [List.map_toArray, List.map_cons, List.map_nil]); first | done | rfl) ?_; (with_reducible refine (HT18.out).mono ?_); rintro e w17 ⟨rfl, hb⟩; have T3 := Aside0.mk (T3.out.on hb); have HX := Aside0.mk (HX.out.trans (hb.mono HX.out.size)); have BX := Aside0.mk (blk_below BX.out hb); have c0 := blk_cell BX.out 0; have c1 := blk_cell BX.out 1; clear hb; refine ⟨_, rfl, ?_⟩)
      | ((with_reducible refine gate_callee (f := 17) rfl ?_); (try (refine gate_guard (by rfl) ?_; dsimp only)); refine goesL_ (some 166) rfl rfl Tryd.func17 (by kernel_rfl) rfl #[.slice (some ad) (La.length - 1) aC, .slice cA Lc.length cC] rfl (by (try simp only [List.map_toArray, List.map_cons, List.map_nil]); first | done | rfl) ?_; (with_reducible refine (ahead_law (Kd.C_below HRa.out HX.out) HCa.out (Kd.C_below HRc.out HX.out) HCc.out (HT3.out.a2 ⟨rfl, rfl⟩).1 hLab).mono ?_); rintro e w15 ⟨rfl, nd2_, rfl⟩; have T3 := Aside0.mk (T3.out.on (pw_below_drewN (Below.refl _ _) nd2_)); have HX := Aside0.mk (pw_below_drewN HX.out nd2_); have BX := Aside0.mk (blk_drewN BX.out nd2_); refine ⟨_, rfl, ?_⟩)
      | (have HT18 : Aside0 (Calls Tryd.prog 18 #[.pointer (some ⟨gn, 0, none⟩)] _ (fun e w' => e = .returned (.int .i64 _) ∧ Below _ _ w')) := ⟨(T3.out.rot.rot.solo).ticks⟩; rw [← HTN.out] at HT18; (with_reducible refine gate_callee (f := 18) rfl ?_); (try (refine gate_guard (by rfl) ?_; dsimp only)); refine goesL_ (some 169) rfl rfl Tryd.func18 (by kernel_rfl) rfl #[.pointer (some ⟨gn, 0, none⟩)] rfl (by (try simp only [List.map_toArray, List.map_cons, List.map_nil]); first | done | rfl) ?_; (with_reducible refine (HT18.out).mono ?_); rintro e w18 ⟨rfl, hb⟩; have T3 := Aside0.mk (T3.out.on hb); have HX := Aside0.mk (HX.out.trans (hb.mono HX.out.size)); have BX := Aside0.mk (blk_below BX.out hb); have c0 := blk_cell BX.out 0; have c1 := blk_cell BX.out 1; clear hb; refine ⟨_, rfl, ?_⟩)
      | (have HT18 : Aside0 (Calls Tryd.prog 18 #[.pointer (some ⟨gm, 0, none⟩)] _ (fun e w' => e = .returned (.int .i64 _) ∧ Below _ _ w')) := ⟨(T3.out.solo).ticks⟩; rw [← HTM.out] at HT18; (with_reducible refine gate_callee (f := 18) rfl ?_); (try (refine gate_guard (by rfl) ?_; dsimp only)); refine goesL_ (some 171) rfl rfl Tryd.func18 (by kernel_rfl) rfl #[.pointer (some ⟨gm, 0, none⟩)] rfl (by (try simp only [List.map_toArray, List.map_cons, List.map_nil]); first | done | rfl) ?_; (with_reducible refine (HT18.out).mono ?_); rintro e w19 ⟨rfl, hb⟩; have T3 := Aside0.mk (T3.out.on hb); have HX := Aside0.mk (HX.out.trans (hb.mono HX.out.size)); have BX := Aside0.mk (blk_below BX.out hb); have c0 := blk_cell BX.out 0; have c1 := blk_cell BX.out 1; clear hb; refine ⟨_, rfl, ?_⟩)
      | ((with_reducible refine gate_callee (f := 11) rfl ?_); (try (refine gate_guard (by rfl) ?_; dsimp only)); refine goesL_ (some 175) rfl rfl Tryd.func11 (by kernel_rfl) rfl #[] rfl (by (try simp only [List.map_toArray, List.map_cons, List.map_nil]); first | done | rfl) ?_; (with_reducible refine (known_law _ (HLD.out.below T3.out.low)).mono ?_); rintro e w20 ⟨rfl, hb⟩; have HZ : Aside0 (Below w.heap.size w w20) := ⟨T3.out.low.trans (hb.mono T3.out.low.size)⟩; clear hb; refine ⟨_, rfl, ?_⟩)
      | ((with_reducible refine gate_callee (f := 19) rfl ?_); (try (refine gate_guard (by rfl) ?_; dsimp only)); refine goesL_ (some 179) rfl rfl Tryd.func19 (by kernel_rfl) rfl #[.slice (some ad) La.length aC, .slice cA Lc.length cC] rfl (by (try simp only [List.map_toArray, List.map_cons, List.map_nil]); first | done | rfl) ?_; (with_reducible refine (same_law (Kd.C_below HRa.out HX.out) HCa.out (Kd.C_below HRc.out HX.out) HCc.out (HT3.out.s2 nb.out).1 hLab).mono ?_); rintro e w15 ⟨rfl, nd2_, rfl⟩; have T3 := Aside0.mk (T3.out.on (pw_below_drewN (Below.refl _ _) nd2_)); have HX := Aside0.mk (pw_below_drewN HX.out nd2_); have BX := Aside0.mk (blk_drewN BX.out nd2_); refine ⟨_, rfl, ?_⟩)
      | (have HT18 : Aside0 (Calls Tryd.prog 18 #[.pointer (some ⟨gn, 0, none⟩)] _ (fun e w' => e = .returned (.int .i64 _) ∧ Below _ _ w')) := ⟨(T3.out.rot.rot.solo).ticks⟩; rw [← HTN.out] at HT18; (with_reducible refine gate_callee (f := 18) rfl ?_); (try (refine gate_guard (by rfl) ?_; dsimp only)); refine goesL_ (some 182) rfl rfl Tryd.func18 (by kernel_rfl) rfl #[.pointer (some ⟨gn, 0, none⟩)] rfl (by (try simp only [List.map_toArray, List.map_cons, List.map_nil]); first | done | rfl) ?_; (with_reducible refine (HT18.out).mono ?_); rintro e w18 ⟨rfl, hb⟩; have T3 := Aside0.mk (T3.out.on hb); have HX := Aside0.mk (HX.out.trans (hb.mono HX.out.size)); have BX := Aside0.mk (blk_below BX.out hb); have c0 := blk_cell BX.out 0; have c1 := blk_cell BX.out 1; clear hb; refine ⟨_, rfl, ?_⟩)
      | (have HT18 : Aside0 (Calls Tryd.prog 18 #[.pointer (some ⟨gm, 0, none⟩)] _ (fun e w' => e = .returned (.int .i64 _) ∧ Below _ _ w')) := ⟨(T3.out.solo).ticks⟩; rw [← HTM.out] at HT18; (with_reducible refine gate_callee (f := 18) rfl ?_); (try (refine gate_guard (by rfl) ?_; dsimp only)); refine goesL_ (some 184) rfl rfl Tryd.func18 (by kernel_rfl) rfl #[.pointer (some ⟨gm, 0, none⟩)] rfl (by (try simp only [List.map_toArray, List.map_cons, List.map_nil]); first | done | rfl) ?_; (with_reducible refine (HT18.out).mono ?_); rintro e w19 ⟨rfl, hb⟩; have T3 := Aside0.mk (T3.out.on hb); have HX := Aside0.mk (HX.out.trans (hb.mono HX.out.size)); have BX := Aside0.mk (blk_below BX.out hb); have c0 := blk_cell BX.out 0; have c1 := blk_cell BX.out 1; clear hb; refine ⟨_, rfl, ?_⟩)
      | ((with_reducible refine gate_callee (f := 11) rfl ?_); (try (refine gate_guard (by rfl) ?_; dsimp only)); refine goesL_ (some 188) rfl rfl Tryd.func11 (by kernel_rfl) rfl #[] rfl (by (try simp only [List.map_toArray, List.map_cons, List.map_nil]); first | done | rfl) ?_; (with_reducible refine (known_law _ (HLD.out.below T3.out.low)).mono ?_); rintro e w20 ⟨rfl, hb⟩; have HZ : Aside0 (Below w.heap.size w w20) := ⟨T3.out.low.trans (hb.mono T3.out.low.size)⟩; clear hb; refine ⟨_, rfl, ?_⟩))
    all_goals go_ret
    all_goals exact ⟨rfl, HZ.out⟩
  · have e1 : decide (100 < (inn.length : Int)) = true := decide_eq_true (by omega)
    clear hj
    go_enter Tryd.func3, Tryd.ntmps3
    go_wp2_with (first
      | ((with_reducible refine gate_callee (f := 10) rfl ?_); (try (refine gate_guard (by rfl) ?_; dsimp only)); refine goesL_ (some 31) rfl rfl Tryd.func10 (by kernel_rfl) rfl #[.slice A0 l.length c0, .int .i64 main, .slice A2 input.length c2, .int .i64 fuel] rfl (by (try simp only [List.map_toArray, List.map_cons, List.map_nil]); first | done | rfl) ?_; (with_reducible refine (HBO.out).mono ?_); rintro e w1 ⟨hb, h⟩; rcases h with rfl | ⟨gm, gr, b, rfl, S0, hS, hf0, hf1, hi⟩ <;> have HB := Aside0.mk hb <;> clear hb <;> refine ⟨_, rfl, ?_⟩)
      | ((with_reducible refine gate_callee (f := 11) rfl ?_); (try (refine gate_guard (by rfl) ?_; dsimp only)); refine goesL_ (some 49) rfl rfl Tryd.func11 (by kernel_rfl) rfl #[] rfl (by (try simp only [List.map_toArray, List.map_cons, List.map_nil]); first | done | rfl) ?_; (with_reducible refine (known_law _ (HLD.out.below HB.out)).mono ?_); rintro e w9 ⟨rfl, hb⟩; have HZ : Aside0 (Below w.heap.size w w9) := ⟨HB.out.trans (hb.mono HB.out.size)⟩; clear hb; refine ⟨_, rfl, ?_⟩))
    all_goals go_ret
    all_goals exact ⟨rfl, HZ.out⟩
end Go.Proofs.YthckiolgpgplpaaDoor
end
