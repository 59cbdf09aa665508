/- The walks of the machine, by hand. -/
import Derived.Test.YthckiolgpgplpaaDoorVM0
import Derived.Test.YthckiolgpgplpaaDoorPx13
import Derived.Test.YthckiolgpgplpaaDoorPx8
section
namespace Go.Proofs.YthckiolgpgplpaaDoor
open Go.RowKit Go.Proofs.YthckiolgpgplpaaDoorW.PrintWords Go.Proofs.YthckiolgpgplpaaDoorW.PrintLast Go.Proofs.YthckiolgpgplpaaDoorW.PrintMore Go.Proofs.YthckiolgpgplpaaDoor.P Go.Proofs.YthckiolgpgplpaaDoor.Q
set_option linter.unusedVariables false
set_option linter.unusedSimpArgs false
set_option maxRecDepth 1000000
set_option maxHeartbeats 1000000
/-- A machine between two steps. -/
structure Fit (m : Mc) : Prop where
  good : GoodS m
  evs : m.ended = false → (m.events.length : Int) ≤ m.ticks * 1048577
theorem steps_fit : ∀ (k : Nat) {m : Mc}, Inv k m → m.ended = false → Fit (m.steps k).1 ∧ (m.steps k).1.codes = m.codes ∧ (m.steps k).1.input = m.input
  | 0, m, I, he => by
    have hev := I.evs he
    have G := I.good
    refine ⟨⟨⟨G.sound, (fun h => by cases h), (fun h => by cases h), (fun h => by cases h), G.fuel, G.read, G.inp, ?_⟩, (fun h => by cases h)⟩, rfl, rfl⟩
    show ((m.events ++ [(5, 0)]).length : Int) ≤ m.ticks * 1048577 + 1048577
    simp
    omega
  | k + 1, m, I, he => by
    obtain ⟨G, h1, h2, h3, h4⟩ := one_next I he
    show Fit (if m.one.2 = true then (m.one.1, true) else if m.one.1.ended = true then (m.one.1, false) else Mc.steps k m.one.1).1 ∧ (if m.one.2 = true then (m.one.1, true) else if m.one.1.ended = true then (m.one.1, false) else Mc.steps k m.one.1).1.codes = m.codes ∧ (if m.one.2 = true then (m.one.1, true) else if m.one.1.ended = true then (m.one.1, false) else Mc.steps k m.one.1).1.input = m.input
    by_cases ht : m.one.2 = true
    · rw [if_pos ht]
      exact ⟨⟨G, h2 ht⟩, h3, h4⟩
    · rw [if_neg ht]
      by_cases hd : m.one.1.ended = true
      · rw [if_pos hd]
        exact ⟨⟨G, fun h => by rw [hd] at h; cases h⟩, h3, h4⟩
      · rw [if_neg hd]
        obtain ⟨a, b, c⟩ := steps_fit k (h1 (Bool.eq_false_iff.2 ht)) (Bool.eq_false_iff.2 hd)
        exact ⟨a, b.trans h3, c.trans h4⟩
theorem Fit.inv {m : Mc} (F : Fit m) : Inv 1048576 m := ⟨F.good, fun he => by have := F.evs he; omega⟩
theorem step_fit {m : Mc} (F : Fit m) : Fit m.step.1 ∧ m.step.1.codes = m.codes ∧ m.step.1.input = m.input := by
  unfold Mc.step
  by_cases he : m.ended = true
  · rw [if_pos he]; exact ⟨F, rfl, rfl⟩
  · rw [if_neg he]; exact steps_fit _ F.inv (Bool.eq_false_iff.2 he)
theorem Fit.evb {m : Mc} (F : Fit m) : m.events.length + 2 ≤ 4398046511104 := by
  have h1 := F.good.evw
  have h2 := F.good.fuel
  have h3 : m.ticks * 1048577 ≤ 1048576 * 1048577 := Int.mul_le_mul_of_nonneg_right (by omega) (by omega)
  omega
section
variable {Rd : Nat → Prop} {w : World} {o : MHo} {m : Mc}
theorem step_ended (H : MOn Rd w o m) (he : m.ended = true) : Calls Tryd.prog 21 #[o.ptr] w (MPost Rd w o m (.bool false)) := by
  have hu24 := Tryd.underlying24
  have a8 : w.cell? ⟨o.g, 11, none⟩ = some (.bool true) := by rw [blk_cell H.blk 11, ← he]; rfl
  have HH := Aside0.mk H
  clear H he
  show Calls Tryd.prog 21 #[.pointer (some ⟨o.g, 0, none⟩)] w _
  go_enter Tryd.func21, Tryd.ntmps21
  go_wp2_with (fail)
  refine scope_of (fun _ _ _ h_ => h_) ?_
  go_wp2_with ((with_reducible refine wp_label ?_))
  go_ret
  exact ⟨rfl, o, Sub.refl _ _, HH.out, Mod.refl _ _⟩
theorem step_on (H : MOn Rd w o m) (F : Fit m) : Calls Tryd.prog 21 #[o.ptr] w (MPost Rd w o m.step.1 (.bool m.step.2)) := by
  obtain ⟨N, hN⟩ : ∃ N, N = 1048576 := ⟨_, rfl⟩
  have hi := F.inv
  have e : m.step = if m.ended = true then (m, false) else m.steps N := by rw [hN]; rfl
  rw [← hN] at hi
  rw [e]
  by_cases he : m.ended = true
  · rw [if_pos he]; exact step_ended H he
  · rw [if_neg he]; exact step_any road H N hN hi (Bool.eq_false_iff.2 he)
/-- A run to the end, as far as so many steps. -/
def Mc.endP : Nat → Mc → Mc × Bool
  | 0, m => (m, false)
  | k + 1, m => if m.step.2 = true then Mc.endP k m.step.1 else (m.step.1, m.step.1.ended)
theorem endP_fit : ∀ (k : Nat) {m : Mc}, Fit m → Fit (m.endP k).1 ∧ (m.endP k).1.codes = m.codes ∧ (m.endP k).1.input = m.input
  | 0, m, F => ⟨F, rfl, rfl⟩
  | k + 1, m, F => by
    obtain ⟨a, b, c⟩ := step_fit F
    unfold Mc.endP
    by_cases h : m.step.2 = true
    · rw [if_pos h]
      obtain ⟨d, e, f⟩ := endP_fit k a
      exact ⟨d, e.trans b, f.trans c⟩
    · rw [if_neg h]; exact ⟨a, b, c⟩
theorem end_law (H : MOn Rd w o m) (F : Fit m) (most : Nat) (hm : most ≤ 1000000) : Calls Tryd.prog 15 #[o.ptr, .int .i64 most] w (MPost Rd w o (m.endP (most + 1)).1 (.bool (m.endP (most + 1)).2)) := by
  have HH := Aside0.mk H; have HF := Aside0.mk F
  clear H F
  show Calls Tryd.prog 15 #[.pointer (some ⟨o.g, 0, none⟩), .int .i64 most] w _
  go_enter Tryd.func15, Tryd.ntmps15
  go_wp2
  go_loopg [5] (most + 1) (fun gk v5 W => ∃ (x : Nat) (o1 : MHo) (m1 : Mc), v5 = .int .i64 (x : Int) ∧ Aside0 (gk + x = most + 1) ∧ Aside0 (MOn Rd W o1 m1) ∧ Aside0 (Sub w o o1) ∧ Aside0 (Mod (fun k => k ∈ o.own) w W) ∧ Aside0 (Fit m1) ∧ Aside0 (m.endP (most + 1) = m1.endP gk))
  case atStart => exact ⟨0, o, m, rfl, ⟨rfl⟩, HH, ⟨Sub.refl _ _⟩, ⟨Mod.refl _ _⟩, HF, ⟨rfl⟩⟩
  case round =>
    obtain ⟨x, o1, m1, rfl, A1, A2, A3, A4, A5, A6⟩ := hrel
    rcases Nat.eq_zero_or_pos gk with h0 | h0
    · have hx : decide (x ≤ most) = false := decide_eq_false (by have := A1.out; omega)
      have H0 := Aside0.mk h0; clear h0
      go_wp2
      go_ret
      have hz := H0.out; subst hz
      rw [A6.out]
      exact ⟨rfl, o1, A3.out, A2.out, A4.out⟩
    · obtain ⟨gk, rfl⟩ : ∃ j, gk = j + 1 := ⟨gk - 1, by omega⟩
      have hx : x ≤ most := by have := A1.out; omega
      have hxi : (x : Int) ≤ 1000000 := by omega
      have HS : Aside0 (Calls Tryd.prog 21 #[.pointer (some ⟨o.g, 0, none⟩)] wr (MPost Rd wr o1 m1.step.1 (.bool m1.step.2))) := ⟨by
        have h := step_on A2.out A5.out
        rw [MHo.ptr, A3.out.1] at h
        exact h⟩
      have HST := Aside0.mk (step_fit A5.out).1
      have HM : Aside0 (∀ w5, MPost Rd wr o1 m1.step.1 (.bool m1.step.2) (.returned (.bool m1.step.2)) w5 → After Rd w o m1.step.1 w5) := ⟨fun w5 h => (After.of A3.out A4.out h).2⟩
      by_cases ht : m1.step.2 = true
      · rw [ht] at HS HM
        have HT := Aside0.mk ht; clear ht
        go_wp2_with ((with_reducible refine gate_callee (f := 21) rfl ?_); refine goesL_ (some 12) rfl rfl Tryd.func21 (by kernel_rfl) rfl #[.pointer (some ⟨o.g, 0, none⟩)] rfl (by (try simp only [List.map_toArray, List.map_cons, List.map_nil]); first | done | rfl) ?_; refine HS.out.mono ?_; rintro e w5 hp; obtain rfl := hp.1; have AF := Aside0.mk (HM.out w5 hp); clear hp; refine ⟨_, rfl, ?_⟩)
        go_roundg gk
        case measure => omega
        case rel =>
          obtain ⟨o2, hs, hM, hm⟩ := AF.out
          exact ⟨x + 1, o2, m1.step.1, by go_num, ⟨by have := A1.out; omega⟩, ⟨hM⟩, ⟨hs⟩, ⟨hm⟩, HST, ⟨by rw [A6.out]; show (if m1.step.2 = true then Mc.endP gk m1.step.1 else (m1.step.1, m1.step.1.ended)) = _; rw [if_pos HT.out]⟩⟩
      · have ht : m1.step.2 = false := Bool.eq_false_iff.2 ht
        rw [ht] at HS HM
        have HT := Aside0.mk ht; clear ht
        have HEN : Aside0 (∀ w5, After Rd w o m1.step.1 w5 → Calls Tryd.prog 30 #[.pointer (some ⟨o.g, 0, none⟩)] w5 (fun e w6 => e = .returned (.bool m1.step.1.ended) ∧ After Rd w o m1.step.1 w6)) := ⟨by
          rintro w5 ⟨o2, hs, hM, hm⟩
          have h := ended_on hM
          rw [show o2.ptr = .pointer (some ⟨o.g, 0, none⟩) by rw [MHo.ptr, hs.1]] at h
          refine h.mono ?_
          rintro e w6 ⟨rfl, hb⟩
          exact ⟨rfl, o2, hs, hM.below hb, hm.trans (Mod.of_below hb (fun _ => False)) (fun _ _ h => h.elim)⟩⟩
        go_wp2_with (first
          | ((with_reducible refine gate_callee (f := 21) rfl ?_); refine goesL_ (some 12) rfl rfl Tryd.func21 (by kernel_rfl) rfl #[.pointer (some ⟨o.g, 0, none⟩)] rfl (by (try simp only [List.map_toArray, List.map_cons, List.map_nil]); first | done | rfl) ?_; refine HS.out.mono ?_; rintro e w5 hp; obtain rfl := hp.1; have AF := Aside0.mk (HM.out w5 hp); clear hp; refine ⟨_, rfl, ?_⟩)
          | ((with_reducible refine gate_callee (f := 30) rfl ?_); refine goesL_ (some 15) rfl rfl Tryd.func30 (by kernel_rfl) rfl #[.pointer (some ⟨o.g, 0, none⟩)] rfl (by (try simp only [List.map_toArray, List.map_cons, List.map_nil]); first | done | rfl) ?_; refine (HEN.out _ AF.out).mono ?_; rintro e w6 ⟨rfl, AF2⟩; have AF2 := Aside0.mk AF2; refine ⟨_, rfl, ?_⟩))
        go_ret
        rw [A6.out]
        show MPost Rd w o (if m1.step.2 = true then Mc.endP gk m1.step.1 else (m1.step.1, m1.step.1.ended)).1 (.bool (if m1.step.2 = true then Mc.endP gk m1.step.1 else (m1.step.1, m1.step.1.ended)).2) _ _
        rw [if_neg (by rw [HT.out]; decide)]
        exact AF2.out.post
end
end Go.Proofs.YthckiolgpgplpaaDoor
end
section
namespace Go.Proofs.YthckiolgpgplpaaDoor
open Go.RowKit Go.Proofs.YthckiolgpgplpaaDoorW.PrintWords Go.Proofs.YthckiolgpgplpaaDoorW.PrintLast Go.Proofs.YthckiolgpgplpaaDoorW.PrintMore Go.Proofs.YthckiolgpgplpaaDoor.P Go.Proofs.YthckiolgpgplpaaDoor.Q
set_option linter.unusedVariables false
set_option linter.unusedSimpArgs false
set_option maxRecDepth 1000000
set_option maxHeartbeats 1000000
/-- What jumps lead to lies in the code. -/
def Leads (x : S46) : Prop := x.f0.length ≤ 65536 ∧ ∀ j : Int, 0 ≤ j → j < x.f0.length → (rd_T43 x.f0 j).f0 = 17 ∨ (rd_T43 x.f0 j).f0 = 18 → 0 ≤ (rd_T43 x.f0 j).f1 ∧ (rd_T43 x.f0 j).f1 < x.f0.length
theorem slow_calls (w : World) (A0 : Option Addr) (c0 : Nat) (l : List S46) (hl : Kd.C k46 w A0 l.length l) (hc : l.length ≤ c0) (hn : l.length ≤ 1000) (hT : ∀ i : Int, 0 ≤ i → i < l.length → Leads (rd_T46 l i)) :
    Calls Tryd.prog 31 #[.slice A0 l.length c0] w fun e w' => ∃ b, e = .returned (.bool b) ∧ Below w.heap.size w w' := by
  have hu43 := Tryd.underlying43
  have HL := Aside0.mk hl; have HC := Aside0.mk hc; have HT := Aside0.mk hT
  clear hl hc hT
  go_enter Tryd.func31, Tryd.ntmps31
  go_wp2
  go_loopg [3] l.length (fun gk v3 W => ∃ (x : Nat), v3 = .int .i64 (x : Int) ∧ Aside0 (gk + x = l.length) ∧ Aside0 (Below w.heap.size w W))
  case atStart => exact ⟨0, rfl, ⟨rfl⟩, ⟨Below.refl _ _⟩⟩
  case round =>
    obtain ⟨x, rfl, A1, A2⟩ := hrel
    rcases Nat.eq_zero_or_pos gk with h0 | h0
    · have hx : decide (x < l.length) = false := decide_eq_false (by have := A1.out; omega)
      clear h0
      go_wp2
      repeat (go_quiet (fail); try go_wp2)
      go_ret
      exact ⟨_, rfl, A2.out⟩
    · obtain ⟨gO, rfl⟩ : ∃ j, gk = j + 1 := ⟨gk - 1, by omega⟩
      have hx : decide (x < l.length) = true := decide_eq_true (by have := A1.out; omega)
      have hxb : (x : Int) ≤ 1000 := by have := A1.out; omega
      obtain ⟨y, hy⟩ : ∃ y, y = rd_T46 l (x : Int) := ⟨_, rfl⟩
      have hLy : Leads y := by rw [hy]; exact HT.out _ (by omega) (by have := A1.out; omega)
      have HLY := Aside0.mk hLy; have HY := Aside0.mk hy
      have hyl : (y.f0.length : Int) ≤ 65536 := by have := hLy.1; omega
      clear hLy hy
      go_wp2
      repeat (go_quiet (fail); try go_wp2)
      go_loopg [4] y.f0.length (fun gj v4 W => ∃ (z : Nat), v4 = .int .i64 (z : Int) ∧ Aside0 (gj + z = y.f0.length) ∧ Aside0 (Below w.heap.size w W))
      case atStart => exact ⟨0, rfl, ⟨rfl⟩, A2⟩
      case round =>
        clear A2
        obtain ⟨z, rfl, A3, A2⟩ := hrel
        obtain ⟨ad, B0, d0, hA0, hx0, _, _, _, hl0, hi0⟩ := at_T46 (Kd.C_below HL.out A2.out) (x : Int) (by omega) (by have := A1.out; omega)
        subst hA0
        simp only [Int.toNat_natCast] at hx0
        rw [← HY.out] at hx0 hl0 hi0
        have p1 := eq_true (show (0 : Int) ≤ (x : Int) by omega); have p2 := eq_true (show (x : Int) < (l.length : Int) by have := A1.out; omega)
        have HL0 := Aside0.mk hl0; have HI0 := Aside0.mk hi0
        clear hl0 hi0
        rcases Nat.eq_zero_or_pos gk with h1 | h1
        · have hz : decide (z < y.f0.length) = false := decide_eq_false (by have := A3.out; omega)
          clear h1
          go_wp2
          repeat (go_quiet (fail); try go_wp2)
          go_roundg gO
          case measure => omega
          case rel => exact ⟨x + 1, by go_num, ⟨by have := A1.out; omega⟩, A2⟩
        · obtain ⟨gk, rfl⟩ : ∃ j, gk = j + 1 := ⟨gk - 1, by omega⟩
          have hz : decide (z < y.f0.length) = true := decide_eq_true (by have := A3.out; omega)
          have hzb : (z : Int) ≤ 65536 := by have := A3.out; omega
          obtain ⟨ad1, hB0, hz0, hz1, hz2⟩ := at_T43 HI0.out (z : Int) (by omega) (by have := A3.out; omega)
          subst hB0
          simp only [Int.toNat_natCast] at hz0 hz1 hz2
          obtain ⟨i, hi⟩ : ∃ i, i = rd_T43 y.f0 (z : Int) := ⟨_, rfl⟩
          rw [← hi] at hz0 hz1 hz2
          have HI := Aside0.mk hi
          have p3 := eq_true (show (0 : Int) ≤ (z : Int) by omega); have p4 := eq_true (show (z : Int) < (y.f0.length : Int) by have := A3.out; omega)
          have HD : Aside0 (i.f0 = 17 ∨ i.f0 = 18 → 0 ≤ i.f1 ∧ i.f1 < y.f0.length) := ⟨fun h => by rw [HI.out] at h ⊢; exact HLY.out.2 z (by omega) (of_eq_true p4) h⟩
          clear h1 hi HI
          obtain ⟨F0, F1, F2⟩ := i
          simp only at hz0 hz1 hz2
          by_cases k1 : F0 = 17
          · subst k1
            have HDT := Aside0.mk (HD.out (Or.inl rfl)); clear HD
            have HBX := Aside0.mk (blk_new wr (.cells #[.int .i64 17, .int .i64 F1, .int .i64 F2] 43))
            have q0 : (wr.alloc (.cells #[.int .i64 17, .int .i64 F1, .int .i64 F2] 43)).cell? ⟨wr.heap.size, 0, none⟩ = some (.int .i64 17) := blk_cell HBX.out 0
            have q1 : (wr.alloc (.cells #[.int .i64 17, .int .i64 F1, .int .i64 F2] 43)).cell? ⟨wr.heap.size, 1, none⟩ = some (.int .i64 F1) := blk_cell HBX.out 1
            have q2 := Lib.cell?_alloc_some (.cells #[.int .i64 17, .int .i64 F1, .int .i64 F2] 43) hx0
            by_cases k3 : F1 ≤ (z : Int)
            · have e3 : decide (F1 ≤ (z : Int)) = true := decide_eq_true k3
              have t0 : 0 ≤ F1 := HDT.out.1; have t1 : F1 < y.f0.length := HDT.out.2
              obtain ⟨ad2, hB2, hu0, hu1, hu2⟩ := at_T43 HI0.out F1 t0 t1
              obtain rfl : ad1 = ad2 := Option.some.inj hB2
              generalize (rd_T43 y.f0 F1).f0 = u at hu0
              have p5 := eq_true t0; have p6 := eq_true t1
              have q3 := Lib.cell?_alloc_some (.cells #[.int .i64 17, .int .i64 F1, .int .i64 F2] 43) hu0
              clear hB2 hu0 hu1 hu2 t0 t1 k3
              by_cases k4 : u = 24
              · subst k4
                go_wp2
                repeat (go_quiet (fail); try go_wp2)
                go_roundg gk
                case measure => omega
                case rel => exact ⟨z + 1, by go_num, ⟨by have := A3.out; omega⟩, ⟨by repeat (first | apply below_alloc | apply pw_below_drewN | apply below_drew1 | exact A2.out)⟩⟩
              · have e4 : (u != 24) = true := bne_iff_ne.2 k4
                clear k4
                go_wp2
                repeat (go_quiet (fail); try go_wp2)
                go_ret
                exact ⟨_, rfl, by repeat (first | apply below_alloc | apply pw_below_drewN | apply below_drew1 | exact A2.out)⟩
            · have e3 : decide (F1 ≤ (z : Int)) = false := decide_eq_false k3
              clear k3
              go_wp2
              repeat (go_quiet (fail); try go_wp2)
              go_roundg gk
              case measure => omega
              case rel => exact ⟨z + 1, by go_num, ⟨by have := A3.out; omega⟩, ⟨by repeat (first | apply below_alloc | apply pw_below_drewN | apply below_drew1 | exact A2.out)⟩⟩
          by_cases k2 : F0 = 18
          · subst k2
            have HDT := Aside0.mk (HD.out (Or.inr rfl)); clear HD
            have HBX := Aside0.mk (blk_new wr (.cells #[.int .i64 18, .int .i64 F1, .int .i64 F2] 43))
            have q0 : (wr.alloc (.cells #[.int .i64 18, .int .i64 F1, .int .i64 F2] 43)).cell? ⟨wr.heap.size, 0, none⟩ = some (.int .i64 18) := blk_cell HBX.out 0
            have q1 : (wr.alloc (.cells #[.int .i64 18, .int .i64 F1, .int .i64 F2] 43)).cell? ⟨wr.heap.size, 1, none⟩ = some (.int .i64 F1) := blk_cell HBX.out 1
            have q2 := Lib.cell?_alloc_some (.cells #[.int .i64 18, .int .i64 F1, .int .i64 F2] 43) hx0
            by_cases k3 : F1 ≤ (z : Int)
            · have e3 : decide (F1 ≤ (z : Int)) = true := decide_eq_true k3
              have t0 : 0 ≤ F1 := HDT.out.1; have t1 : F1 < y.f0.length := HDT.out.2
              obtain ⟨ad2, hB2, hu0, hu1, hu2⟩ := at_T43 HI0.out F1 t0 t1
              obtain rfl : ad1 = ad2 := Option.some.inj hB2
              generalize (rd_T43 y.f0 F1).f0 = u at hu0
              have p5 := eq_true t0; have p6 := eq_true t1
              have q3 := Lib.cell?_alloc_some (.cells #[.int .i64 18, .int .i64 F1, .int .i64 F2] 43) hu0
              clear hB2 hu0 hu1 hu2 t0 t1 k3
              by_cases k4 : u = 24
              · subst k4
                go_wp2
                repeat (go_quiet (fail); try go_wp2)
                go_roundg gk
                case measure => omega
                case rel => exact ⟨z + 1, by go_num, ⟨by have := A3.out; omega⟩, ⟨by repeat (first | apply below_alloc | apply pw_below_drewN | apply below_drew1 | exact A2.out)⟩⟩
              · have e4 : (u != 24) = true := bne_iff_ne.2 k4
                clear k4
                go_wp2
                repeat (go_quiet (fail); try go_wp2)
                go_ret
                exact ⟨_, rfl, by repeat (first | apply below_alloc | apply pw_below_drewN | apply below_drew1 | exact A2.out)⟩
            · have e3 : decide (F1 ≤ (z : Int)) = false := decide_eq_false k3
              clear k3
              go_wp2
              repeat (go_quiet (fail); try go_wp2)
              go_roundg gk
              case measure => omega
              case rel => exact ⟨z + 1, by go_num, ⟨by have := A3.out; omega⟩, ⟨by repeat (first | apply below_alloc | apply pw_below_drewN | apply below_drew1 | exact A2.out)⟩⟩
          have e1 : (F0 == 17) = false := beq_eq_false_iff_ne.2 k1
          have e2 : (F0 == 18) = false := beq_eq_false_iff_ne.2 k2
          have HBX := Aside0.mk (blk_new wr (.cells #[.int .i64 F0, .int .i64 F1, .int .i64 F2] 43))
          have q0 : (wr.alloc (.cells #[.int .i64 F0, .int .i64 F1, .int .i64 F2] 43)).cell? ⟨wr.heap.size, 0, none⟩ = some (.int .i64 F0) := blk_cell HBX.out 0
          have q1 : (wr.alloc (.cells #[.int .i64 F0, .int .i64 F1, .int .i64 F2] 43)).cell? ⟨wr.heap.size, 1, none⟩ = some (.int .i64 F1) := blk_cell HBX.out 1
          have q2 := Lib.cell?_alloc_some (.cells #[.int .i64 F0, .int .i64 F1, .int .i64 F2] 43) hx0
          clear k1 k2
          go_wp2
          repeat (go_quiet (fail); try go_wp2)
          go_roundg gk
          case measure => omega
          case rel => exact ⟨z + 1, by go_num, ⟨by have := A3.out; omega⟩, ⟨by repeat (first | apply below_alloc | apply pw_below_drewN | apply below_drew1 | exact A2.out)⟩⟩
end Go.Proofs.YthckiolgpgplpaaDoor
end
section
namespace Go.Proofs.YthckiolgpgplpaaDoor
open Go.RowKit Go.Proofs.YthckiolgpgplpaaDoorW.PrintWords Go.Proofs.YthckiolgpgplpaaDoorW.PrintLast Go.Proofs.YthckiolgpgplpaaDoorW.PrintMore Go.Proofs.YthckiolgpgplpaaDoor.P Go.Proofs.YthckiolgpgplpaaDoor.Q
set_option linter.unusedVariables false
set_option linter.unusedSimpArgs false
set_option maxRecDepth 1000000
set_option maxHeartbeats 1000000
theorem info80 : (Tryd.prog.info? 80).map (fun i => (i.zero, i.size, i.bytes)) = some (some (.agg #[.int .i64 0, .int .i64 0, .int .i64 0, .slice none 0 0, .slice none 0 0]), 5, 72) := by kernel_rfl
theorem rbegin_nil (w : World) (g : Nat) (A0 : Option Addr) (c0 : Nat) (l : List S46) (x2 : Value) (main fuel : Int) (hb : w.heap[g]? = some (.cells #[.slice A0 l.length c0, .slice none 0 0, x2, .int .i64 0, .int .i64 fuel, .int .i64 0, .int .i64 0, .int .i64 0, .int .i64 0, .int .i64 0, .slice none 0 0, .bool false, .int .i64 0] 54 (0, 0)))
    (hl : Kd.C k46 w A0 l.length l) (k0 : 0 ≤ main) (k1 : main < l.length) (c : Nat) (hc : (rd_T46 l main).f1 = c) (hc1 : c ≤ 65536) (w0 : World) (hB : w0.heap.size ≤ g) (hw : Below w0.heap.size w0 w) :
    Calls Tryd.prog 48 #[.pointer (some ⟨g, 0, none⟩), .int .i64 main, .slice none 0 0] w fun e w' => e = .returned (.tuple #[]) ∧ Below w0.heap.size w0 w' := by
  obtain ⟨ad, A1, c1, e, hx0, hx1, hx2, hx3, hl0, hi0⟩ := at_T46 hl main k0 k1
  subst e
  rw [hc] at hx1
  have b0 : w.cell? ⟨g, 0, none⟩ = some (.slice (some ad) l.length c0) := blk_cell hb 0
  have p1 := eq_true k0; have q1 := eq_true k1
  have hgl := blk_lt hb
  have HB := Aside0.mk hb; have HC := Aside0.mk hc; have HW := Aside0.mk hw
  clear hb hc hw hi0 hx0 hx2 hx3 hl0 hl
  go_enter Tryd.func48, Tryd.ntmps48
  obtain ⟨i2, hi2, hz2⟩ := Option.map_eq_some_iff.1 info2
  simp only [Prod.mk.injEq] at hz2
  go_wp2_with (first
    | (with_reducible refine wpList_make_row w rfl (.tmp 16) (.tmp 16) 23 rfl 2 i2 (.int .i64 0) Tryd.underlying23 hi2 hz2.1 hz2.2.1 rfl .i64 .i64 c rfl rfl (by rw [hz2.2.2]; omega) (by omega) ?_))
  go_loopg [7] 1 (fun gk v7 W => v7 = .int .i64 0 ∧ Aside0 (W = (w.alloc (.cells (madeCells #[.int .i64 0] c) 2)).alloc (.cells #[.int .i64 main, .int .i64 0, .int .i64 (-1), .slice (some ⟨w.heap.size, 0, none⟩) c c, .slice none 0 0] 80)))
  case atStart => exact ⟨rfl, ⟨rfl⟩⟩
  case round =>
    obtain ⟨rfl, HWR⟩ := hrel
    have hbr : wr.heap[g]? = some (.cells #[.slice (some ad) l.length c0, .slice none 0 0, x2, .int .i64 0, .int .i64 fuel, .int .i64 0, .int .i64 0, .int .i64 0, .int .i64 0, .int .i64 0, .slice none 0 0, .bool false, .int .i64 0] 54 (0, 0)) := by
      rw [HWR.out]; exact blk_alloc (blk_alloc HB.out _) _
    have hfr : wr.heap[w.heap.size + 1]? = some (.cells #[.int .i64 main, .int .i64 0, .int .i64 (-1), .slice (some ⟨w.heap.size, 0, none⟩) c c, .slice none 0 0] 80 (0, 0)) := by
      rw [HWR.out]
      have := blk_new (w.alloc (.cells (madeCells #[.int .i64 0] c) 2)) (.cells #[.int .i64 main, .int .i64 0, .int .i64 (-1), .slice (some ⟨w.heap.size, 0, none⟩) c c, .slice none 0 0] 80)
      rwa [show (w.alloc (.cells (madeCells #[.int .i64 0] c) 2)).heap.size = w.heap.size + 1 by simp] at this
    have HBR := Aside0.mk (show Below w0.heap.size w0 wr by rw [HWR.out]; exact below_alloc (below_alloc HW.out _) _)
    have HG := Aside0.mk hbr
    have y1 : wr.cell? ⟨g, 1, none⟩ = some (.slice none 0 0) := blk_cell hbr 1
    have z0 : wr.cell? ⟨w.heap.size + 1, 0, none⟩ = some (.int .i64 main) := blk_cell hfr 0
    have z1 : wr.cell? ⟨w.heap.size + 1, 1, none⟩ = some (.int .i64 0) := blk_cell hfr 1
    have z2 : wr.cell? ⟨w.heap.size + 1, 2, none⟩ = some (.int .i64 (-1)) := blk_cell hfr 2
    have z3 : wr.cell? ⟨w.heap.size + 1, 3, none⟩ = some (.slice (some ⟨w.heap.size, 0, none⟩) c c) := blk_cell hfr 3
    have z4 : wr.cell? ⟨w.heap.size + 1, 4, none⟩ = some (.slice none 0 0) := blk_cell hfr 4
    have y1a := Lib.cell?_alloc_some (.cells #[.int .i64 main, .int .i64 0, .int .i64 (-1), .slice (some ⟨w.heap.size, 0, none⟩) c c, .slice none 0 0] 80) y1
    clear hbr hfr
    go_wp2
    go_region_law (refine step_append_cells (w0 := w0) w0.heap.size (by rfl) (.tmp 37) (.tmp 39) 50 80 (.agg #[.int .i64 0, .int .i64 0, .int .i64 0, .slice none 0 0, .slice none 0 0]) 5 72 rfl Tryd.underlying50 info80 rfl (by decide) (by decide) (.slice none 0 0) 0 [] [.int .i64 main, .int .i64 0, .int .i64 (-1), .slice (some ⟨w.heap.size, 0, none⟩) c c, .slice none 0 0] rfl rfl rfl (by intro u hu; simp at hu; rcases hu with rfl | rfl | rfl | rfl | rfl <;> rfl) ⟨rfl, .inl ⟨rfl, rfl⟩⟩ (below_drew1 HBR.out) (below_size (below_drew1 HBR.out)) (by decide) ?_; intro v1 w1 ho hb hg hat; have HB5 := Aside0.mk hb; have G5 := blk_grown (blk_drew HG.out) hg (by simp [Value.ownBlock]); have t1 := blk_cell G5 1; have t1f := blk_frozen G5 1; obtain ⟨vA, vn, vC, rfl⟩ : ∃ A n c, v1 = .slice A n c := (by rcases ho.2 with ⟨h, _⟩ | ⟨_, _, _, h, _⟩ <;> exact ⟨_, _, _, h⟩); clear ho hb hg hat G5)
    all_goals
      go_wp2
      go_end0
      exact ⟨rfl, below_set HB5.out hB⟩
section
variable (w : World) (A0 A2 : Option Addr) (c0 c2 : Nat) (l : List S46) (input : List Int) (main fuel : Int)
theorem refnew_unsound (hl : Kd.C k46 w A0 l.length l) (hc : l.length ≤ c0) (k : Nat) (h : parallaxref08_Sound.f k l main = some false) (v : Value) :
    Calls Tryd.prog 26 #[.slice A0 l.length c0, .int .i64 main, v, .int .i64 fuel] w fun e w' => e = .returned (.tuple #[.pointer none, .int .i64 60]) ∧ Below w.heap.size w w' := by
  have HL := Aside0.mk hl; have H := Aside0.mk h; have HC := Aside0.mk hc
  clear hl h hc
  go_enter Tryd.func26, Tryd.ntmps26
  go_wp2_with ((with_reducible refine gate_callee (f := 46) rfl ?_); refine goesL_ (some 13) rfl rfl Tryd.func46 (by kernel_rfl) rfl #[.slice A0 l.length c0, .int .i64 main] rfl (by (try simp only [List.map_toArray, List.map_cons, List.map_nil]); first | done | rfl) ?_; refine (parallaxref08_Sound.calls k A0 c0 l main false w HL.out HC.out H.out).mono ?_; rintro e w1 ⟨rfl, hb⟩; have HB := Aside0.mk hb; clear hb; refine ⟨_, rfl, ?_⟩)
  go_ret2
  exact ⟨rfl, HB.out⟩
theorem refnew_args (hl : Kd.C k46 w A0 l.length l) (hc : l.length ≤ c0) (k : Nat) (h : parallaxref08_Sound.f k l main = some true) (n2 : Nat) (hbad : fuel < 0 ∨ 1048576 < fuel ∨ 1000 < n2) :
    Calls Tryd.prog 26 #[.slice A0 l.length c0, .int .i64 main, .slice A2 n2 c2, .int .i64 fuel] w fun e w' => e = .returned (.tuple #[.pointer none, .int .i64 1]) ∧ Below w.heap.size w w' := by
  have HL := Aside0.mk hl; have H := Aside0.mk h; have HC := Aside0.mk hc
  clear hl h hc
  by_cases d1 : fuel < 0
  · have e1 : decide (fuel < 0) = true := decide_eq_true d1
    clear hbad d1
    go_enter Tryd.func26, Tryd.ntmps26
    go_wp2_with ((with_reducible refine gate_callee (f := 46) rfl ?_); refine goesL_ (some 13) rfl rfl Tryd.func46 (by kernel_rfl) rfl #[.slice A0 l.length c0, .int .i64 main] rfl (by (try simp only [List.map_toArray, List.map_cons, List.map_nil]); first | done | rfl) ?_; refine (parallaxref08_Sound.calls k A0 c0 l main true w HL.out HC.out H.out).mono ?_; rintro e w1 ⟨rfl, hb⟩; have HB := Aside0.mk hb; clear hb; refine ⟨_, rfl, ?_⟩)
    go_ret2
    exact ⟨rfl, HB.out⟩
  have e1 : decide (fuel < 0) = false := decide_eq_false d1
  by_cases d2 : 1048576 < fuel
  · have e2 : decide (1048576 < fuel) = true := decide_eq_true d2
    clear hbad d1 d2
    go_enter Tryd.func26, Tryd.ntmps26
    go_wp2_with ((with_reducible refine gate_callee (f := 46) rfl ?_); refine goesL_ (some 13) rfl rfl Tryd.func46 (by kernel_rfl) rfl #[.slice A0 l.length c0, .int .i64 main] rfl (by (try simp only [List.map_toArray, List.map_cons, List.map_nil]); first | done | rfl) ?_; refine (parallaxref08_Sound.calls k A0 c0 l main true w HL.out HC.out H.out).mono ?_; rintro e w1 ⟨rfl, hb⟩; have HB := Aside0.mk hb; clear hb; refine ⟨_, rfl, ?_⟩)
    go_ret2
    exact ⟨rfl, HB.out⟩
  have e2 : decide (1048576 < fuel) = false := decide_eq_false d2
  have e3 : decide (1000 < (n2 : Int)) = true := decide_eq_true (by omega)
  clear hbad d1 d2
  go_enter Tryd.func26, Tryd.ntmps26
  go_wp2_with ((with_reducible refine gate_callee (f := 46) rfl ?_); refine goesL_ (some 13) rfl rfl Tryd.func46 (by kernel_rfl) rfl #[.slice A0 l.length c0, .int .i64 main] rfl (by (try simp only [List.map_toArray, List.map_cons, List.map_nil]); first | done | rfl) ?_; refine (parallaxref08_Sound.calls k A0 c0 l main true w HL.out HC.out H.out).mono ?_; rintro e w1 ⟨rfl, hb⟩; have HB := Aside0.mk hb; clear hb; refine ⟨_, rfl, ?_⟩)
  go_ret2
  exact ⟨rfl, HB.out⟩
theorem refnew_ok (hl : Kd.C k46 w A0 l.length l) (hc : l.length ≤ c0) (k : Nat) (h : parallaxref08_Sound.f k l main = some true) (hin : Kd.C (Kd.int .i64) w A2 input.length input) (hc2 : input.length ≤ c2) (hf0 : 0 ≤ fuel) (hf1 : fuel ≤ 1048576) (hi1 : input.length ≤ 1000)
    (m0 : 0 ≤ main) (m1 : main < l.length) (hcells : 0 ≤ (rd_T46 l main).f1 ∧ (rd_T46 l main).f1 ≤ 65536) :
    Calls Tryd.prog 26 #[.slice A0 l.length c0, .int .i64 main, .slice A2 input.length c2, .int .i64 fuel] w fun e w' => ∃ g, e = .returned (.tuple #[.pointer (some ⟨g, 0, none⟩), .int .i64 0]) ∧ Below w.heap.size w w' := by
  have e1 : decide (fuel < 0) = false := decide_eq_false (by omega)
  have e2 : decide (1048576 < fuel) = false := decide_eq_false (by omega)
  have e3 : decide (1000 < (input.length : Int)) = false := decide_eq_false (by omega)
  have HO : parallaxref09_own.f input = some ([] ++ input) := by unfold parallaxref09_own.f; rw [if_pos (by simp; omega)]
  have HL := Aside0.mk hl; have H := Aside0.mk h; have HC := Aside0.mk hc; have HIN := Aside0.mk hin; have HCE := Aside0.mk hcells; have HO := Aside0.mk HO; have HC2 := Aside0.mk hc2
  clear hl h hc hin hcells hc2
  go_enter Tryd.func26, Tryd.ntmps26
  go_wp2_with (first
    | ((with_reducible refine gate_callee (f := 46) rfl ?_); refine goesL_ (some 13) rfl rfl Tryd.func46 (by kernel_rfl) rfl #[.slice A0 l.length c0, .int .i64 main] rfl (by (try simp only [List.map_toArray, List.map_cons, List.map_nil]); first | done | rfl) ?_; refine (parallaxref08_Sound.calls k A0 c0 l main true w HL.out HC.out H.out).mono ?_; rintro e w1 ⟨rfl, hb⟩; have HB := Aside0.mk hb; clear hb; refine ⟨_, rfl, ?_⟩)
    | ((with_reducible refine gate_callee (f := 47) rfl ?_); refine goesL_ (some 28) rfl rfl Tryd.func47 (by kernel_rfl) rfl #[.slice A2 input.length c2] rfl (by (try simp only [List.map_toArray, List.map_cons, List.map_nil]); first | done | rfl) ?_; refine (parallaxref09_own.calls A2 c2 input _ _ (Kd.C_below HIN.out HB.out) HC2.out HO.out).mono ?_; rintro e w2 ⟨v2, rfl, ho, hb⟩; obtain ⟨vA, vn, vC, rfl⟩ : ∃ A n c, v2 = .slice A n c := (by obtain ⟨A, c, e⟩ := Kd.R_slice ho; exact ⟨_, _, _, e⟩); clear ho; have HB2 := Aside0.mk (HB.out.trans (hb.mono HB.out.size)); clear hb; refine ⟨_, rfl, ?_⟩)
    | ((with_reducible refine gate_callee (f := 48) rfl ?_); refine goesL_ (some 34) rfl rfl Tryd.func48 (by kernel_rfl) rfl #[.pointer (some ⟨w2.heap.size, 0, none⟩), .int .i64 main, .slice none 0 0] rfl (by (try simp only [List.map_toArray, List.map_cons, List.map_nil]); first | done | rfl) ?_; refine (rbegin_nil _ w2.heap.size A0 c0 l (.slice vA vn vC) main fuel (blk_new w2 _) (Kd.C_alloc (Kd.C_below HL.out HB2.out) _) m0 m1 (rd_T46 l main).f1.toNat (by have := HCE.out; omega) (by have := HCE.out; omega) w HB2.out.size (below_alloc HB2.out _)).mono ?_; rintro e w3 ⟨rfl, hb⟩; have HB3 := Aside0.mk hb; clear hb; refine ⟨_, rfl, ?_⟩))
  go_ret2
  exact ⟨_, rfl, HB3.out⟩
end
end Go.Proofs.YthckiolgpgplpaaDoor
end
section
namespace Go.Proofs.YthckiolgpgplpaaDoor
open Go.RowKit Go.Proofs.YthckiolgpgplpaaDoorW.PrintWords Go.Proofs.YthckiolgpgplpaaDoorW.PrintLast Go.Proofs.YthckiolgpgplpaaDoorW.PrintMore Go.Proofs.YthckiolgpgplpaaDoor.P Go.Proofs.YthckiolgpgplpaaDoor.Q
set_option linter.unusedVariables false
set_option linter.unusedSimpArgs false
/-- What a part of a step leaves of a machine that has not ended. -/
structure Fate (m : Mc) (p : Mc × Bool) : Prop where
  sum : p.1.ticks + p.1.fuel = m.ticks + m.fuel
  ticks : p.1.ticks = m.ticks + (if p.2 = true then 1 else 0)
  goes : p.2 = true → p.1.ended = false
  last : p.1.ended = true → ∃ l x, p.1.events = l ++ [x] ∧ (∀ e ∈ l, e.1 < 3) ∧ 3 ≤ x.1
  evs : p.1.ended = false → ∀ e ∈ p.1.events, e.1 < 3
theorem Fate.end_ {m m' : Mc} (k n : Int) (hk : 3 ≤ k) (h1 : m'.ticks = m.ticks) (h2 : m'.fuel = m.fuel) (he : m'.events = m.events) (hv : ∀ e ∈ m.events, e.1 < 3) : Fate m (m'.endM k n, false) := by
  refine ⟨by show m'.ticks + m'.fuel = _; omega, by show m'.ticks = _; simp [h1], (fun h => by cases h), fun _ => ⟨m.events, (k, n), by show m'.events ++ [(k, n)] = _; rw [he], hv, hk⟩, fun h => by cases h⟩
theorem Fate.on {m m' : Mc} (h1 : m'.ticks = m.ticks) (h2 : m'.fuel = m.fuel) (hd : m'.ended = false) (he : ∀ e ∈ m'.events, e.1 < 3) : Fate m (m', false) :=
  ⟨by show m'.ticks + m'.fuel = _; omega, by simp [h1], (fun h => by cases h), (fun h => by rw [show m'.ended = true from h] at hd; cases hd), fun _ => he⟩
theorem snoc_lt {l : List (Int × Int)} {k n : Int} (h : ∀ e ∈ l, e.1 < 3) (hk : k < 3) : ∀ e ∈ l ++ [(k, n)], e.1 < 3 := by
  intro e he
  rcases List.mem_append.1 he with h1 | h1
  · exact h e h1
  · obtain rfl := List.mem_singleton.1 h1; exact hk
theorem does_fate {m : Mc} (hd : m.ended = false) (hv : ∀ e ∈ m.events, e.1 < 3) (r : List Fr) (f : Fr) (i : S43) : Fate m (m.does r f i) := by
  unfold Mc.does
  split
  · split
    · exact .end_ 4 4 (by decide) rfl rfl rfl hv
    · exact .on rfl rfl hd hv
  split
  · split
    · exact .end_ 3 0 (by decide) rfl rfl rfl hv
    split
    · exact .on rfl rfl hd hv
    · exact .on rfl rfl hd hv
  split
  · exact .on rfl rfl hd (snoc_lt hv (by decide))
  split
  · split
    · exact .end_ 4 5 (by decide) rfl rfl rfl hv
    · exact .on rfl rfl hd (snoc_lt hv (by decide))
  split
  · split
    · exact .end_ 5 0 (by decide) rfl rfl rfl hv
    · refine ⟨?_, ?_, fun _ => hd, (fun h => by rw [show m.ended = true from h] at hd; cases hd), fun _ => hv⟩
      · show m.ticks + 1 + (m.fuel - 1) = _; omega
      · rfl
  split
  · exact .on rfl rfl hd hv
  · exact .end_ 4 _ (by decide) rfl rfl rfl hv
theorem one_fate {m : Mc} (hd : m.ended = false) (hv : ∀ e ∈ m.events, e.1 < 3) : Fate m m.one := by
  unfold Mc.one
  cases m.frames.getLast? with
  | none => exact .on rfl rfl hd hv
  | some f => exact does_fate hd hv _ _ _
theorem steps_fate : ∀ (k : Nat) {m : Mc}, m.ended = false → (∀ e ∈ m.events, e.1 < 3) → Fate m (m.steps k) ∧ ((m.steps k).2 = false → (m.steps k).1.ended = true)
  | 0, m, hd, hv => ⟨.end_ 5 0 (by decide) rfl rfl rfl hv, fun _ => rfl⟩
  | k + 1, m, hd, hv => by
    have F := one_fate hd hv
    show Fate m (if m.one.2 = true then (m.one.1, true) else if m.one.1.ended = true then (m.one.1, false) else Mc.steps k m.one.1) ∧ ((if m.one.2 = true then (m.one.1, true) else if m.one.1.ended = true then (m.one.1, false) else Mc.steps k m.one.1).2 = false → (if m.one.2 = true then (m.one.1, true) else if m.one.1.ended = true then (m.one.1, false) else Mc.steps k m.one.1).1.ended = true)
    by_cases ht : m.one.2 = true
    · rw [if_pos ht]
      have e : (m.one.1, true) = m.one := by rw [← ht]
      rw [e]
      exact ⟨F, fun h => by rw [ht] at h; cases h⟩
    · rw [if_neg ht]
      have ht := Bool.eq_false_iff.2 ht
      have hs := F.ticks
      rw [ht, if_neg (by decide)] at hs
      by_cases hd : m.one.1.ended = true
      · rw [if_pos hd]
        have e : (m.one.1, false) = m.one := by rw [← ht]
        rw [e]
        exact ⟨F, fun _ => hd⟩
      · rw [if_neg hd]
        have hd := Bool.eq_false_iff.2 hd
        obtain ⟨G, g⟩ := steps_fate k hd (F.evs hd)
        exact ⟨⟨G.sum.trans F.sum, by rw [G.ticks]; omega, G.goes, G.last, G.evs⟩, g⟩
/-- A machine between two steps: its last event is an end if it has ended, and no other. -/
structure Told (m : Mc) : Prop where
  last : m.ended = true → ∃ l x, m.events = l ++ [x] ∧ (∀ e ∈ l, e.1 < 3) ∧ 3 ≤ x.1
  evs : m.ended = false → ∀ e ∈ m.events, e.1 < 3
theorem step_told {m : Mc} (T : Told m) : Told m.step.1 ∧ m.step.1.ticks + m.step.1.fuel = m.ticks + m.fuel ∧ m.step.1.ticks = m.ticks + (if m.step.2 = true then 1 else 0) ∧ (m.step.2 = false → m.step.1.ended = true) := by
  unfold Mc.step
  by_cases he : m.ended = true
  · rw [if_pos he]
    exact ⟨T, rfl, by simp, fun _ => he⟩
  · rw [if_neg he]
    have he := Bool.eq_false_iff.2 he
    obtain ⟨F, h⟩ := steps_fate 1048576 he (T.evs he)
    exact ⟨⟨F.last, F.evs⟩, F.sum, F.ticks, h⟩
theorem endP_told : ∀ (k : Nat) {m : Mc}, Told m → Told (m.endP k).1 ∧ (m.endP k).1.ticks + (m.endP k).1.fuel = m.ticks + m.fuel
  | 0, m, T => ⟨T, rfl⟩
  | k + 1, m, T => by
    obtain ⟨a, b, c, d⟩ := step_told T
    unfold Mc.endP
    by_cases h : m.step.2 = true
    · rw [if_pos h]
      obtain ⟨e, f⟩ := endP_told k a
      exact ⟨e, f.trans b⟩
    · rw [if_neg h]; exact ⟨a, b⟩
theorem endP_ends : ∀ (k : Nat) {m : Mc}, Told m → Fit m → m.fuel < k → (m.endP k).2 = true ∧ (m.endP k).1.ended = true
  | 0, m, T, F, h => by have := F.good.fuel.1; omega
  | k + 1, m, T, F, h => by
    obtain ⟨a, b, c, d⟩ := step_told T
    unfold Mc.endP
    by_cases h1 : m.step.2 = true
    · rw [if_pos h1]
      rw [h1, if_pos rfl] at c
      exact endP_ends k a (step_fit F).1 (by omega)
    · rw [if_neg h1]
      have h2 := d (Bool.eq_false_iff.2 h1)
      exact ⟨h2, h2⟩
theorem told_new (l : List S46) (input : List Int) (main fuel : Int) : Told ((mc0 l input fuel).beginM main []) :=
  ⟨(fun h => by cases h), fun _ e he => by cases he⟩
end Go.Proofs.YthckiolgpgplpaaDoor
end
section
namespace Go.Proofs.YthckiolgpgplpaaDoor
open Go.RowKit Go.Proofs.YthckiolgpgplpaaDoorW.PrintWords Go.Proofs.YthckiolgpgplpaaDoorW.PrintLast Go.Proofs.YthckiolgpgplpaaDoorW.PrintMore Go.Proofs.YthckiolgpgplpaaDoor.P Go.Proofs.YthckiolgpgplpaaDoor.Q
set_option linter.unusedVariables false
set_option linter.unusedSimpArgs false
/-- One machine at g, of its own from B on. -/
def Solo (g : Nat) (m : Mc) (B : Nat) (w0 w : World) : Prop := ∃ Rd o, o.g = g ∧ MOn Rd w o m ∧ (∀ k, k ∈ o.own → B ≤ k) ∧ Below B w0 w
theorem Solo.below {g : Nat} {m : Mc} {B : Nat} {w0 w w' : World} (S : Solo g m B w0 w) (hB : B ≤ w.heap.size) (hb : Below w.heap.size w w') : Solo g m B w0 w' := by
  obtain ⟨Rd, o, hg, hM, hl, hw⟩ := S
  exact ⟨Rd, o, hg, hM.below hb, hl, hw.trans (hb.mono hB)⟩
theorem Solo.of {g : Nat} {B : Nat} {w0 w w' : World} {Rd : Nat → Prop} {o : MHo} (hg : o.g = g) (hl : ∀ k, k ∈ o.own → B ≤ k) (hw : Below B w0 w) {m' : Mc} {v : Value} {e : Ending} (hB : B ≤ w.heap.size) (hp : MPost Rd w o m' v e w') : e = .returned v ∧ Solo g m' B w0 w' := by
  obtain ⟨he, o', hs, hM, hm⟩ := hp
  refine ⟨he, Rd, o', hs.1.trans hg, hM, fun k hk => ?_, hw.trans (hm.below (a := w) hB (fun k hk => hl k hk))⟩
  rcases hs.2 k hk with h | h
  · exact hl k h
  · omega
theorem Solo.step {g : Nat} {m : Mc} {B : Nat} {w0 w : World} (S : Solo g m B w0 w) (F : Fit m) (hB : B ≤ w0.heap.size) : Calls Tryd.prog 21 #[.pointer (some ⟨g, 0, none⟩)] w (fun e w' => e = .returned (.bool m.step.2) ∧ Solo g m.step.1 B w0 w') := by
  obtain ⟨Rd, o, hg, hM, hl, hw⟩ := S
  have h := step_on hM F
  rw [MHo.ptr, hg] at h
  exact h.mono (fun e w' hp => Solo.of hg hl hw (Nat.le_trans hB hw.size) hp)
theorem Solo.end_ {g : Nat} {m : Mc} {B : Nat} {w0 w : World} (S : Solo g m B w0 w) (F : Fit m) (hB : B ≤ w0.heap.size) (most : Nat) (hm : most ≤ 1000000) : Calls Tryd.prog 15 #[.pointer (some ⟨g, 0, none⟩), .int .i64 most] w (fun e w' => e = .returned (.bool (m.endP (most + 1)).2) ∧ Solo g (m.endP (most + 1)).1 B w0 w') := by
  obtain ⟨Rd, o, hg, hM, hl, hw⟩ := S
  have h := end_law hM F most hm
  rw [MHo.ptr, hg] at h
  exact h.mono (fun e w' hp => Solo.of hg hl hw (Nat.le_trans hB hw.size) hp)
/-- Two. -/
def Duo (g1 : Nat) (m1 : Mc) (g2 : Nat) (m2 : Mc) (B : Nat) (w0 w : World) : Prop :=
  ∃ Rd1 o1 Rd2 o2, o1.g = g1 ∧ o2.g = g2 ∧ MOn Rd1 w o1 m1 ∧ MOn Rd2 w o2 m2 ∧ (∀ k, k ∈ o1.own → B ≤ k) ∧ (∀ k, k ∈ o2.own → B ≤ k) ∧ (∀ k, k ∈ o1.own → k ∉ o2.own ∧ ¬ Rd2 k) ∧ (∀ k, k ∈ o2.own → ¬ Rd1 k) ∧ Below B w0 w
section
variable {g1 g2 : Nat} {m1 m2 : Mc} {B : Nat} {w0 w w' : World}
theorem Duo.swap (D : Duo g1 m1 g2 m2 B w0 w) : Duo g2 m2 g1 m1 B w0 w := by
  obtain ⟨Rd1, o1, Rd2, o2, h1, h2, h3, h4, h5, h6, h7, h8, h9⟩ := D
  exact ⟨Rd2, o2, Rd1, o1, h2, h1, h4, h3, h6, h5, fun k hk => ⟨fun h => (h7 k h).1 hk, h8 k hk⟩, fun k hk => (h7 k hk).2, h9⟩
theorem Duo.below (D : Duo g1 m1 g2 m2 B w0 w) (hB : B ≤ w0.heap.size) (hb : Below w.heap.size w w') : Duo g1 m1 g2 m2 B w0 w' := by
  obtain ⟨Rd1, o1, Rd2, o2, h1, h2, h3, h4, h5, h6, h7, h8, h9⟩ := D
  exact ⟨Rd1, o1, Rd2, o2, h1, h2, h3.below hb, h4.below hb, h5, h6, h7, h8, h9.trans (hb.mono (Nat.le_trans hB h9.size))⟩
theorem Duo.solo (D : Duo g1 m1 g2 m2 B w0 w) : Solo g1 m1 B w0 w := by
  obtain ⟨Rd1, o1, Rd2, o2, h1, h2, h3, h4, h5, h6, h7, h8, h9⟩ := D
  exact ⟨Rd1, o1, h1, h3, h5, h9⟩
theorem Duo.step (D : Duo g1 m1 g2 m2 B w0 w) (F : Fit m1) (hB : B ≤ w0.heap.size) : Calls Tryd.prog 21 #[.pointer (some ⟨g1, 0, none⟩)] w (fun e w' => e = .returned (.bool m1.step.2) ∧ Duo g1 m1.step.1 g2 m2 B w0 w') := by
  obtain ⟨Rd1, o1, Rd2, o2, h1, h2, h3, h4, h5, h6, h7, h8, h9⟩ := D
  have h := step_on h3 F
  rw [MHo.ptr, h1] at h
  refine h.mono ?_
  rintro e w' ⟨rfl, o', hs, hM, hm⟩
  have hsz := Nat.le_trans hB h9.size
  have hnew : ∀ k, k ∈ o'.own → k ∈ o1.own ∨ w.heap.size ≤ k := hs.2
  refine ⟨rfl, Rd1, o', Rd2, o2, hs.1.trans h1, h2, hM, h4.mod hm (fun k hk hk1 => ?_), fun k hk => ?_, h6, fun k hk => ?_, h8, h9.trans (hm.below (a := w) hsz (fun k hk => h5 k hk))⟩
  · rcases hk with hk | hk
    · exact (h7 k hk1).1 hk
    · exact (h7 k hk1).2 hk
  · rcases hnew k hk with h | h
    · exact h5 k h
    · omega
  · rcases hnew k hk with h | h
    · exact h7 k h
    · exact ⟨fun h' => by have := h4.lt k h'; omega, fun h' => by have := h4.low k h'; omega⟩
end
/-! Codes that are written down. -/
def insCells (x : S43) : List Value := [.int .i64 x.f0, .int .i64 x.f1, .int .i64 x.f2]
theorem reps_ins_from (w : World) : ∀ (l pre : List S43) (cs : List Value), Reps (k43.K w) 3 pre cs → Reps (k43.K w) 3 (pre ++ l) (cs ++ l.flatMap insCells)
  | [], pre, cs, h => by simpa using h
  | x :: l, pre, cs, h => by
    have := reps_ins_from w l (pre ++ [x]) (cs ++ insCells x) (h.snoc (k43_mk w x) rfl)
    simpa [List.append_assoc] using this
theorem reps_ins (w : World) (l : List S43) : Reps (k43.K w) 3 l (l.flatMap insCells) := reps_ins_from w l [] [] (Reps.none _ _)
theorem ins_row {w : World} {g : Nat} {t : TypeId} {l : List S43} (h : w.heap[g]? = some (.cells (l.flatMap insCells).toArray t (0, 0))) (hl : l.length ≤ 1000000) : Kd.C k43 w (some ⟨g, 0, none⟩) l.length l := by
  have hlen : (l.flatMap insCells).length = l.length * 3 := (reps_ins w l).1
  have ho : w.ownsRow 0 t 3 (.slice (some ⟨g, 0, none⟩) l.length l.length) l.length (l.flatMap insCells) := ⟨hlen, .inr ⟨g, l.length, _, rfl, Nat.zero_le _, h, Nat.le_refl _, by simp only [maxLen]; omega, by simpa using hlen, by rw [← hlen]; exact List.take_length⟩⟩
  obtain ⟨A, c, e, hr⟩ := own_reads_row ho (reps_ins w l) rfl
  obtain rfl := (Value.slice.inj e).1
  exact hr
theorem cod_row {w : World} {g : Nat} {t : TypeId} {l : List S46} {cs : List Value} (hr : Reps (k46.K w) 4 l cs) (h : w.heap[g]? = some (.cells cs.toArray t (0, 0))) (hl : l.length ≤ 1000000) : Kd.C k46 w (some ⟨g, 0, none⟩) l.length l := by
  have ho : w.ownsRow 0 t 4 (.slice (some ⟨g, 0, none⟩) l.length l.length) l.length cs := ⟨hr.1, .inr ⟨g, l.length, _, rfl, Nat.zero_le _, h, Nat.le_refl _, by simp only [maxLen]; omega, by simpa using hr.1, by rw [← hr.1]; exact List.take_length⟩⟩
  obtain ⟨A, c, e, hr⟩ := own_reads_row ho hr rfl
  obtain rfl := (Value.slice.inj e).1
  exact hr
end Go.Proofs.YthckiolgpgplpaaDoor
end
section
namespace Go.Proofs.YthckiolgpgplpaaDoor
open Go.RowKit Go.Proofs.YthckiolgpgplpaaDoorW.PrintWords Go.Proofs.YthckiolgpgplpaaDoorW.PrintLast Go.Proofs.YthckiolgpgplpaaDoorW.PrintMore Go.Proofs.YthckiolgpgplpaaDoor.P Go.Proofs.YthckiolgpgplpaaDoor.Q
set_option linter.unusedVariables false
theorem Solo.weak {g : Nat} {m : Mc} {B b : Nat} {w0 wb w : World} (S : Solo g m B w0 w) (hb : Below b wb w0) (h : b ≤ B) : Solo g m b wb w := by
  obtain ⟨Rd, o, h1, h2, h3, h4⟩ := S
  exact ⟨Rd, o, h1, h2, fun k hk => Nat.le_trans h (h3 k hk), hb.trans (h4.mono h)⟩
theorem Solo.low {g : Nat} {m : Mc} {B : Nat} {w0 w : World} (S : Solo g m B w0 w) : Below B w0 w := by
  obtain ⟨_, _, _, _, _, h⟩ := S
  exact h
theorem Solo.on {g : Nat} {m : Mc} {w0 w w' : World} (S : Solo g m w0.heap.size w0 w) (hb : Below w.heap.size w w') : Solo g m w0.heap.size w0 w' := S.below S.low.size hb
end Go.Proofs.YthckiolgpgplpaaDoor
end
section
namespace Go.Proofs.YthckiolgpgplpaaDoor
open Go.RowKit Go.Proofs.YthckiolgpgplpaaDoorW.PrintWords Go.Proofs.YthckiolgpgplpaaDoorW.PrintLast Go.Proofs.YthckiolgpgplpaaDoorW.PrintMore Go.Proofs.YthckiolgpgplpaaDoor.P Go.Proofs.YthckiolgpgplpaaDoor.Q
set_option linter.unusedVariables false
set_option linter.unusedSimpArgs false
set_option maxRecDepth 1000000
set_option maxHeartbeats 1000000
theorem sound_of {l : List S46} (hf : FitC l) {main : Int} {k : Nat} (h : code_Sound.f k l main = some true) : SoundP l main := by
  obtain ⟨r, hr, hi⟩ := Sound_ok l hf main
  obtain ⟨K, hK⟩ := hr
  have h1 := hK (max K k) (Nat.le_max_left _ _)
  have h2 := at_rounds (g := fun k => code_Sound.f k l main) (fun k => code_Sound.mono l main k) (Nat.le_max_right K k) h
  have : r = true := by
    have := h1.symm.trans h2
    exact Option.some.inj this
  exact hi.1 this
theorem fit_new {l : List S46} {main : Int} (hS : SoundP l main) {input : List Int} (hi : input.length ≤ 1000) {fuel : Int} (h0 : 0 ≤ fuel) (h1 : fuel ≤ 1048576) : Fit ((mc0 l input fuel).beginM main []) := by
  have a := hS.1
  have hz := rr_zero hS a.2.2.1 a.2.2.2.1
  obtain ⟨hs, _⟩ := hz
  obtain ⟨t1, t2, t3, t4, t5, t6, t7⟩ := hs.1
  refine ⟨⟨⟨main, hS⟩, fun _ => ⟨⟨a.2.2.1, a.2.2.2.1, ?_, 0, rfl, rr_zero hS a.2.2.1 a.2.2.2.1⟩, trivial⟩, (fun _ h => by cases h), fun _ => by show (1 : Nat) ≤ 50; decide, ⟨h0, Int.le_refl _, by show fuel + 0 ≤ 1048576; omega⟩, Nat.zero_le _, hi, by show ((0 : Nat) : Int) ≤ 0 * 1048577 + 1048577; decide⟩, fun _ => by show ((0 : Nat) : Int) ≤ 0 * 1048577; decide⟩
  show ((([] : List Int) ++ List.replicate ((rdC l main).f1.toNat - ([] : List Int).length) 0).length : Int) = (rdC l main).f1
  simp
  omega
section
variable (w : World) (A0 A2 : Option Addr) (c0 c2 : Nat) (l : List S46) (input : List Int) (main fuel : Int)
theorem new_solo (hl : Kd.C k46 w A0 l.length l) (hc : l.length ≤ c0) (hLd : Laid w) (k : Nat) (h : code_Sound.f k l main = some true) (hf : FitC l) (hin : Kd.C (Kd.int .i64) w A2 input.length input) (hc2 : input.length ≤ c2) (hf0 : 0 ≤ fuel) (hf1 : fuel ≤ 1048576) (hi1 : input.length ≤ 1000) :
    Calls Tryd.prog 12 #[.slice A0 l.length c0, .int .i64 main, .slice A2 input.length c2, .int .i64 fuel] w fun e w' => ∃ g, e = .returned (.tuple #[.pointer (some ⟨g, 0, none⟩), .int .i64 0]) ∧ Solo g ((mc0 l input fuel).beginM main []) w.heap.size w w' := by
  have hS := sound_of hf h
  have a := hS.1
  obtain ⟨hs, _⟩ := rr_zero hS a.2.2.1 a.2.2.2.1
  obtain ⟨t1, t2, t3, t4, t5, t6, t7⟩ := hs.1
  have hins : ∀ x ∈ l, x.f0.length ≤ 65536 := fun x hx => by
    obtain ⟨i, hi, rfl⟩ := List.getElem_of_mem hx
    obtain ⟨hs, _⟩ := rr_zero hS (k := (i : Int)) (by omega) (by omega)
    have := hs.1.2.1
    rw [rdC_at l i hi] at this
    exact this
  refine (new_ok w A0 A2 c0 c2 l input main fuel hl hc hLd k h hin hc2 hf0 hf1 hi1 a.2.1 hins a.2.2.1 a.2.2.2.1 ⟨t3, t4⟩).mono ?_
  rintro e w' ⟨Rd, o, rfl, hM, hlow, hb⟩
  exact ⟨o.g, rfl, Rd, o, rfl, hM, fun k hk => hlow k (.inr hk), hb⟩
theorem new_duo {g1 : Nat} {m1 : Mc} {B : Nat} {w0 : World} (S : Solo g1 m1 B w0 w) (hB : B ≤ w0.heap.size) (hl : Kd.C k46 w A0 l.length l) (hc : l.length ≤ c0) (hLd : Laid w) (k : Nat) (h : code_Sound.f k l main = some true) (hf : FitC l) (hin : Kd.C (Kd.int .i64) w A2 input.length input) (hc2 : input.length ≤ c2) (hf0 : 0 ≤ fuel) (hf1 : fuel ≤ 1048576) (hi1 : input.length ≤ 1000) :
    Calls Tryd.prog 12 #[.slice A0 l.length c0, .int .i64 main, .slice A2 input.length c2, .int .i64 fuel] w fun e w' => ∃ g, e = .returned (.tuple #[.pointer (some ⟨g, 0, none⟩), .int .i64 0]) ∧ Duo g1 m1 g ((mc0 l input fuel).beginM main []) B w0 w' := by
  have hS := sound_of hf h
  have a := hS.1
  obtain ⟨hs, _⟩ := rr_zero hS a.2.2.1 a.2.2.2.1
  obtain ⟨t1, t2, t3, t4, t5, t6, t7⟩ := hs.1
  have hins : ∀ x ∈ l, x.f0.length ≤ 65536 := fun x hx => by
    obtain ⟨i, hi, rfl⟩ := List.getElem_of_mem hx
    obtain ⟨hs, _⟩ := rr_zero hS (k := (i : Int)) (by omega) (by omega)
    have := hs.1.2.1
    rw [rdC_at l i hi] at this
    exact this
  refine (new_ok w A0 A2 c0 c2 l input main fuel hl hc hLd k h hin hc2 hf0 hf1 hi1 a.2.1 hins a.2.2.1 a.2.2.2.1 ⟨t3, t4⟩).mono ?_
  rintro e w' ⟨Rd, o, rfl, hM, hlow, hb⟩
  obtain ⟨Rd1, o1, hg1, hM1, hl1, hw1⟩ := S
  have hBw := Nat.le_trans hB hw1.size
  exact ⟨o.g, rfl, Rd1, o1, Rd, o, hg1, rfl, hM1.below hb, hM, hl1, fun k hk => Nat.le_trans hBw (hlow k (.inr hk)),
    fun k hk => ⟨fun h => by have := hM1.lt k hk; have := hlow k (.inr h); omega, fun h => by have := hM1.lt k hk; have := hlow k (.inl h); omega⟩, fun k hk h => by have := hM1.low k h; have := hlow k (.inr hk); omega, hw1.trans (hb.mono hBw)⟩
end
def kIns : List S43 := [⟨24, 0, 1⟩, ⟨1, 5, 0⟩, ⟨21, 0, 0⟩, ⟨24, 1, 3⟩, ⟨20, 0, 0⟩]
def kCod : List S46 := [⟨kIns, 0, 0, false⟩]
theorem kSound : code_Sound.f 60 kCod 0 = some true := by kernel_rfl
def km (fuel : Int) : Mc := (mc0 kCod [] fuel).beginM 0 []
theorem km9 : (km 9).step.2 = true ∧ (km 9).step.1.step.2 = true ∧ (km 9).step.1.step.1.step.2 = false ∧ (km 9).step.1.step.1.step.1.ticks = 2 ∧ (km 9).step.1.step.1.step.1.events = [(1, 5), (3, 0)] ∧ (km 9).step.1.step.1.step.1.ended = true ∧ (km 9).step.1.step.1.step.1.frames.length = 0 := by
  refine ⟨?_, ?_, ?_, ?_, ?_, ?_, ?_⟩ <;> kernel_rfl
theorem km1 : (km 1).step.2 = true ∧ (km 1).step.1.step.2 = false ∧ (km 1).step.1.step.1.events = [(1, 5), (5, 0)] ∧ (km 1).step.1.step.1.frames.length = 1 := by
  refine ⟨?_, ?_, ?_, ?_⟩ <;> kernel_rfl
end Go.Proofs.YthckiolgpgplpaaDoor
end
section
namespace Go.Proofs.YthckiolgpgplpaaDoor
open Go.RowKit Go.Proofs.YthckiolgpgplpaaDoorW.PrintWords Go.Proofs.YthckiolgpgplpaaDoorW.PrintLast Go.Proofs.YthckiolgpgplpaaDoorW.PrintMore Go.Proofs.YthckiolgpgplpaaDoor.P Go.Proofs.YthckiolgpgplpaaDoor.Q
set_option linter.unusedVariables false
set_option linter.unusedSimpArgs false
set_option maxRecDepth 1000000
set_option maxHeartbeats 2000000
theorem leads_of {l : List S46} {main : Int} (hS : SoundP l main) (i : Int) (h0 : 0 ≤ i) (h1 : i < l.length) : Leads (rd_T46 l i) := by
  obtain ⟨hs, _⟩ := rr_zero hS h0 h1
  obtain ⟨t1, t2, t3, t4, t5, t6, t7⟩ := hs.1
  refine ⟨t2, fun j j0 j1 hj => ?_⟩
  have hm := (hs.2 (rd_T43 (rd_T46 l i).f0 j) (by
    rw [show rd_T43 (rd_T46 l i).f0 j = (rd_T46 l i).f0[j.toNat]'(by omega) by simp [rd_T43, List.getD, show j.toNat < (rd_T46 l i).f0.length by omega]]
    exact List.getElem_mem _)).2
  unfold MayRest at hm
  rw [if_neg (by omega), if_neg (by omega), if_pos hj] at hm
  exact of_decide_eq_true hm
theorem great_ok (l : List S46) (hl : l.length ≤ 10000000000000) (hb : ∀ x ∈ l, x.f0.length ≤ 1000000000000000) : ∃ k r, parallaxlaw09_great.f k l = some r := by
  have loop : ∀ (d i : Nat), i + d = l.length → ∃ r, Ev (fun k => parallaxlaw09_great.l0 k l i) r := by
    intro d
    induction d with
    | zero =>
      intro i hi
      obtain rfl : i = l.length := by omega
      refine ⟨false, Q.evs ?_⟩
      simp only [parallaxlaw09_great.l0, ff (Int.lt_irrefl (l.length : Int)), if_false]; exact Ev.now _
    | succ d ih =>
      intro i hi
      have c1 := tt (show (i : Int) < (l.length : Int) by omega)
      have c2 := tt (show (0 : Int) ≤ (i : Int) by omega)
      have e2 : wrap64 ((i : Int) + 1) = ((i + 1 : Nat) : Int) := by rw [w64 (by omega) (by omega)]; rfl
      obtain ⟨r, hr⟩ := ih (i + 1) (by omega)
      by_cases h1 : (rd_T46 l (i : Int)).f1 > 300
      · by_cases h2 : (rd_T46 l (i : Int)).f1 ≤ 65536
        · refine ⟨true, Q.evs ?_⟩
          simp only [parallaxlaw09_great.l0, c1, c2, tt h1, tt h2, if_true]; exact Ev.now _
        · refine ⟨r, Q.evs ?_⟩
          simp only [parallaxlaw09_great.l0, c1, c2, tt h1, ff h2, if_true, if_false, e2]; exact hr
      · refine ⟨r, Q.evs ?_⟩
        simp only [parallaxlaw09_great.l0, c1, c2, ff h1, if_true, if_false, e2]; exact hr
  have j : ∀ b, ∃ r, Ev (fun k => parallaxlaw09_great.j0 k l b) r := by
    intro b
    by_cases h : b = true
    · refine ⟨true, Q.evs ?_⟩
      simp only [parallaxlaw09_great.j0, tt h, if_true]; exact Ev.now _
    · obtain ⟨r, hr⟩ := loop l.length 0 (by omega)
      refine ⟨r, Q.evs ?_⟩
      simp only [parallaxlaw09_great.j0, ff h, if_false]; exact hr
  have all : ∃ r, Ev (fun k => parallaxlaw09_great.f k l) r := by
    unfold parallaxlaw09_great.f
    by_cases h : (l.length : Int) > 50
    · simp only [tt h, if_true]; exact j true
    · obtain ⟨t, ht⟩ := Size_ok l hl hb 1000 (by decide)
      obtain ⟨r, hr⟩ := j (decide (t > 1000))
      refine ⟨r, ?_⟩
      simp only [ff h, if_false]
      exact Ev.bind ht hr
  obtain ⟨r, k, hk⟩ := all
  exact ⟨k, r, hk k (Nat.le_refl _)⟩
def fewP (fuel : Int) : Int := if fuel > 200 then (if fuel ≤ 1048576 then 200 else fuel) else fuel
theorem few_f (fuel : Int) : parallaxlaw09_few.f fuel = some (fewP fuel) := by
  unfold parallaxlaw09_few.f fewP
  split
  · split <;> rfl
  · rfl
/-- What both machines are: none, with nothing against it; or a machine and a machine of the document's. -/
def BothP (l : List S46) (input : List Int) (main fuel : Int) (w : World) (e : Ending) (w' : World) : Prop :=
  Below w.heap.size w w' ∧ (e = .returned (.tuple #[.pointer none, .pointer none, .bool false, .bool true]) ∨
    ∃ g gr b, e = .returned (.tuple #[.pointer (some ⟨g, 0, none⟩), .pointer (some ⟨gr, 0, none⟩), .bool b, .bool true]) ∧ Solo g ((mc0 l input (fewP fuel)).beginM main []) w.heap.size w w' ∧ SoundP l main ∧ 0 ≤ fewP fuel ∧ fewP fuel ≤ 200 ∧ input.length ≤ 200)
theorem both_great (w : World) (A0 A2 : Option Addr) (c0 c2 : Nat) (l : List S46) (input : List Int) (main fuel : Int) (hl : Kd.C k46 w A0 l.length l) (hc : l.length ≤ c0) (hLd : Laid w) (hf : FitC l) (hin : Kd.C (Kd.int .i64) w A2 input.length input) (hc2 : input.length ≤ c2) (kg : Nat) (hg : parallaxlaw09_great.f kg l = some true) : Calls Tryd.prog 10 #[.slice A0 l.length c0, .int .i64 main, .slice A2 input.length c2, .int .i64 fuel] w (BothP l input main fuel w) := by
  have HL := Aside0.mk hl; have HC := Aside0.mk hc; have HG := Aside0.mk hg
  clear hl hc hg hLd hf hin
  go_enter Tryd.func10, Tryd.ntmps10
  go_wp2_with (first
    | ((with_reducible refine gate_callee (f := 25) rfl ?_); (try (refine gate_guard (by rfl) ?_; dsimp only)); refine goesL_ (some 17) rfl rfl Tryd.func25 (by kernel_rfl) rfl #[.slice A0 l.length c0] rfl (by (try simp only [List.map_toArray, List.map_cons, List.map_nil]); first | done | rfl) ?_; (with_reducible refine (parallaxlaw09_great.calls kg A0 c0 l true w HL.out HC.out HG.out).mono ?_); rintro e w0 ⟨rfl, nd, rfl⟩; have HB := Aside0.mk (pw_below_drewN (Below.refl w.heap.size w) nd); refine ⟨_, rfl, ?_⟩))
  exact bodyPost_ret (v := .tuple #[.pointer none, .pointer none, .bool false, .bool true]) (by simp [results, Tryd.results10, go_sem]) rfl ⟨HB.out, .inl rfl⟩
theorem both_long (w : World) (A0 A2 : Option Addr) (c0 c2 : Nat) (l : List S46) (input : List Int) (main fuel : Int) (hl : Kd.C k46 w A0 l.length l) (hc : l.length ≤ c0) (hLd : Laid w) (hf : FitC l) (hin : Kd.C (Kd.int .i64) w A2 input.length input) (hc2 : input.length ≤ c2) (kg : Nat) (hg : parallaxlaw09_great.f kg l = some false) (h1 : 200 < input.length) (h2 : input.length ≤ 1000) : Calls Tryd.prog 10 #[.slice A0 l.length c0, .int .i64 main, .slice A2 input.length c2, .int .i64 fuel] w (BothP l input main fuel w) := by
  have HL := Aside0.mk hl; have HC := Aside0.mk hc; have HG := Aside0.mk hg
  have e1 : decide (200 < (input.length : Int)) = true := decide_eq_true (by omega)
  have e2 : decide ((input.length : Int) ≤ 1000) = true := decide_eq_true (by omega)
  clear hl hc hg hLd hf hin h1 h2
  go_enter Tryd.func10, Tryd.ntmps10
  go_wp2_with (first
    | ((with_reducible refine gate_callee (f := 25) rfl ?_); (try (refine gate_guard (by rfl) ?_; dsimp only)); refine goesL_ (some 17) rfl rfl Tryd.func25 (by kernel_rfl) rfl #[.slice A0 l.length c0] rfl (by (try simp only [List.map_toArray, List.map_cons, List.map_nil]); first | done | rfl) ?_; (with_reducible refine (parallaxlaw09_great.calls kg A0 c0 l false w HL.out HC.out HG.out).mono ?_); rintro e w0 ⟨rfl, nd, rfl⟩; have HB := Aside0.mk (pw_below_drewN (Below.refl w.heap.size w) nd); refine ⟨_, rfl, ?_⟩))
  exact bodyPost_ret (v := .tuple #[.pointer none, .pointer none, .bool false, .bool true]) (by simp [results, Tryd.results10, go_sem]) rfl ⟨HB.out, .inl rfl⟩
theorem both_refused (w : World) (A0 A2 : Option Addr) (c0 c2 : Nat) (l : List S46) (input : List Int) (main fuel : Int) (hl : Kd.C k46 w A0 l.length l) (hc : l.length ≤ c0) (hLd : Laid w) (hf : FitC l) (hin : Kd.C (Kd.int .i64) w A2 input.length input) (hc2 : input.length ≤ c2) (kg : Nat) (hg : parallaxlaw09_great.f kg l = some false) (h1 : ¬ (200 < input.length ∧ input.length ≤ 1000)) (er : Int) (h0 : er = 1 ∨ er = 60)
    (HN : ∀ W, Below w.heap.size w W → Calls Tryd.prog 12 #[.slice A0 l.length c0, .int .i64 main, .slice A2 input.length c2, .int .i64 (fewP fuel)] W fun e w' => e = .returned (.tuple #[.pointer none, .int .i64 er]) ∧ Below W.heap.size W w')
    (HR : ∀ W, Below w.heap.size w W → Calls Tryd.prog 26 #[.slice A0 l.length c0, .int .i64 main, .slice A2 input.length c2, .int .i64 (fewP fuel)] W fun e w' => e = .returned (.tuple #[.pointer none, .int .i64 er]) ∧ Below W.heap.size W w') :
    Calls Tryd.prog 10 #[.slice A0 l.length c0, .int .i64 main, .slice A2 input.length c2, .int .i64 fuel] w (BothP l input main fuel w) := by
  have HL := Aside0.mk hl; have HC := Aside0.mk hc; have HG := Aside0.mk hg; have HN := Aside0.mk HN; have HR := Aside0.mk HR
  clear hl hc hg hLd hf hin
  by_cases h2 : 200 < input.length
  · have e1 : decide (200 < (input.length : Int)) = true := decide_eq_true (by omega)
    have e2 : decide ((input.length : Int) ≤ 1000) = false := decide_eq_false (by omega)
    clear h1 h2
    rcases h0 with rfl | rfl
    all_goals
      go_enter Tryd.func10, Tryd.ntmps10
      go_wp2_with (first
        | ((with_reducible refine gate_callee (f := 25) rfl ?_); (try (refine gate_guard (by rfl) ?_; dsimp only)); refine goesL_ (some 17) rfl rfl Tryd.func25 (by kernel_rfl) rfl #[.slice A0 l.length c0] rfl (by (try simp only [List.map_toArray, List.map_cons, List.map_nil]); first | done | rfl) ?_; (with_reducible refine (parallaxlaw09_great.calls kg A0 c0 l false w HL.out HC.out HG.out).mono ?_); rintro e w0 ⟨rfl, nd, rfl⟩; have HB := Aside0.mk (pw_below_drewN (Below.refl w.heap.size w) nd); refine ⟨_, rfl, ?_⟩)
        | ((with_reducible refine gate_callee (f := 13) rfl ?_); (try (refine gate_guard (by rfl) ?_; dsimp only)); refine goesL_ (some 33) rfl rfl Tryd.func13 (by kernel_rfl) rfl #[.int .i64 fuel] rfl (by (try simp only [List.map_toArray, List.map_cons, List.map_nil]); first | done | rfl) ?_; (with_reducible refine (parallaxlaw09_few.calls fuel _ _ (few_f fuel)).mono ?_); rintro e w1 ⟨rfl, ndw1, rfl⟩; have HB := Aside0.mk (pw_below_drewN HB.out ndw1); refine ⟨_, rfl, ?_⟩)
        | ((with_reducible refine gate_callee (f := 12) rfl ?_); (try (refine gate_guard (by rfl) ?_; dsimp only)); refine goesL_ (some 34) rfl rfl Tryd.func12 (by kernel_rfl) rfl #[.slice A0 l.length c0, .int .i64 main, .slice A2 input.length c2, .int .i64 (fewP fuel)] rfl (by (try simp only [List.map_toArray, List.map_cons, List.map_nil]); first | done | rfl) ?_; (with_reducible refine (HN.out _ HB.out).mono ?_); rintro e w2 ⟨rfl, hb⟩; have HB := Aside0.mk (HB.out.trans (hb.mono HB.out.size)); clear hb; refine ⟨_, rfl, ?_⟩)
        | ((with_reducible refine gate_callee (f := 13) rfl ?_); (try (refine gate_guard (by rfl) ?_; dsimp only)); refine goesL_ (some 42) rfl rfl Tryd.func13 (by kernel_rfl) rfl #[.int .i64 fuel] rfl (by (try simp only [List.map_toArray, List.map_cons, List.map_nil]); first | done | rfl) ?_; (with_reducible refine (parallaxlaw09_few.calls fuel _ _ (few_f fuel)).mono ?_); rintro e w3 ⟨rfl, ndw3, rfl⟩; have HB := Aside0.mk (pw_below_drewN HB.out ndw3); refine ⟨_, rfl, ?_⟩)
        | ((with_reducible refine gate_callee (f := 26) rfl ?_); (try (refine gate_guard (by rfl) ?_; dsimp only)); refine goesL_ (some 43) rfl rfl Tryd.func26 (by kernel_rfl) rfl #[.slice A0 l.length c0, .int .i64 main, .slice A2 input.length c2, .int .i64 (fewP fuel)] rfl (by (try simp only [List.map_toArray, List.map_cons, List.map_nil]); first | done | rfl) ?_; (with_reducible refine (HR.out _ HB.out).mono ?_); rintro e w4 ⟨rfl, hb⟩; have HB := Aside0.mk (HB.out.trans (hb.mono HB.out.size)); clear hb; refine ⟨_, rfl, ?_⟩))
      exact bodyPost_ret (v := .tuple #[.pointer none, .pointer none, .bool false, .bool true]) (by simp [results, Tryd.results10, go_sem]) rfl ⟨HB.out, .inl rfl⟩
  · have e1 : decide (200 < (input.length : Int)) = false := decide_eq_false (by omega)
    clear h1 h2
    rcases h0 with rfl | rfl
    all_goals
      go_enter Tryd.func10, Tryd.ntmps10
      go_wp2_with (first
        | ((with_reducible refine gate_callee (f := 25) rfl ?_); (try (refine gate_guard (by rfl) ?_; dsimp only)); refine goesL_ (some 17) rfl rfl Tryd.func25 (by kernel_rfl) rfl #[.slice A0 l.length c0] rfl (by (try simp only [List.map_toArray, List.map_cons, List.map_nil]); first | done | rfl) ?_; (with_reducible refine (parallaxlaw09_great.calls kg A0 c0 l false w HL.out HC.out HG.out).mono ?_); rintro e w0 ⟨rfl, nd, rfl⟩; have HB := Aside0.mk (pw_below_drewN (Below.refl w.heap.size w) nd); refine ⟨_, rfl, ?_⟩)
        | ((with_reducible refine gate_callee (f := 13) rfl ?_); (try (refine gate_guard (by rfl) ?_; dsimp only)); refine goesL_ (some 33) rfl rfl Tryd.func13 (by kernel_rfl) rfl #[.int .i64 fuel] rfl (by (try simp only [List.map_toArray, List.map_cons, List.map_nil]); first | done | rfl) ?_; (with_reducible refine (parallaxlaw09_few.calls fuel _ _ (few_f fuel)).mono ?_); rintro e w1 ⟨rfl, ndw1, rfl⟩; have HB := Aside0.mk (pw_below_drewN HB.out ndw1); refine ⟨_, rfl, ?_⟩)
        | ((with_reducible refine gate_callee (f := 12) rfl ?_); (try (refine gate_guard (by rfl) ?_; dsimp only)); refine goesL_ (some 34) rfl rfl Tryd.func12 (by kernel_rfl) rfl #[.slice A0 l.length c0, .int .i64 main, .slice A2 input.length c2, .int .i64 (fewP fuel)] rfl (by (try simp only [List.map_toArray, List.map_cons, List.map_nil]); first | done | rfl) ?_; (with_reducible refine (HN.out _ HB.out).mono ?_); rintro e w2 ⟨rfl, hb⟩; have HB := Aside0.mk (HB.out.trans (hb.mono HB.out.size)); clear hb; refine ⟨_, rfl, ?_⟩)
        | ((with_reducible refine gate_callee (f := 13) rfl ?_); (try (refine gate_guard (by rfl) ?_; dsimp only)); refine goesL_ (some 42) rfl rfl Tryd.func13 (by kernel_rfl) rfl #[.int .i64 fuel] rfl (by (try simp only [List.map_toArray, List.map_cons, List.map_nil]); first | done | rfl) ?_; (with_reducible refine (parallaxlaw09_few.calls fuel _ _ (few_f fuel)).mono ?_); rintro e w3 ⟨rfl, ndw3, rfl⟩; have HB := Aside0.mk (pw_below_drewN HB.out ndw3); refine ⟨_, rfl, ?_⟩)
        | ((with_reducible refine gate_callee (f := 26) rfl ?_); (try (refine gate_guard (by rfl) ?_; dsimp only)); refine goesL_ (some 43) rfl rfl Tryd.func26 (by kernel_rfl) rfl #[.slice A0 l.length c0, .int .i64 main, .slice A2 input.length c2, .int .i64 (fewP fuel)] rfl (by (try simp only [List.map_toArray, List.map_cons, List.map_nil]); first | done | rfl) ?_; (with_reducible refine (HR.out _ HB.out).mono ?_); rintro e w4 ⟨rfl, hb⟩; have HB := Aside0.mk (HB.out.trans (hb.mono HB.out.size)); clear hb; refine ⟨_, rfl, ?_⟩))
      exact bodyPost_ret (v := .tuple #[.pointer none, .pointer none, .bool false, .bool true]) (by simp [results, Tryd.results10, go_sem]) rfl ⟨HB.out, .inl rfl⟩
theorem both_there (w : World) (A0 A2 : Option Addr) (c0 c2 : Nat) (l : List S46) (input : List Int) (main fuel : Int) (hl : Kd.C k46 w A0 l.length l) (hc : l.length ≤ c0) (hLd : Laid w) (hf : FitC l) (hin : Kd.C (Kd.int .i64) w A2 input.length input) (hc2 : input.length ≤ c2) (kg : Nat) (hg : parallaxlaw09_great.f kg l = some false) (h1 : input.length ≤ 200) (hS : SoundP l main) (hf0 : 0 ≤ fewP fuel) (hf1 : fewP fuel ≤ 200)
    (HN : ∀ W, Below w.heap.size w W → Calls Tryd.prog 12 #[.slice A0 l.length c0, .int .i64 main, .slice A2 input.length c2, .int .i64 (fewP fuel)] W fun e w' => ∃ g, e = .returned (.tuple #[.pointer (some ⟨g, 0, none⟩), .int .i64 0]) ∧ Solo g ((mc0 l input (fewP fuel)).beginM main []) W.heap.size W w')
    (HR : ∀ W, Below w.heap.size w W → Calls Tryd.prog 26 #[.slice A0 l.length c0, .int .i64 main, .slice A2 input.length c2, .int .i64 (fewP fuel)] W fun e w' => ∃ g, e = .returned (.tuple #[.pointer (some ⟨g, 0, none⟩), .int .i64 0]) ∧ Below W.heap.size W w')
    (HS : ∀ W, Below w.heap.size w W → Calls Tryd.prog 31 #[.slice A0 l.length c0] W fun e w' => ∃ b, e = .returned (.bool b) ∧ Below W.heap.size W w') :
    Calls Tryd.prog 10 #[.slice A0 l.length c0, .int .i64 main, .slice A2 input.length c2, .int .i64 fuel] w (BothP l input main fuel w) := by
  have HL := Aside0.mk hl; have HC := Aside0.mk hc; have HG := Aside0.mk hg; have HN := Aside0.mk HN; have HR := Aside0.mk HR; have HS := Aside0.mk HS
  have HALL : Aside0 (SoundP l main ∧ 0 ≤ fewP fuel ∧ fewP fuel ≤ 200 ∧ input.length ≤ 200) := ⟨hS, hf0, hf1, h1⟩
  have e1 : decide (200 < (input.length : Int)) = false := decide_eq_false (by omega)
  clear hl hc hg hLd hf hin h1 hS hf0 hf1
  go_enter Tryd.func10, Tryd.ntmps10
  go_wp2_with (first
    | ((with_reducible refine gate_callee (f := 25) rfl ?_); (try (refine gate_guard (by rfl) ?_; dsimp only)); refine goesL_ (some 17) rfl rfl Tryd.func25 (by kernel_rfl) rfl #[.slice A0 l.length c0] rfl (by (try simp only [List.map_toArray, List.map_cons, List.map_nil]); first | done | rfl) ?_; (with_reducible refine (parallaxlaw09_great.calls kg A0 c0 l false w HL.out HC.out HG.out).mono ?_); rintro e w0 ⟨rfl, nd, rfl⟩; have HB := Aside0.mk (pw_below_drewN (Below.refl w.heap.size w) nd); refine ⟨_, rfl, ?_⟩)
    | ((with_reducible refine gate_callee (f := 13) rfl ?_); (try (refine gate_guard (by rfl) ?_; dsimp only)); refine goesL_ (some 33) rfl rfl Tryd.func13 (by kernel_rfl) rfl #[.int .i64 fuel] rfl (by (try simp only [List.map_toArray, List.map_cons, List.map_nil]); first | done | rfl) ?_; (with_reducible refine (parallaxlaw09_few.calls fuel _ _ (few_f fuel)).mono ?_); rintro e w1 ⟨rfl, ndw1, rfl⟩; have HB := Aside0.mk (pw_below_drewN HB.out ndw1); refine ⟨_, rfl, ?_⟩)
    | ((with_reducible refine gate_callee (f := 12) rfl ?_); (try (refine gate_guard (by rfl) ?_; dsimp only)); refine goesL_ (some 34) rfl rfl Tryd.func12 (by kernel_rfl) rfl #[.slice A0 l.length c0, .int .i64 main, .slice A2 input.length c2, .int .i64 (fewP fuel)] rfl (by (try simp only [List.map_toArray, List.map_cons, List.map_nil]); first | done | rfl) ?_; (with_reducible refine (HN.out _ HB.out).mono ?_); rintro e w2 ⟨gm, rfl, S0⟩; have S1 := Aside0.mk (S0.weak HB.out HB.out.size); clear S0; refine ⟨_, rfl, ?_⟩)
    | ((with_reducible refine gate_callee (f := 13) rfl ?_); (try (refine gate_guard (by rfl) ?_; dsimp only)); refine goesL_ (some 42) rfl rfl Tryd.func13 (by kernel_rfl) rfl #[.int .i64 fuel] rfl (by (try simp only [List.map_toArray, List.map_cons, List.map_nil]); first | done | rfl) ?_; (with_reducible refine (parallaxlaw09_few.calls fuel _ _ (few_f fuel)).mono ?_); rintro e w3 ⟨rfl, nd3, rfl⟩; have S1 := Aside0.mk (S1.out.on (pw_below_drewN (Below.refl _ _) nd3)); refine ⟨_, rfl, ?_⟩)
    | ((with_reducible refine gate_callee (f := 26) rfl ?_); (try (refine gate_guard (by rfl) ?_; dsimp only)); refine goesL_ (some 43) rfl rfl Tryd.func26 (by kernel_rfl) rfl #[.slice A0 l.length c0, .int .i64 main, .slice A2 input.length c2, .int .i64 (fewP fuel)] rfl (by (try simp only [List.map_toArray, List.map_cons, List.map_nil]); first | done | rfl) ?_; (with_reducible refine (HR.out _ S1.out.low).mono ?_); rintro e w4 ⟨gr, rfl, hb⟩; have S2 := Aside0.mk (S1.out.on hb); clear hb; refine ⟨_, rfl, ?_⟩)
    | ((with_reducible refine gate_callee (f := 31) rfl ?_); (try (refine gate_guard (by rfl) ?_; dsimp only)); refine goesL_ (some 58) rfl rfl Tryd.func31 (by kernel_rfl) rfl #[.slice A0 l.length c0] rfl (by (try simp only [List.map_toArray, List.map_cons, List.map_nil]); first | done | rfl) ?_; (with_reducible refine (HS.out _ S2.out.low).mono ?_); rintro e w5 ⟨bs, rfl, hb⟩; have S3 := Aside0.mk (S2.out.on hb); clear hb; refine ⟨_, rfl, ?_⟩))
  exact bodyPost_ret (v := .tuple #[.pointer (some ⟨gm, 0, none⟩), .pointer (some ⟨gr, 0, none⟩), .bool (!bs), .bool true]) (by simp [results, Tryd.results10, go_sem]) rfl ⟨S3.out.low, .inr ⟨gm, gr, !bs, rfl, S3.out, HALL.out⟩⟩
end Go.Proofs.YthckiolgpgplpaaDoor
end
section
namespace Go.Proofs.YthckiolgpgplpaaDoor
open Go.RowKit Go.Proofs.YthckiolgpgplpaaDoorW.PrintWords Go.Proofs.YthckiolgpgplpaaDoorW.PrintLast Go.Proofs.YthckiolgpgplpaaDoorW.PrintMore Go.Proofs.YthckiolgpgplpaaDoor.P Go.Proofs.YthckiolgpgplpaaDoor.Q
set_option linter.unusedVariables false
set_option linter.unusedSimpArgs false
theorem few_range {fuel : Int} (h0 : 0 ≤ fewP fuel) (h1 : fewP fuel ≤ 1048576) : fewP fuel ≤ 200 := by
  unfold fewP at *
  split at * <;> (try split at *) <;> omega
theorem both_law (w : World) (A0 A2 : Option Addr) (c0 c2 : Nat) (l : List S46) (input : List Int) (main fuel : Int) (hl : Kd.C k46 w A0 l.length l) (hc : l.length ≤ c0) (hLd : Laid w) (hf : FitC l) (hin : Kd.C (Kd.int .i64) w A2 input.length input) (hc2 : input.length ≤ c2) (hn : l.length ≤ 10000000000000) (hb : ∀ x ∈ l, x.f0.length ≤ 1000000000000000) :
    Calls Tryd.prog 10 #[.slice A0 l.length c0, .int .i64 main, .slice A2 input.length c2, .int .i64 fuel] w (BothP l input main fuel w) := by
  obtain ⟨kg, r, hg⟩ := great_ok l hn hb
  cases r with
  | true => exact both_great w A0 A2 c0 c2 l input main fuel hl hc hLd hf hin hc2 kg hg
  | false =>
    by_cases h1 : 200 < input.length ∧ input.length ≤ 1000
    · exact both_long w A0 A2 c0 c2 l input main fuel hl hc hLd hf hin hc2 kg hg h1.1 h1.2
    obtain ⟨r, ⟨K1, e1⟩, ⟨K2, e2⟩, hi⟩ := Sound_both l hf main
    have e1 := e1 K1 (Nat.le_refl _)
    have e2 := e2 K2 (Nat.le_refl _)
    cases r with
    | false =>
      refine both_refused w A0 A2 c0 c2 l input main fuel hl hc hLd hf hin hc2 kg hg h1 60 (.inr rfl) (fun W hW => ?_) (fun W hW => ?_)
      · exact new_unsound W A0 c0 l main (fewP fuel) (Kd.C_below hl hW) hc (hLd.below hW) K1 e1 _
      · exact refnew_unsound W A0 c0 l main (fewP fuel) (Kd.C_below hl hW) hc K2 e2 _
    | true =>
      have hS := hi.1 rfl
      by_cases hbad : fewP fuel < 0 ∨ 1048576 < fewP fuel ∨ 1000 < input.length
      · refine both_refused w A0 A2 c0 c2 l input main fuel hl hc hLd hf hin hc2 kg hg h1 1 (.inl rfl) (fun W hW => ?_) (fun W hW => ?_)
        · exact new_args W A0 A2 c0 c2 l main (fewP fuel) (Kd.C_below hl hW) hc (hLd.below hW) K1 e1 _ hbad
        · exact refnew_args W A0 A2 c0 c2 l main (fewP fuel) (Kd.C_below hl hW) hc K2 e2 _ hbad
      · have f0 : 0 ≤ fewP fuel := by omega
        have f1 : fewP fuel ≤ 200 := few_range f0 (by omega)
        have a := hS.1
        obtain ⟨hs, _⟩ := rr_zero hS a.2.2.1 a.2.2.2.1
        obtain ⟨t1, t2, t3, t4, t5, t6, t7⟩ := hs.1
        refine both_there w A0 A2 c0 c2 l input main fuel hl hc hLd hf hin hc2 kg hg (by omega) hS f0 f1 (fun W hW => ?_) (fun W hW => ?_) (fun W hW => ?_)
        · exact new_solo W A0 A2 c0 c2 l input main (fewP fuel) (Kd.C_below hl hW) hc (hLd.below hW) K1 e1 hf (Kd.C_below hin hW) hc2 f0 (by omega) (by omega)
        · exact refnew_ok W A0 A2 c0 c2 l input main (fewP fuel) (Kd.C_below hl hW) hc K2 e2 (Kd.C_below hin hW) hc2 f0 (by omega) (by omega) a.2.2.1 a.2.2.2.1 ⟨t3, t4⟩
        · exact slow_calls W A0 c0 l (Kd.C_below hl hW) hc (by have := a.2.1; omega) (leads_of hS)
end Go.Proofs.YthckiolgpgplpaaDoor
end
section
namespace Go.Proofs.YthckiolgpgplpaaDoor
open Go.RowKit Go.Proofs.YthckiolgpgplpaaDoorW.PrintWords Go.Proofs.YthckiolgpgplpaaDoorW.PrintLast Go.Proofs.YthckiolgpgplpaaDoorW.PrintMore Go.Proofs.YthckiolgpgplpaaDoor.P Go.Proofs.YthckiolgpgplpaaDoor.Q
set_option linter.unusedVariables false
set_option linter.unusedSimpArgs false
set_option maxRecDepth 1000000
set_option maxHeartbeats 2000000
section
variable {g g1 g2 : Nat} {m m1 m2 : Mc} {B : Nat} {w0 w w' : World}
theorem Solo.ticks (S : Solo g m B w0 w) : Calls Tryd.prog 18 #[.pointer (some ⟨g, 0, none⟩)] w fun e w' => e = .returned (.int .i64 m.ticks) ∧ Below w.heap.size w w' := by
  obtain ⟨Rd, o, hg, hM, _⟩ := S
  have h := ticks_on hM; rw [MHo.ptr, hg] at h; exact h
theorem Solo.ended (S : Solo g m B w0 w) : Calls Tryd.prog 30 #[.pointer (some ⟨g, 0, none⟩)] w fun e w' => e = .returned (.bool m.ended) ∧ Below w.heap.size w w' := by
  obtain ⟨Rd, o, hg, hM, _⟩ := S
  have h := ended_on hM; rw [MHo.ptr, hg] at h; exact h
theorem Solo.frames (S : Solo g m B w0 w) : Calls Tryd.prog 20 #[.pointer (some ⟨g, 0, none⟩)] w fun e w' => e = .returned (.int .i64 (m.frames.length : Nat)) ∧ Below w.heap.size w w' := by
  obtain ⟨Rd, o, hg, hM, _⟩ := S
  have h := frames_on hM; rw [MHo.ptr, hg] at h; exact h
theorem Solo.count (S : Solo g m B w0 w) : Calls Tryd.prog 22 #[.pointer (some ⟨g, 0, none⟩)] w fun e w' => e = .returned (.int .i64 (m.events.length : Nat)) ∧ Below w.heap.size w w' := by
  obtain ⟨Rd, o, hg, hM, _⟩ := S
  have h := count_on hM; rw [MHo.ptr, hg] at h; exact h
theorem Solo.events (S : Solo g m B w0 w) (hl : m.events.length ≤ 4398046511104) : Calls Tryd.prog 16 #[.pointer (some ⟨g, 0, none⟩)] w fun e w' => ∃ v1, e = .returned v1 ∧ w'.ownsRow 0 38 2 v1 m.events.length (evs m.events) ∧ Below w.heap.size w w' := by
  obtain ⟨Rd, o, hg, hM, _⟩ := S
  have h := events_on hM hl; rw [MHo.ptr, hg] at h
  exact h.mono (fun e w' ⟨v1, a, b, _, c⟩ => ⟨v1, a, b, c⟩)
end
/-- A row of events that is read: its value, its cells. -/
theorem two_events {w : World} {v : Value} {a b c d : Int} (h : w.ownsRow 0 38 2 v 2 (evs [(a, b), (c, d)])) : ∃ k cap, v = .slice (some ⟨k, 0, none⟩) 2 cap ∧ k < w.heap.size ∧ w.cell? ⟨k, 0, none⟩ = some (.int .i64 a) ∧ w.cell? ⟨k, 1, none⟩ = some (.int .i64 b) ∧ w.cell? ⟨k, 2, none⟩ = some (.int .i64 c) ∧ w.cell? ⟨k, 3, none⟩ = some (.int .i64 d) := by
  rcases h.2 with ⟨_, h0⟩ | ⟨k, cap, cur, rfl, _, hh, _⟩
  · cases h0
  · refine ⟨k, cap, rfl, blk_lt hh, ?_, ?_, ?_, ?_⟩
    · simpa [Addr.add] using h.cells (g := k) rfl 0 (.int .i64 a) rfl
    · simpa [Addr.add] using h.cells (g := k) rfl 1 (.int .i64 b) rfl
    · simpa [Addr.add] using h.cells (g := k) rfl 2 (.int .i64 c) rfl
    · simpa [Addr.add] using h.cells (g := k) rfl 3 (.int .i64 d) rfl
theorem kFit (fuel : Int) (h0 : 0 ≤ fuel) (h1 : fuel ≤ 1048576) : Fit (km fuel) := fit_new (sound_of (by
  intro x hx y hy
  have : x = ⟨kIns, 0, 0, false⟩ := by simpa [kCod] using hx
  subst this
  have : ∀ y ∈ kIns, (Lit.int .i64 y.f0).wf = true ∧ ((Lit.int .i64 y.f1).wf = true ∧ (Lit.int .i64 y.f2).wf = true) := by decide
  exact this y hy) kSound) (by simp) h0 h1
theorem kFitC : FitC kCod := by
  intro x hx y hy
  have : x = ⟨kIns, 0, 0, false⟩ := by simpa [kCod] using hx
  subst this
  have : ∀ y ∈ kIns, (Lit.int .i64 y.f0).wf = true ∧ ((Lit.int .i64 y.f1).wf = true ∧ (Lit.int .i64 y.f2).wf = true) := by decide
  exact this y hy
theorem known_law (w : World) (hLd : Laid w) : Calls Tryd.prog 11 #[] w fun e w' => e = .returned (.bool true) ∧ Below w.heap.size w w' := by
  obtain ⟨W, hW⟩ : ∃ W, W = (w.alloc (.cells #[.int .i64 24, .int .i64 0, .int .i64 1, .int .i64 1, .int .i64 5, .int .i64 0, .int .i64 21, .int .i64 0, .int .i64 0, .int .i64 24, .int .i64 1, .int .i64 3, .int .i64 20, .int .i64 0, .int .i64 0] 43)).alloc (.cells #[.slice (some ⟨w.heap.size, 0, none⟩) 5 5, .int .i64 0, .int .i64 0, .bool false] 46) := ⟨_, rfl⟩
  have hbW : Below w.heap.size w W := by rw [hW]; exact below_alloc (below_alloc (Below.refl _ _) _) _
  have hr : Kd.C k43 W (some ⟨w.heap.size, 0, none⟩) kIns.length kIns := ins_row (t := 43) (by rw [hW]; exact blk_alloc (blk_new w _) _) (by decide)
  have hC : Kd.C k46 W (some ⟨w.heap.size + 1, 0, none⟩) kCod.length kCod := by
    refine cod_row (t := 46) (cs := [.slice (some ⟨w.heap.size, 0, none⟩) 5 5, .int .i64 0, .int .i64 0, .bool false]) ((Reps.none _ _).snoc (p := (⟨kIns, 0, 0, false⟩ : S46)) (k46_mk W ⟨kIns, 0, 0, false⟩ (c0 := 5) (by decide) hr) rfl) ?_ (by decide)
    rw [hW]
    have := blk_new (w.alloc (.cells #[.int .i64 24, .int .i64 0, .int .i64 1, .int .i64 1, .int .i64 5, .int .i64 0, .int .i64 21, .int .i64 0, .int .i64 0, .int .i64 24, .int .i64 1, .int .i64 3, .int .i64 20, .int .i64 0, .int .i64 0] 43)) (.cells #[.slice (some ⟨w.heap.size, 0, none⟩) 5 5, .int .i64 0, .int .i64 0, .bool false] 46)
    rwa [show (w.alloc (.cells #[.int .i64 24, .int .i64 0, .int .i64 1, .int .i64 1, .int .i64 5, .int .i64 0, .int .i64 21, .int .i64 0, .int .i64 0, .int .i64 24, .int .i64 1, .int .i64 3, .int .i64 20, .int .i64 0, .int .i64 0] 43)).heap.size = w.heap.size + 1 by simp] at this
  have hLW := hLd.below hbW
  have hnil : ∀ X : World, Kd.C (Kd.int .i64) X none ([] : List Int).length [] := fun X => Kd.C_nil _ X
  have HN1 : Aside0 (Calls Tryd.prog 12 #[.slice (some ⟨w.heap.size + 1, 0, none⟩) 1 1, .int .i64 0, .slice none 0 0, .int .i64 9] W (fun e w1 => ∃ g, e = .returned (.tuple #[.pointer (some ⟨g, 0, none⟩), .int .i64 0]) ∧ Solo g (km 9) W.heap.size W w1)) := ⟨new_solo W _ none 1 0 kCod [] 0 9 hC (Nat.le_refl _) hLW 60 kSound kFitC (hnil W) (Nat.le_refl _) (by decide) (by decide) (by decide)⟩
  have HN2 : Aside0 (∀ w1 g, Solo g (km 9) W.heap.size W w1 → Calls Tryd.prog 12 #[.slice (some ⟨w.heap.size + 1, 0, none⟩) 1 1, .int .i64 0, .slice none 0 0, .int .i64 1] w1 (fun e w2 => ∃ g2, e = .returned (.tuple #[.pointer (some ⟨g2, 0, none⟩), .int .i64 0]) ∧ Duo g (km 9) g2 (km 1) W.heap.size W w2)) := ⟨fun w1 g S => by
    obtain ⟨_, _, _, _, _, hb⟩ := id S
    exact new_duo w1 _ none 1 0 kCod [] 0 1 S (Nat.le_refl _) (Kd.C_below hC hb) (Nat.le_refl _) (hLW.below hb) 60 kSound kFitC (hnil w1) (Nat.le_refl _) (by decide) (by decide) (by decide)⟩
  have HBW := Aside0.mk hbW
  have HN1 : Aside0 (Calls Tryd.prog 12 #[.slice (some ⟨w.heap.size + 1, 0, none⟩) 1 1, .int .i64 0, .slice none 0 0, .int .i64 9] ((w.alloc (.cells #[.int .i64 24, .int .i64 0, .int .i64 1, .int .i64 1, .int .i64 5, .int .i64 0, .int .i64 21, .int .i64 0, .int .i64 0, .int .i64 24, .int .i64 1, .int .i64 3, .int .i64 20, .int .i64 0, .int .i64 0] 43)).alloc (.cells #[.slice (some ⟨w.heap.size, 0, none⟩) 5 5, .int .i64 0, .int .i64 0, .bool false] 46)) (fun e w1 => ∃ g, e = .returned (.tuple #[.pointer (some ⟨g, 0, none⟩), .int .i64 0]) ∧ Solo g (km 9) W.heap.size W w1)) := ⟨by rw [← hW]; exact HN1.out⟩
  clear hLd hbW hr hC hLW hnil
  have HWW := Aside0.mk hW; clear hW
  go_enter Tryd.func11, Tryd.ntmps11
  go_wp2_with (first
    | ((with_reducible refine gate_callee (f := 12) rfl ?_); (try (refine gate_guard (by rfl) ?_; dsimp only)); refine goesL_ (some 18) rfl rfl Tryd.func12 (by kernel_rfl) rfl #[.slice (some ⟨w.heap.size + 1, 0, none⟩) 1 1, .int .i64 0, .slice none 0 0, .int .i64 9] rfl (by (try simp only [List.map_toArray, List.map_cons, List.map_nil]); first | done | rfl) ?_; (with_reducible refine (HN1.out).mono ?_); rintro e w1 ⟨gm, rfl, S1⟩; have HN2 := Aside0.mk (HN2.out w1 gm S1); clear S1; refine ⟨_, rfl, ?_⟩)
    | ((with_reducible refine gate_callee (f := 12) rfl ?_); (try (refine gate_guard (by rfl) ?_; dsimp only)); refine goesL_ (some 23) rfl rfl Tryd.func12 (by kernel_rfl) rfl #[.slice (some ⟨w.heap.size + 1, 0, none⟩) 1 1, .int .i64 0, .slice none 0 0, .int .i64 1] rfl (by (try simp only [List.map_toArray, List.map_cons, List.map_nil]); first | done | rfl) ?_; (with_reducible refine (HN2.out).mono ?_); rintro e w2 ⟨gn, rfl, D0⟩; have H1 : Aside0 (Calls Tryd.prog 21 #[.pointer (some ⟨gm, 0, none⟩)] _ (fun e w' => e = .returned (.bool true) ∧ Duo gm (km 9).step.1 gn (km 1) W.heap.size W w')) := ⟨by have h := D0.step (kFit 9 (by decide) (by decide)) (Nat.le_refl _); rw [km9.1] at h; exact h⟩; clear D0; refine ⟨_, rfl, ?_⟩)
    | ((with_reducible refine gate_callee (f := 21) rfl ?_); (try (refine gate_guard (by rfl) ?_; dsimp only)); refine goesL_ (some 34) rfl rfl Tryd.func21 (by kernel_rfl) rfl #[.pointer (some ⟨gm, 0, none⟩)] rfl (by (try simp only [List.map_toArray, List.map_cons, List.map_nil]); first | done | rfl) ?_; (with_reducible refine (H1.out).mono ?_); rintro e w3 ⟨rfl, D1⟩; have H2 : Aside0 (Calls Tryd.prog 21 #[.pointer (some ⟨gm, 0, none⟩)] _ (fun e w' => e = .returned (.bool true) ∧ Duo gm (km 9).step.1.step.1 gn (km 1) W.heap.size W w')) := ⟨by have h := D1.step (step_fit (kFit 9 (by decide) (by decide))).1 (Nat.le_refl _); rw [km9.2.1] at h; exact h⟩; clear D1; refine ⟨_, rfl, ?_⟩)
    | ((with_reducible refine gate_callee (f := 21) rfl ?_); (try (refine gate_guard (by rfl) ?_; dsimp only)); refine goesL_ (some 39) rfl rfl Tryd.func21 (by kernel_rfl) rfl #[.pointer (some ⟨gm, 0, none⟩)] rfl (by (try simp only [List.map_toArray, List.map_cons, List.map_nil]); first | done | rfl) ?_; (with_reducible refine (H2.out).mono ?_); rintro e w4 ⟨rfl, D2⟩; have H3 : Aside0 (Calls Tryd.prog 21 #[.pointer (some ⟨gm, 0, none⟩)] _ (fun e w' => e = .returned (.bool false) ∧ Duo gm (km 9).step.1.step.1.step.1 gn (km 1) W.heap.size W w')) := ⟨by have h := D2.step (step_fit (step_fit (kFit 9 (by decide) (by decide))).1).1 (Nat.le_refl _); rw [km9.2.2.1] at h; exact h⟩; clear D2; refine ⟨_, rfl, ?_⟩)
    | ((with_reducible refine gate_callee (f := 21) rfl ?_); (try (refine gate_guard (by rfl) ?_; dsimp only)); refine goesL_ (some 44) rfl rfl Tryd.func21 (by kernel_rfl) rfl #[.pointer (some ⟨gm, 0, none⟩)] rfl (by (try simp only [List.map_toArray, List.map_cons, List.map_nil]); first | done | rfl) ?_; (with_reducible refine (H3.out).mono ?_); rintro e w5 ⟨rfl, D3⟩; have H4 : Aside0 (Calls Tryd.prog 21 #[.pointer (some ⟨gn, 0, none⟩)] _ (fun e w' => e = .returned (.bool true) ∧ Duo gn (km 1).step.1 gm (km 9).step.1.step.1.step.1 W.heap.size W w')) := ⟨by have h := D3.swap.step (kFit 1 (by decide) (by decide)) (Nat.le_refl _); rw [km1.1] at h; exact h⟩; clear D3; refine ⟨_, rfl, ?_⟩)
    | ((with_reducible refine gate_callee (f := 21) rfl ?_); (try (refine gate_guard (by rfl) ?_; dsimp only)); refine goesL_ (some 48) rfl rfl Tryd.func21 (by kernel_rfl) rfl #[.pointer (some ⟨gn, 0, none⟩)] rfl (by (try simp only [List.map_toArray, List.map_cons, List.map_nil]); first | done | rfl) ?_; (with_reducible refine (H4.out).mono ?_); rintro e w6 ⟨rfl, D4⟩; have H5 : Aside0 (Calls Tryd.prog 21 #[.pointer (some ⟨gn, 0, none⟩)] _ (fun e w' => e = .returned (.bool false) ∧ Duo gn (km 1).step.1.step.1 gm (km 9).step.1.step.1.step.1 W.heap.size W w')) := ⟨by have h := D4.step (step_fit (kFit 1 (by decide) (by decide))).1 (Nat.le_refl _); rw [km1.2.1] at h; exact h⟩; clear D4; refine ⟨_, rfl, ?_⟩)
    | ((with_reducible refine gate_callee (f := 21) rfl ?_); (try (refine gate_guard (by rfl) ?_; dsimp only)); refine goesL_ (some 53) rfl rfl Tryd.func21 (by kernel_rfl) rfl #[.pointer (some ⟨gn, 0, none⟩)] rfl (by (try simp only [List.map_toArray, List.map_cons, List.map_nil]); first | done | rfl) ?_; (with_reducible refine (H5.out).mono ?_); rintro e w7 ⟨rfl, D5⟩; have H6 := Aside0.mk (D5.swap.solo.events (Nat.le_of_succ_le (Nat.le_of_succ_le (step_fit (step_fit (step_fit (kFit 9 (by decide) (by decide))).1).1).1.evb))); have D5 := Aside0.mk D5; refine ⟨_, rfl, ?_⟩)
    | ((with_reducible refine gate_callee (f := 16) rfl ?_); (try (refine gate_guard (by rfl) ?_; dsimp only)); refine goesL_ (some 56) rfl rfl Tryd.func16 (by kernel_rfl) rfl #[.pointer (some ⟨gm, 0, none⟩)] rfl (by (try simp only [List.map_toArray, List.map_cons, List.map_nil]); first | done | rfl) ?_; (with_reducible refine (H6.out).mono ?_); rintro e w8 ⟨va, rfl, ha, hb⟩; have D6 := Aside0.mk (D5.out.below (Nat.le_refl _) hb); rw [show ((km 9).step.1.step.1.step.1).events = [(1, 5), (3, 0)] from km9.2.2.2.2.1] at ha; obtain ⟨ka, ca, rfl, hka, xa0, xa1, xa2, xa3⟩ := two_events ha; have H7 := Aside0.mk (D6.out.solo.events (Nat.le_of_succ_le (Nat.le_of_succ_le (step_fit (step_fit (kFit 1 (by decide) (by decide))).1).1.evb))); clear ha hb; refine ⟨_, rfl, ?_⟩)
    | ((with_reducible refine gate_callee (f := 16) rfl ?_); (try (refine gate_guard (by rfl) ?_; dsimp only)); refine goesL_ (some 58) rfl rfl Tryd.func16 (by kernel_rfl) rfl #[.pointer (some ⟨gn, 0, none⟩)] rfl (by (try simp only [List.map_toArray, List.map_cons, List.map_nil]); first | done | rfl) ?_; (with_reducible refine (H7.out).mono ?_); rintro e w9 ⟨vb, rfl, ha, hb⟩; have D7 := Aside0.mk (D6.out.below (Nat.le_refl _) hb); rw [show ((km 1).step.1.step.1).events = [(1, 5), (5, 0)] from km1.2.2.1] at ha; obtain ⟨kb, cb, rfl, hkb, xb0, xb1, xb2, xb3⟩ := two_events ha; have XA := Aside0.mk (And.intro ((hb.cell hka).trans xa0) (And.intro ((hb.cell hka).trans xa1) (And.intro ((hb.cell hka).trans xa2) (Nat.lt_of_lt_of_le hka hb.size)))); have XB := Aside0.mk (And.intro xb2 hkb); clear xa0 xa1 xa2 xa3 xb0 xb1 xb2 xb3 ha hb hka hkb; have H8 : Aside0 (Calls Tryd.prog 18 #[.pointer (some ⟨gm, 0, none⟩)] w9 (fun e w' => e = .returned (.int .i64 2) ∧ Below w9.heap.size w9 w')) := ⟨by have h := D7.out.swap.solo.ticks; rw [km9.2.2.2.1] at h; exact h⟩; refine ⟨_, rfl, ?_⟩)
    | ((with_reducible refine gate_callee (f := 18) rfl ?_); (try (refine gate_guard (by rfl) ?_; dsimp only)); refine goesL_ (some 60) rfl rfl Tryd.func18 (by kernel_rfl) rfl #[.pointer (some ⟨gm, 0, none⟩)] rfl (by (try simp only [List.map_toArray, List.map_cons, List.map_nil]); first | done | rfl) ?_; (with_reducible refine (H8.out).mono ?_); rintro e w10 ⟨rfl, hb⟩; have D8 := Aside0.mk (D7.out.below (Nat.le_refl _) hb); have xa0 := (hb.cell XA.out.2.2.2).trans XA.out.1; have xa1 := (hb.cell XA.out.2.2.2).trans XA.out.2.1; have xa2 := (hb.cell XA.out.2.2.2).trans XA.out.2.2.1; have xb2 := (hb.cell XB.out.2).trans XB.out.1; clear hb; have H9 : Aside0 (Calls Tryd.prog 30 #[.pointer (some ⟨gm, 0, none⟩)] w10 (fun e w' => e = .returned (.bool true) ∧ Below w10.heap.size w10 w')) := ⟨by have h := D8.out.swap.solo.ended; rw [km9.2.2.2.2.2.1] at h; exact h⟩; refine ⟨_, rfl, ?_⟩)
    | ((with_reducible refine gate_callee (f := 30) rfl ?_); (try (refine gate_guard (by rfl) ?_; dsimp only)); refine goesL_ (some 95) rfl rfl Tryd.func30 (by kernel_rfl) rfl #[.pointer (some ⟨gm, 0, none⟩)] rfl (by (try simp only [List.map_toArray, List.map_cons, List.map_nil]); first | done | rfl) ?_; (with_reducible refine (H9.out).mono ?_); rintro e w11 ⟨rfl, hb⟩; have D9 := Aside0.mk (D8.out.below (Nat.le_refl _) hb); clear hb; have H10 : Aside0 (Calls Tryd.prog 20 #[.pointer (some ⟨gm, 0, none⟩)] w11 (fun e w' => e = .returned (.int .i64 0) ∧ Below w11.heap.size w11 w')) := ⟨by have h := D9.out.swap.solo.frames; rw [km9.2.2.2.2.2.2] at h; exact h⟩; refine ⟨_, rfl, ?_⟩)
    | ((with_reducible refine gate_callee (f := 20) rfl ?_); (try (refine gate_guard (by rfl) ?_; dsimp only)); refine goesL_ (some 99) rfl rfl Tryd.func20 (by kernel_rfl) rfl #[.pointer (some ⟨gm, 0, none⟩)] rfl (by (try simp only [List.map_toArray, List.map_cons, List.map_nil]); first | done | rfl) ?_; (with_reducible refine (H10.out).mono ?_); rintro e w12 ⟨rfl, hb⟩; have D10 := Aside0.mk (D9.out.below (Nat.le_refl _) hb); clear hb; have H11 : Aside0 (Calls Tryd.prog 20 #[.pointer (some ⟨gn, 0, none⟩)] w12 (fun e w' => e = .returned (.int .i64 1) ∧ Below w12.heap.size w12 w')) := ⟨by have h := D10.out.solo.frames; rw [km1.2.2.2] at h; exact h⟩; refine ⟨_, rfl, ?_⟩)
    | ((with_reducible refine gate_callee (f := 20) rfl ?_); (try (refine gate_guard (by rfl) ?_; dsimp only)); refine goesL_ (some 104) rfl rfl Tryd.func20 (by kernel_rfl) rfl #[.pointer (some ⟨gn, 0, none⟩)] rfl (by (try simp only [List.map_toArray, List.map_cons, List.map_nil]); first | done | rfl) ?_; (with_reducible refine (H11.out).mono ?_); rintro e w13 ⟨rfl, hb⟩; have HF : Aside0 (Below w.heap.size w w13) := ⟨by obtain ⟨_, _, _, _, _, _, _, _, _, _, _, _, h9⟩ := D10.out; exact HBW.out.trans ((h9.trans (hb.mono h9.size)).mono HBW.out.size)⟩; clear hb; refine ⟨_, rfl, ?_⟩))
  go_ret
  exact ⟨rfl, HF.out⟩
end Go.Proofs.YthckiolgpgplpaaDoor
end
section
namespace Go.Proofs.YthckiolgpgplpaaDoor
open Go.RowKit Go.Proofs.YthckiolgpgplpaaDoorW.PrintWords Go.Proofs.YthckiolgpgplpaaDoorW.PrintLast Go.Proofs.YthckiolgpgplpaaDoorW.PrintMore Go.Proofs.YthckiolgpgplpaaDoor.P Go.Proofs.YthckiolgpgplpaaDoor.Q
set_option linter.unusedVariables false
set_option linter.unusedSimpArgs false
set_option maxRecDepth 1000000
set_option maxHeartbeats 2000000
theorem step_same {m : Mc} (h : m.ended = true) : m.step = (m, false) := by unfold Mc.step; rw [if_pos h]
theorem evs_at (l : List (Int × Int)) (j : Nat) (hj : j < l.length) : (evs l)[j * 2]? = some (.int .i64 (l[j]).1) := by
  induction l generalizing j with
  | nil => cases hj
  | cons e l ih =>
    cases j with
    | zero => rfl
    | succ j =>
      have := ih j (by simpa using hj)
      simpa [evs, Nat.add_mul] using this
/-- A row of events that is read: the kinds. -/
theorem kinds_at {w : World} {v : Value} {l : List (Int × Int)} (h : w.ownsRow 0 38 2 v l.length (evs l)) (h0 : 0 < l.length) : ∃ ad cap, v = .slice (some ad) l.length cap ∧ ad.block < w.heap.size ∧ ∀ (j : Nat) (hj : j < l.length), w.cell? (ad.add (j * 2)) = some (.int .i64 (l[j]).1) := by
  rcases h.2 with ⟨_, he⟩ | ⟨k, cap, cur, rfl, _, hh, _⟩
  · omega
  · refine ⟨_, cap, rfl, blk_lt hh, fun j hj => ?_⟩
    exact h.cells (g := k) rfl (j * 2) _ (evs_at l j hj)
theorem kinds_told {w : World} {v : Value} {M : Mc} (T : Told M) (he : M.ended = true) (h : w.ownsRow 0 38 2 v M.events.length (evs M.events)) : ∃ ad cap, v = .slice (some ad) M.events.length cap ∧ 0 < M.events.length ∧ ad.block < w.heap.size ∧ ∀ (j : Nat), j < M.events.length → ∃ kd, w.cell? (ad.add (j * 2)) = some (.int .i64 kd) ∧ (j + 1 = M.events.length → 3 ≤ kd) ∧ (j + 1 ≠ M.events.length → kd < 3) := by
  obtain ⟨l, x, hl, h1, h2⟩ := T.last he
  have hn : M.events.length = l.length + 1 := by rw [hl]; simp
  obtain ⟨ad, cap, rfl, h3, h4⟩ := kinds_at h (by omega)
  refine ⟨ad, cap, rfl, by omega, h3, fun j hj => ⟨_, h4 j hj, fun e => ?_, fun e => ?_⟩⟩
  · have : M.events[j] = x := by
      have hj2 : j = l.length := by omega
      subst hj2
      simp [hl]
    rw [this]; exact h2
  · have : M.events[j] = l[j]'(by omega) := by
      simp only [hl]
      exact List.getElem_append_left (by omega)
    rw [this]; exact h1 _ (List.getElem_mem _)
theorem ends_facts {l : List S46} {main : Int} {input : List Int} {fuel : Int} (hf : FitC l) (hS : SoundP l main) (hf0 : 0 ≤ fewP fuel) (hf1 : fewP fuel ≤ 200) (hi : input.length ≤ 200) :
    ∃ (f : Nat) (M : Mc), parallaxlaw09_few.f fuel = some (f : Int) ∧ f ≤ 200 ∧ fewP fuel = f ∧ (∀ g B w0 w1, B ≤ w0.heap.size → Solo g ((mc0 l input (fewP fuel)).beginM main []) B w0 w1 → Calls Tryd.prog 15 #[.pointer (some ⟨g, 0, none⟩), .int .i64 (f : Int)] w1 (fun e w2 => e = .returned (.bool true) ∧ Solo g M B w0 w2)) ∧ Fit M ∧ Told M ∧ M.ended = true ∧ M.ticks ≤ f := by
  have F : Fit ((mc0 l input (fewP fuel)).beginM main []) := fit_new hS (by omega) hf0 (by omega)
  have T := told_new l input main (fewP fuel)
  obtain ⟨f, hF⟩ : ∃ f : Nat, fewP fuel = f := ⟨(fewP fuel).toNat, by omega⟩
  have hE := endP_ends (f + 1) T F (by show fewP fuel < _; omega)
  obtain ⟨T2, h2⟩ := endP_told (f + 1) T
  have F2 := (endP_fit (f + 1) F).1
  refine ⟨f, (((mc0 l input (fewP fuel)).beginM main []).endP (f + 1)).1, by rw [few_f, hF], by omega, hF, fun g B w0 w1 hB S => ?_, F2, T2, hE.2, ?_⟩
  · have h := S.end_ F hB f (by omega)
    rw [hE.1] at h
    exact h
  · have := F2.good.fuel.1
    have h3 : ((mc0 l input (fewP fuel)).beginM main []).ticks + ((mc0 l input (fewP fuel)).beginM main []).fuel = fewP fuel := by show 0 + fewP fuel = _; omega
    omega
theorem vmEnds_calls (A0 : Option Addr) (c0 : Nat) (l : List S46) (main : Int) (A2 : Option Addr) (c2 : Nat) (input : List Int) (fuel : Int) (w : World) (hLd : Laid w) (hl : Kd.C k46 w A0 l.length l) (hc : l.length ≤ c0) (hin : Kd.C (Kd.int .i64) w A2 input.length input) (hc2 : input.length ≤ c2)
    (g0 : l.length * 48 ≤ 140737488351232 ∧ ∀ x ∈ l, ((x.f0.length * 24 ≤ 140737488351232 ∧ ∀ y3 ∈ x.f0, ((Lit.int .i64 y3.f0).wf = true ∧ ((Lit.int .i64 y3.f1).wf = true ∧ (Lit.int .i64 y3.f2).wf = true))) ∧ ((Lit.int .i64 x.f1).wf = true ∧ ((Lit.int .i64 x.f2).wf = true ∧ True))))
    (_ : (Lit.int .i64 main).wf = true) (_ : input.length * 8 ≤ 140737488351232 ∧ ∀ x ∈ input, (Lit.int .i64 x).wf = true) (_ : (Lit.int .i64 fuel).wf = true) :
    Calls Tryd.prog 5 #[.slice A0 l.length c0, .int .i64 main, .slice A2 input.length c2, .int .i64 fuel] w fun e w' => e = .returned (.bool true) ∧ Below w.heap.size w w' := by
  have HBO := Aside0.mk (both_law w A0 A2 c0 c2 l input main fuel hl hc hLd (fun x hx y hy => (g0.2 x hx).1.2 y hy) hin hc2 (by omega) (fun x hx => by have := (g0.2 x hx).1.1; omega))
  have HLD := Aside0.mk hLd
  have HFC : Aside0 (FitC l) := ⟨fun x hx y hy => (g0.2 x hx).1.2 y hy⟩
  clear hl hc hin hLd g0
  go_enter Tryd.func5, Tryd.ntmps5
  go_wp2_with (first
    | ((with_reducible refine gate_callee (f := 10) rfl ?_); (try (refine gate_guard (by rfl) ?_; dsimp only)); refine goesL_ (some 22) rfl rfl Tryd.func10 (by kernel_rfl) rfl #[.slice A0 l.length c0, .int .i64 main, .slice A2 input.length c2, .int .i64 fuel] rfl (by (try simp only [List.map_toArray, List.map_cons, List.map_nil]); first | done | rfl) ?_; (with_reducible refine (HBO.out).mono ?_); rintro e w1 ⟨hb, h⟩; rcases h with rfl | ⟨gm, gr, b, rfl, S0, hS, hf0, hf1, hi⟩; rotate_left; obtain ⟨f, M, hF, hf2, hF2, hE, hM, hT, hen, hti⟩ := ends_facts HFC.out hS hf0 hf1 hi; have HF := Aside0.mk hF; have HE := Aside0.mk (fun W => hE gm w.heap.size w W (Nat.le_refl _)); have S0 := Aside0.mk S0; obtain ⟨n, hn⟩ : ∃ n, n = M.events.length := ⟨_, rfl⟩; have hnb : n ≤ 4398046511104 := (by have := hM.evb; omega); have HN := Aside0.mk hn; clear hn;  have HM := Aside0.mk hM; have HT := Aside0.mk hT; have HEN := Aside0.mk hen; have hfb : (f : Int) ≤ 200 := (by omega); obtain ⟨TK, hTK⟩ : ∃ TK, TK = M.ticks := ⟨_, rfl⟩; have HTK := Aside0.mk hTK; rw [← hTK] at hti; have hx : decide ((f : Int) < TK) = false := decide_eq_false (by omega); have HB := Aside0.mk hb; clear hb hS hf0 hf1 hi hF hf2 hF2 hE hM hT hen hti hTK; refine ⟨_, rfl, ?_⟩; rotate_left; have HB := Aside0.mk hb; clear hb; refine ⟨_, rfl, ?_⟩)
    | ((with_reducible refine gate_callee (f := 11) rfl ?_); (try (refine gate_guard (by rfl) ?_; dsimp only)); refine goesL_ (some 35) rfl rfl Tryd.func11 (by kernel_rfl) rfl #[] rfl (by (try simp only [List.map_toArray, List.map_cons, List.map_nil]); first | done | rfl) ?_; (with_reducible refine (known_law _ (HLD.out.below HB.out)).mono ?_); rintro e w9 ⟨rfl, hb⟩; have HZ : Aside0 (Below w.heap.size w w9) := ⟨HB.out.trans (hb.mono HB.out.size)⟩; clear hb; refine ⟨_, rfl, ?_⟩)
    | ((with_reducible refine gate_callee (f := 13) rfl ?_); (try (refine gate_guard (by rfl) ?_; dsimp only)); refine goesL_ (some 39) rfl rfl Tryd.func13 (by kernel_rfl) rfl #[.int .i64 fuel] rfl (by (try simp only [List.map_toArray, List.map_cons, List.map_nil]); first | done | rfl) ?_; (with_reducible refine (parallaxlaw09_few.calls fuel _ _ HF.out).mono ?_); rintro e w2 ⟨rfl, nd2, rfl⟩; have S0 := Aside0.mk (S0.out.on (pw_below_drewN (Below.refl _ _) nd2)); refine ⟨_, rfl, ?_⟩)
    | ((with_reducible refine gate_callee (f := 15) rfl ?_); (try (refine gate_guard (by rfl) ?_; dsimp only)); refine goesL_ (some 40) rfl rfl Tryd.func15 (by kernel_rfl) rfl #[.pointer (some ⟨gm, 0, none⟩), .int .i64 (f : Int)] rfl (by (try simp only [List.map_toArray, List.map_cons, List.map_nil]); first | done | rfl) ?_; (with_reducible refine (HE.out _ S0.out).mono ?_); rintro e w3 ⟨rfl, S1⟩; have S1 := Aside0.mk S1; refine ⟨_, rfl, ?_⟩)
    | (have HT18 : Aside0 (Calls Tryd.prog 18 #[.pointer (some ⟨gm, 0, none⟩)] _ (fun e w' => e = .returned (.int .i64 TK) ∧ Below _ _ w')) := ⟨by rw [HTK.out]; exact S1.out.ticks⟩; (with_reducible refine gate_callee (f := 18) rfl ?_); (try (refine gate_guard (by rfl) ?_; dsimp only)); refine goesL_ (some 44) rfl rfl Tryd.func18 (by kernel_rfl) rfl #[.pointer (some ⟨gm, 0, none⟩)] rfl (by (try simp only [List.map_toArray, List.map_cons, List.map_nil]); first | done | rfl) ?_; (with_reducible refine (HT18.out).mono ?_); rintro e w4 ⟨rfl, hb⟩; have S1 := Aside0.mk (S1.out.on hb); clear hb; refine ⟨_, rfl, ?_⟩)
    | ((with_reducible refine gate_callee (f := 13) rfl ?_); (try (refine gate_guard (by rfl) ?_; dsimp only)); refine goesL_ (some 46) rfl rfl Tryd.func13 (by kernel_rfl) rfl #[.int .i64 fuel] rfl (by (try simp only [List.map_toArray, List.map_cons, List.map_nil]); first | done | rfl) ?_; (with_reducible refine (parallaxlaw09_few.calls fuel _ _ HF.out).mono ?_); rintro e w5 ⟨rfl, nd5, rfl⟩; have S1 := Aside0.mk (S1.out.on (pw_below_drewN (Below.refl _ _) nd5)); refine ⟨_, rfl, ?_⟩)
    | ((with_reducible refine gate_callee (f := 16) rfl ?_); (try (refine gate_guard (by rfl) ?_; dsimp only)); refine goesL_ (some 50) rfl rfl Tryd.func16 (by kernel_rfl) rfl #[.pointer (some ⟨gm, 0, none⟩)] rfl (by (try simp only [List.map_toArray, List.map_cons, List.map_nil]); first | done | rfl) ?_; (with_reducible refine (S1.out.events (by have := HM.out.evb; omega)).mono ?_); rintro e w6 ⟨va, rfl, ha, hb⟩; have S1 := Aside0.mk (S1.out.on hb); obtain ⟨ad, cap, rfl, hn0, had, hkd⟩ := kinds_told HT.out HEN.out ha; rw [← HN.out] at hn0 hkd ⊢; have HK := Aside0.mk hkd; have HAD := Aside0.mk had; obtain ⟨FR, hFR⟩ : ∃ FR, FR = M.frames.length := ⟨_, rfl⟩; have HFR := Aside0.mk hFR; clear ha hb hkd had hFR; refine ⟨_, rfl, ?_⟩))
  · go_ret
    exact ⟨rfl, HZ.out⟩
  · go_loopg [14] n (fun gk v14 W => ∃ (x : Nat), v14 = .int .i64 (x : Int) ∧ Aside0 (gk + x = n) ∧ Aside0 (Below w6.heap.size w6 W))
    case atStart => exact ⟨0, rfl, ⟨rfl⟩, ⟨Below.refl _ _⟩⟩
    case round =>
      obtain ⟨x, rfl, A1, A2⟩ := hrel
      rcases Nat.eq_zero_or_pos gk with h0 | h0
      · have S1 := Aside0.mk (S1.out.on A2.out)
        have hxn : decide (x < n) = false := decide_eq_false (by have := A1.out; omega)
        clear h0
        go_wp2_with (first
          | (have HT18 : Aside0 (Calls Tryd.prog 18 #[.pointer (some ⟨gm, 0, none⟩)] _ (fun e w' => e = .returned (.int .i64 TK) ∧ Below _ _ w')) := ⟨by rw [HTK.out]; exact S1.out.ticks⟩; (with_reducible refine gate_callee (f := 18) rfl ?_); (try (refine gate_guard (by rfl) ?_; dsimp only)); refine goesL_ (some 70) rfl rfl Tryd.func18 (by kernel_rfl) rfl #[.pointer (some ⟨gm, 0, none⟩)] rfl (by (try simp only [List.map_toArray, List.map_cons, List.map_nil]); first | done | rfl) ?_; (with_reducible refine (HT18.out).mono ?_); rintro e w8 ⟨rfl, hb⟩; have S1 := Aside0.mk (S1.out.on hb); clear hb; refine ⟨_, rfl, ?_⟩)
          | (have HT20 : Aside0 (Calls Tryd.prog 20 #[.pointer (some ⟨gm, 0, none⟩)] _ (fun e w' => e = .returned (.int .i64 (FR : Nat)) ∧ Below _ _ w')) := ⟨by rw [HFR.out]; exact S1.out.frames⟩; (with_reducible refine gate_callee (f := 20) rfl ?_); (try (refine gate_guard (by rfl) ?_; dsimp only)); refine goesL_ (some 72) rfl rfl Tryd.func20 (by kernel_rfl) rfl #[.pointer (some ⟨gm, 0, none⟩)] rfl (by (try simp only [List.map_toArray, List.map_cons, List.map_nil]); first | done | rfl) ?_; (with_reducible refine (HT20.out).mono ?_); rintro e w9 ⟨rfl, hb⟩; have S1 := Aside0.mk (S1.out.on hb); clear hb; refine ⟨_, rfl, ?_⟩)
          | (have HT21 : Aside0 (Calls Tryd.prog 21 #[.pointer (some ⟨gm, 0, none⟩)] _ (fun e w' => e = .returned (.bool false) ∧ Solo gm M w.heap.size w w')) := ⟨by have h := S1.out.step HM.out (Nat.le_refl _); rw [step_same HEN.out] at h; exact h⟩; (with_reducible refine gate_callee (f := 21) rfl ?_); (try (refine gate_guard (by rfl) ?_; dsimp only)); refine goesL_ (some 78) rfl rfl Tryd.func21 (by kernel_rfl) rfl #[.pointer (some ⟨gm, 0, none⟩)] rfl (by (try simp only [List.map_toArray, List.map_cons, List.map_nil]); first | done | rfl) ?_; (with_reducible refine (HT21.out).mono ?_); rintro e w10 ⟨rfl, S1⟩; have S1 := Aside0.mk S1; refine ⟨_, rfl, ?_⟩)
          | (have HT18 : Aside0 (Calls Tryd.prog 18 #[.pointer (some ⟨gm, 0, none⟩)] _ (fun e w' => e = .returned (.int .i64 TK) ∧ Below _ _ w')) := ⟨by rw [HTK.out]; exact S1.out.ticks⟩; (with_reducible refine gate_callee (f := 18) rfl ?_); (try (refine gate_guard (by rfl) ?_; dsimp only)); refine goesL_ (some 83) rfl rfl Tryd.func18 (by kernel_rfl) rfl #[.pointer (some ⟨gm, 0, none⟩)] rfl (by (try simp only [List.map_toArray, List.map_cons, List.map_nil]); first | done | rfl) ?_; (with_reducible refine (HT18.out).mono ?_); rintro e w11 ⟨rfl, hb⟩; have S1 := Aside0.mk (S1.out.on hb); clear hb; refine ⟨_, rfl, ?_⟩)
          | (have HT20 : Aside0 (Calls Tryd.prog 20 #[.pointer (some ⟨gm, 0, none⟩)] _ (fun e w' => e = .returned (.int .i64 (FR : Nat)) ∧ Below _ _ w')) := ⟨by rw [HFR.out]; exact S1.out.frames⟩; (with_reducible refine gate_callee (f := 20) rfl ?_); (try (refine gate_guard (by rfl) ?_; dsimp only)); refine goesL_ (some 89) rfl rfl Tryd.func20 (by kernel_rfl) rfl #[.pointer (some ⟨gm, 0, none⟩)] rfl (by (try simp only [List.map_toArray, List.map_cons, List.map_nil]); first | done | rfl) ?_; (with_reducible refine (HT20.out).mono ?_); rintro e w12 ⟨rfl, hb⟩; have S1 := Aside0.mk (S1.out.on hb); clear hb; refine ⟨_, rfl, ?_⟩)
          | (have HT22 : Aside0 (Calls Tryd.prog 22 #[.pointer (some ⟨gm, 0, none⟩)] _ (fun e w' => e = .returned (.int .i64 (n : Nat)) ∧ Below _ _ w')) := ⟨by rw [HN.out]; exact S1.out.count⟩; (with_reducible refine gate_callee (f := 22) rfl ?_); (try (refine gate_guard (by rfl) ?_; dsimp only)); refine goesL_ (some 95) rfl rfl Tryd.func22 (by kernel_rfl) rfl #[.pointer (some ⟨gm, 0, none⟩)] rfl (by (try simp only [List.map_toArray, List.map_cons, List.map_nil]); first | done | rfl) ?_; (with_reducible refine (HT22.out).mono ?_); rintro e w13 ⟨rfl, hb⟩; have S1 := Aside0.mk (S1.out.on hb); clear hb; refine ⟨_, rfl, ?_⟩)
          | ((with_reducible refine gate_callee (f := 11) rfl ?_); (try (refine gate_guard (by rfl) ?_; dsimp only)); refine goesL_ (some 101) rfl rfl Tryd.func11 (by kernel_rfl) rfl #[] rfl (by (try simp only [List.map_toArray, List.map_cons, List.map_nil]); first | done | rfl) ?_; (with_reducible refine (known_law _ (HLD.out.below S1.out.low)).mono ?_); rintro e w15 ⟨rfl, hb⟩; have HZ : Aside0 (Below w.heap.size w w15) := ⟨S1.out.low.trans (hb.mono S1.out.low.size)⟩; clear hb; refine ⟨_, rfl, ?_⟩))
        go_ret
        exact ⟨rfl, HZ.out⟩
      · obtain ⟨gk, rfl⟩ : ∃ j, gk = j + 1 := ⟨gk - 1, by omega⟩
        have hxl : x < n := by have := A1.out; omega
        have hxn : decide (x < n) = true := decide_eq_true hxl
        obtain ⟨kd, hc, hq1, hq2⟩ := HK.out x hxl
        have hc := (World.block_lt_of_cell? _ _ hc |> A2.out.cell).trans hc
        have p1 := eq_true (show (0 : Int) ≤ (x : Int) by omega); have p2 := eq_true (show (x : Int) < (n : Int) by omega)
        by_cases hl : x + 1 = n
        · have e1 : decide (3 ≤ kd) = true := decide_eq_true (hq1 hl)
          have e2 : ((x : Int) == (n : Int) - 1) = true := beq_iff_eq.2 (by omega)
          clear hq1 hq2 hl
          go_wp2
          go_roundg gk
          case measure => omega
          case rel => exact ⟨x + 1, by go_num, ⟨by have := A1.out; omega⟩, A2⟩
        · have e1 : decide (3 ≤ kd) = false := decide_eq_false (by have := hq2 hl; omega)
          have e2 : ((x : Int) == (n : Int) - 1) = false := beq_eq_false_iff_ne.2 (by omega)
          clear hq1 hq2 hl
          go_wp2
          go_roundg gk
          case measure => omega
          case rel => exact ⟨x + 1, by go_num, ⟨by have := A1.out; omega⟩, A2⟩
  · go_ret
    exact ⟨rfl, HZ.out⟩
end Go.Proofs.YthckiolgpgplpaaDoor
end
