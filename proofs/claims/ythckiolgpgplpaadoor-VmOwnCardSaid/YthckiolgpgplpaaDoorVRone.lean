/- The walk of the document's machine's instruction. -/
import Derived.Test.YthckiolgpgplpaaDoorVM1
namespace Go.Proofs.YthckiolgpgplpaaDoor
open Go.RowKit YC YA YB YD
set_option linter.unusedVariables false
set_option linter.unusedSimpArgs false
set_option maxRecDepth 1000000
set_option maxHeartbeats 1000000
theorem field_takes (r1 : ByteArray) (r2 T r4 : Int) (W : World) : (Instr.field 94 (.agg #[.string r1, .int .i64 r2, .int .i64 T, .int .i64 r4]) 2).run Tryd.prog W = .ok (.int .i64 T) W := by kernel_rfl
section
variable {Rd : Nat → Prop} {w : World} {o : RMo} {m : Mc}
theorem rins_at (H : ROn Rd w o m) {r : List Fr} {f : Fr} (F : Fits m r f) : ∃ ad cc bd c0, o.cv = .slice (some ad) m.codes.length cc ∧ w.cell? (ad.add (f.pr.toNat * 4)) = some (.slice (some bd) (au m.codes f.pr).f0.length c0) ∧
  w.cell? (bd.add (f.at_.toNat * 3)) = some (.int .i64 (m.ins f).f0) ∧ w.cell? ⟨(bd.add (f.at_.toNat * 3)).block, (bd.add (f.at_.toNat * 3)).off + 1, none⟩ = some (.int .i64 (m.ins f).f1) ∧ w.cell? ⟨(bd.add (f.at_.toNat * 3)).block, (bd.add (f.at_.toNat * 3)).off + 2, none⟩ = some (.int .i64 (m.ins f).f2) := by
 obtain ⟨A, cc, hcv, hcl, HF⟩ := H.cs
 obtain ⟨ad, A0, c0, rfl, hx0, hx1, hx2, hx3, hl0, hi0⟩ := eZ (Kd.oL HF) f.pr F.pr.1 F.pr.2
 obtain ⟨bd, rfl, hy0, hy1, hy2⟩ := jW hi0 f.at_ F.at_.1 F.at_.2
 exact ⟨ad, cc, bd, c0, hcv, hx0, hy0, hy1, hy2⟩
/-- Ways that meet again: what follows is shown once. -/
theorem oZ {F G : Option Addr → Nat → Nat → World → Prop} {R : Prop} (reg : aa (∀ a n c w, F a n c w → G a n c w) → R) (cont : ∀ a n c w, F a n c w → G a n c w) : R := reg ⟨cont⟩
theorem oF {w : World} {fb cap n : Nat} {hs0 : List RHo} {h : RHo} {r : List Fr} {f : Fr} (hrow : w.ownsRow 0 80 5 (.slice (some ⟨fb, 0, none⟩) (n + 1) cap) (n + 1) (gM hs0 r ++ eX h f)) (hX : (gM hs0 r).length = n * 5) {j : Nat} {u : Value} (hj : (eX h f)[j]? = some u) :
  w.cell? ⟨fb, n * 5 + j, none⟩ = some u ∧ w.frozen? ⟨fb, n * 5 + j, none⟩ = false := mq hrow (by rw [List.getElem?_append_right (by omega), show n * 5 + j - (gM hs0 r).length = j by omega]; exact hj)
theorem iH {mm : Mc} {b : Bool} {e : Ending} {w' : World} (hone : m.rone = (mm, b)) (he : e = .returned (.bool b)) (h : iw Rd w o mm w') : e = .returned (.bool m.rone.2) ∧ iw Rd w o m.rone.1 w' := by rw [hone]; exact ⟨he, h⟩
set_option maxHeartbeats 8000000 in
theorem rone_on (H : ROn Rd w o m) {r : List Fr} {f : Fr} (F : Fits m r f) (hR : ∀ x ∈ f.stack, In64 x) :
  Calls Tryd.prog 43 #[o.ptr] w (fun e w' => e = .returned (.bool m.rone.2) ∧ iw Rd w o m.rone.1 w') := by
 obtain ⟨hs0, h, hho, hhl⟩ := H.split F.fr
 have HFR := H.top hho F.fr
 obtain ⟨fb, cap, hfv, hc1, hc2, hrow, hX⟩ := jA H hho F.fr
 obtain ⟨ad, cc, bd, c0, hcv, hx0, hy0, hy1, hy2⟩ := rins_at H F
 obtain ⟨n, hn⟩ : ∃ n, n = r.length := ⟨_, rfl⟩
 rw [← hn] at hfv hc1 hrow hX
 rw [hfv] at hrow
 obtain ⟨L1, hL1⟩ : ∃ L1, L1 = n + 1 := ⟨_, rfl⟩
 have e1 : IntKind.i64.wrap ((L1 : Int) - 1) = (n : Int) := by have := F.deep; rw [IntWalk.i64_in _ (by omega)]; omega
 have e6 : (0 : Int) ≤ (n : Int) := by omega
 have e7 : (n : Int) < (L1 : Int) := by omega
 obtain ⟨q, hq⟩ : ∃ q, q = m.ins f := ⟨_, rfl⟩
 rw [← hq] at hy0 hy1 hy2
 obtain ⟨op, N1, M1⟩ := q
 simp only at hy0 hy1 hy2
 obtain ⟨IL, hIL⟩ : ∃ IL, IL = (au m.codes f.pr).f0.length := ⟨_, rfl⟩
 rw [← hIL] at hx0
 have p1 := eq_true F.pr.1; have p2 := eq_true F.pr.2; have p3 := eq_true F.at_.1; have p4 := eq_true F.at_.2
 rw [← hIL] at p4
 have z1 : w.cell? ⟨o.g, 1, none⟩ = some (.slice (some ⟨fb, 0, none⟩) L1 cap) := by rw [ae H.blk 1, hL1, ← hfv]; rfl
 have HH := aa.mk H; have HF := aa.mk F; have HQ := aa.mk hq; have HHO := aa.mk hho; have HL1 := aa.mk hL1; have HN1 := aa.mk hn; have HIL := aa.mk hIL; have HHL := aa.mk hhl; have HROW := aa.mk hrow; have HXX := aa.mk hX; have HFRT := aa.mk HFR; have HRR := aa.mk hR; have HFV := aa.mk hfv; have HCV := aa.mk hcv
 clear H F hq hho hL1 hn hIL hhl hrow hX HFR hfv hcv hR
 show Calls Tryd.prog 43 #[.pointer (some ⟨o.g, 0, none⟩)] w _
 go_enter Tryd.func43, Tryd.ntmps43
 go_wp2
 go_region_held3 (fun W => W.cell? ⟨o.g, 1, none⟩ = some (.slice (some ⟨fb, 0, none⟩) L1 cap)) (first | exact (by assumption) | go_keep) (skip)
 obtain ⟨K, hK⟩ : ∃ K, K = n * 5 := ⟨_, rfl⟩
 rw [← hK]
 have fc : ∀ {j : Nat} {u : Value}, (eX h f)[j]? = some u → w.cell? ⟨fb, K + j, none⟩ = some u ∧ w.frozen? ⟨fb, K + j, none⟩ = false := fun hj => by rw [hK]; exact oF HROW.out HXX.out hj
 have y0 : w.drew.drew.cell? ⟨o.g, 0, none⟩ = some (.slice (some ad) m.codes.length cc) := by rw [ae HH.out.drew.drew.blk 0, ← HCV.out]; rfl
 have y1 : w.drew.drew.cell? ⟨fb, K, none⟩ = some (.int .i64 f.pr) := (fc (j := 0) rfl).1
 have y2 : w.drew.drew.cell? ⟨fb, K + 1, none⟩ = some (.int .i64 f.at_) := (fc (j := 1) rfl).1
 have x0 : w.drew.drew.cell? (ad.add (f.pr.toNat * 4)) = some (.slice (some bd) IL c0) := hx0
 have v0 : w.drew.drew.cell? (bd.add (f.at_.toNat * 3)) = some (.int .i64 op) := hy0
 have v1 : w.drew.drew.cell? ⟨(bd.add (f.at_.toNat * 3)).block, (bd.add (f.at_.toNat * 3)).off + 1, none⟩ = some (.int .i64 N1) := hy1
 have v2 : w.drew.drew.cell? ⟨(bd.add (f.at_.toNat * 3)).block, (bd.add (f.at_.toNat * 3)).off + 2, none⟩ = some (.int .i64 M1) := hy2
 have g0 : w.cell? ⟨o.g, 0, none⟩ = some (.slice (some ad) m.codes.length cc) := y0
 have g1 : w.cell? ⟨fb, K, none⟩ = some (.int .i64 f.pr) := y1
 have g2 : w.cell? ⟨fb, K + 1, none⟩ = some (.int .i64 f.at_) := y2
 have FC := aa.mk (@fc); have HKK := aa.mk hK
 clear fc hK z1
 go_wp2
 have nb0 := World.new_ne w _ g0; have nb1 := World.new_ne w _ g1; have nb2 := World.new_ne w _ g2; have nb3 := World.new_ne w _ hx0; have nb4 := World.new_ne w _ hy0; have nb5 := World.new_ne w _ hy1; have nb6 := World.new_ne w _ hy2
 go_region_held3 (fun W => W.cell? ⟨o.g, 0, none⟩ = some (.slice (some ad) m.codes.length cc) ∧ W.cell? ⟨fb, K, none⟩ = some (.int .i64 f.pr) ∧ W.cell? ⟨fb, K + 1, none⟩ = some (.int .i64 f.at_) ∧ W.cell? (ad.add (f.pr.toNat * 4)) = some (.slice (some bd) IL c0) ∧ W.cell? (bd.add (f.at_.toNat * 3)) = some (.int .i64 op) ∧ W.cell? ⟨(bd.add (f.at_.toNat * 3)).block, (bd.add (f.at_.toNat * 3)).off + 1, none⟩ = some (.int .i64 N1) ∧ W.cell? ⟨(bd.add (f.at_.toNat * 3)).block, (bd.add (f.at_.toNat * 3)).off + 2, none⟩ = some (.int .i64 M1)) (first | exact ⟨y0, y1, y2, x0, v0, v1, v2⟩ | go_keep) (skip)
 obtain ⟨gb, hgb⟩ : ∃ gb, gb = w.heap.size := ⟨_, rfl⟩
 obtain ⟨w3, hw3⟩ : ∃ w3, w3 = (w.alloc (.cells #[.int .i64 op, .int .i64 N1, .int .i64 M1] 43)).drew.drew := ⟨_, rfl⟩
 have B3 : w3.heap[gb]? = some (.cells #[.int .i64 op, .int .i64 N1, .int .i64 M1] 43 (0, 0)) := by rw [hw3, hgb]; exact bW w _
 have M3 : Mod (fun _ => False) w w3 := by rw [hw3]; exact ((Mod.refl _ w).alloc _).drew.drew
 rw [← hgb, ← hw3]
 have H3 : ROn Rd w3 o m := HH.out.mod M3 (fun _ _ h => h)
 have hgf : gb ∉ o.own := fun e => by have := HH.out.lt gb e; omega
 clear nb0 nb1 nb2 nb3 nb4 nb5 nb6 y0 y1 y2 x0 v0 v1 v2 hx0 hy0 hy1 hy2 g0 g1 g2 p1 p2 p3 p4 e6 e7
 have HW3 := aa.mk hw3; have HGB := aa.mk hgb; clear hw3 hgb
 have HR3 : aa (w3.ownsRow 0 80 5 (.slice (some ⟨fb, 0, none⟩) (n + 1) cap) (n + 1) (gM hs0 r ++ eX h f)) := ⟨bZ HROW.out (fun k e => M3.block k (HROW.out.lt k e).2 (fun h => h))⟩
 have a3 : w3.cell? ⟨fb, K + 1, none⟩ = some (.int .i64 f.at_) := by rw [HKK.out]; exact (oF HR3.out HXX.out (j := 1) rfl).1
 have a3f : w3.frozen? ⟨fb, K + 1, none⟩ = false := by rw [HKK.out]; exact (oF HR3.out HXX.out (j := 1) rfl).2
 have e3 : IntKind.i64.wrap (f.at_ + 1) = f.at_ + 1 := IntWalk.i64_in _ (by have := HF.out.at_.1; have := HF.out.at2; omega)
 have H4 := H3.putF (K := K) (f' := { f with at_ := f.at_ + 1 }) (vs' := h.vs) HHO.out HF.out.fr HFV.out (by rw [HKK.out, HN1.out]) 1 (.int .i64 (f.at_ + 1)) rfl (fun k e => e) ⟨(H3.top HHO.out HF.out.fr).cs, (H3.top HHO.out HF.out.fr).st⟩
 rw [show ({ o with hs := hs0 ++ [{ h with vs := h.vs }] } : RMo) = o by rw [show ({ h with vs := h.vs } : RHo) = h from rfl, ← HHO.out]] at H4
 obtain ⟨f1, hf1⟩ : ∃ f1 : Fr, f1 = { f with at_ := f.at_ + 1 } := ⟨_, rfl⟩
 obtain ⟨m1, hm1⟩ : ∃ m1 : Mc, m1 = { m with frames := r ++ [f1] } := ⟨_, rfl⟩
 rw [← hf1, ← hm1] at H4
 obtain ⟨w4, hw4⟩ : ∃ w4, w4 = w3.setCell ⟨fb, K + 1, none⟩ (.int .i64 (f.at_ + 1)) := ⟨_, rfl⟩
 rw [← hw4] at H4
 have hob : o.fv.ownBlock = some fb := by rw [HFV.out]; rfl
 have hgfb : gb ≠ fb := fun e => hgf (e ▸ fZ hob)
 have B4 : w4.heap[gb]? = some (.cells #[.int .i64 op, .int .i64 N1, .int .i64 M1] 43 (0, 0)) := by rw [hw4]; exact (Below.heap_setCell _ _ _ _ hgfb).trans B3
 have b0 : (w3.setCell ⟨fb, K + 1, none⟩ (.int .i64 (f.at_ + 1))).cell? ⟨gb, 0, none⟩ = some (.int .i64 op) := by rw [← hw4]; exact ae B4 0
 have b1 : (w3.setCell ⟨fb, K + 1, none⟩ (.int .i64 (f.at_ + 1))).cell? ⟨gb, 1, none⟩ = some (.int .i64 N1) := by rw [← hw4]; exact ae B4 1
 have b2 : (w3.setCell ⟨fb, K + 1, none⟩ (.int .i64 (f.at_ + 1))).cell? ⟨gb, 2, none⟩ = some (.int .i64 M1) := by rw [← hw4]; exact ae B4 2
 have hm1f : m1.frames = r ++ [f1] := by rw [hm1]
 have M4 : Mod (fun k => k ∈ o.own) w w4 := (M3.mono (fun _ _ h => h.elim)).trans H4.2.1 (fun k _ e => by subst e; exact fZ hob)
 have hopr : 1 ≤ op ∧ op ≤ 25 := by
  have h0 := HF.out
  by_cases h1 : op = 19
  ·omega
  by_cases h2 : op = 20
  ·omega
  have h3 := nV h0 (by rw [← HQ.out]; exact h1) (by rw [← HQ.out]; exact h2)
  rw [← HQ.out] at h3
  exact h3.2
 obtain ⟨r1, r2, r4, hof⟩ := of_takes hopr.1 hopr.2
 have HB4 := aa.mk B4; have HM4 := aa.mk M4; have HX4 := aa.mk H4.1; have HF1 := aa.mk hf1; have HM1 := aa.mk hm1; have HGF := aa.mk hgf; have HM1F := aa.mk hm1f
 have HOF : aa (Calls Tryd.prog 54 #[.int .i64 op] w4 (fun e w' => e = .returned (.agg #[.string r1, .int .i64 r2, .int .i64 (ek op : Int), .int .i64 r4]) ∧ Below w4.heap.size w4 w')) := ⟨bV.calls op r1 r2 _ r4 w4 hof⟩
 have hfd : ∀ W : World, (Instr.field 94 (.agg #[.string r1, .int .i64 r2, .int .i64 (ek op : Int), .int .i64 r4]) 2).run Tryd.prog W = .ok (.int .i64 (ek op : Int)) W := field_takes r1 r2 _ r4
 clear B3 M3 H3 B4 M4 H4 hf1 hm1 hm1f hof hgf
 rcases (show op = 19 ∨ op = 20 ∨ (op ≠ 19 ∧ op ≠ 20) by omega) with h19 | h20 | ⟨h19, h20⟩
 have b19 : (op == 19) = true := beq_iff_eq.2 h19
 have b24 : (op == 24) = false := Zh (by omega)
 have hcall := HF.out.call (by rw [← HQ.out]; exact h19)
 rw [← HQ.out] at hcall
 simp only at hcall
 obtain ⟨T, hT⟩ : ∃ T, T = M1.toNat := ⟨_, rfl⟩
 have hTM : (T : Int) = M1 := by omega
 have hTL : T ≤ f.stack.length := by omega
 have HCALL := aa.mk hcall; have HT := aa.mk hT; have HTM := aa.mk hTM; have H19 := aa.mk h19
 clear hcall hT hTM h19
 rotate_left
 have b19 : (op == 19) = false := Zh (by omega)
 have b20 : (op == 20) = true := beq_iff_eq.2 h20
 have h19 : op ≠ 19 := by omega
 have b24 : (op == 24) = false := Zh (by omega)
 have hlv := HF.out.leave (by rw [← HQ.out]; exact h20)
 rw [← HQ.out] at hlv
 simp only at hlv
 obtain ⟨T, hT⟩ : ∃ T, T = N1.toNat := ⟨_, rfl⟩
 have hTM : (T : Int) = N1 := by omega
 have hTL : T ≤ f.stack.length := by omega
 have HLV := aa.mk hlv; have HT := aa.mk hT; have HTM := aa.mk hTM; have H20 := aa.mk h20
 clear hlv hT hTM h20
 rotate_left
 have b19 : (op == 19) = false := Zh h19
 have b20 : (op == 20) = false := Zh h20
 obtain ⟨T, hT⟩ : ∃ T, T = ek op := ⟨_, rfl⟩
 rw [← hT] at HOF hfd
 have hTL : T ≤ f.stack.length := by have h3 := nV HF.out (by rw [← HQ.out]; exact h19) (by rw [← HQ.out]; exact h20); rw [← HQ.out] at h3; rw [hT]; exact h3.1
 have HT := aa.mk hT; have HTM : aa ((T : Int) = T) := ⟨rfl⟩; clear hT
 rotate_left
 all_goals
  -- the world behind Of
  go_wp2_with ((with_reducible refine ah (f := 54) rfl ?_); refine gl 47 Tryd.func54 #[.int .i64 op] ?_; rw [← hw4]; refine HOF.out.mono ?_; rintro e w5 ⟨rfl, hb5⟩; have c0 := ae ((hb5.block gb (bF HB4.out)).trans HB4.out) 0; have c1 := ae ((hb5.block gb (bF HB4.out)).trans HB4.out) 1; have c2 := ae ((hb5.block gb (bF HB4.out)).trans HB4.out) 2; have HB5 := aa.mk hb5; clear hb5; refine ⟨_, rfl, ?_⟩)
  obtain ⟨w5', hw5⟩ : ∃ w5', w5' = w5.drew := ⟨_, rfl⟩
  have H5 : ROn Rd w5.drew o m1 := (HX4.out.below HB5.out).drew
  obtain ⟨vc, vs⟩ := h
  have HK5 := H5.top HHO.out HM1F.out
  obtain ⟨A, cap2, hvs, hcs1, hcs2, hAC⟩ := ko HK5.st
  simp only at hvs
  subst hvs
  have hst : f1.stack = f.stack := by rw [HF1.out]
  rw [hst] at hcs1 hAC
  obtain ⟨L, hL⟩ : ∃ L, L = f.stack.length := ⟨_, rfl⟩
  obtain ⟨nn, hnn⟩ : ∃ nn, nn = L - T := ⟨_, rfl⟩
  rw [← hL] at hTL hcs1
  obtain ⟨i2, hi2, hz2⟩ := Zo.1 jd
  simp only [Zm] at hz2
  have hcut := nZ (P := Tryd.prog) 23 2 .i64 Tryd.underlying23 hi2 1 hz2.2.1 A L cap2 (nn : Int) (by omega) (by omega)
  have hcut2 := kJ (P := Tryd.prog) 23 2 .i64 Tryd.underlying23 hi2 A L cap2 (nn : Int) (by omega) (by omega) hcs1
  rw [Int.toNat_natCast] at hcut hcut2
  have hCd := Kd.C_drop (m := nn) hAC (by omega) (by rw [← hL]; exact hcs1)
  have hdl : (f.stack.drop nn).length = T := by rw [List.length_drop]; omega
  obtain ⟨A2, hA2⟩ : ∃ A2, A2 = (if cap2 = nn then A else A.map (·.add (nn * 1))) := ⟨_, rfl⟩
  obtain ⟨ml, hml⟩ : ∃ ml, ml = L - nn := ⟨_, rfl⟩
  obtain ⟨c2', hc2'⟩ : ∃ c2, c2 = cap2 - nn := ⟨_, rfl⟩
  rw [← hA2, ← hml, ← hc2'] at hcut
  have hCd' : Kd.C (Kd.int .i64) w5.drew A2 (f.stack.drop nn).length (f.stack.drop nn) := by rw [hA2]; exact hCd
  have hown : dR.f (f.stack.drop nn) = some ([] ++ f.stack.drop nn) := by unfold dR.f; rw [if_pos (by have := HF.out.stack f (by rw [HF.out.fr]; simp); simp; omega)]
  have HOWN : aa (Calls Tryd.prog 47 #[.slice A2 ml c2'] w5.drew _) := ⟨by
   have h1 := dR.calls A2 c2' (f.stack.drop nn) _ w5.drew hCd' (by omega) hown
   rw [hdl, show T = ml by omega] at h1
   exact h1⟩
  first
   | have eL : IntKind.i64.wrap ((L : Int) - M1) = (nn : Int) := by have := HTM.out; rw [IntWalk.i64_in _ (by omega)]; omega
   | have eL : IntKind.i64.wrap ((L : Int) - N1) = (nn : Int) := by have := HTM.out; rw [IntWalk.i64_in _ (by omega)]; omega
   | have eL : IntKind.i64.wrap ((L : Int) - (T : Int)) = (nn : Int) := by have := HTM.out; rw [IntWalk.i64_in _ (by omega)]; omega
  have d4 : w5.drew.cell? ⟨fb, K + 4, none⟩ = some (.slice A L cap2) := by
   rw [(H5.getF (K := K) HHO.out HM1F.out HFV.out (by rw [HKK.out, HN1.out]) (j := 4) rfl).1, hst, hL]
  have d4' : w5.cell? ⟨fb, K + 4, none⟩ = some (.slice A L cap2) := d4
  have H5A := aa.mk H5; have HL := aa.mk hL; have HNN := aa.mk hnn; have HA2 := aa.mk hA2; have HML := aa.mk hml; have HC2 := aa.mk hc2'; have HDL := aa.mk hdl; have HST := aa.mk hst; have HCS1 := aa.mk hcs1; have HCS2 := aa.mk hcs2
  clear H5 HK5 hAC hL hnn hA2 hml hc2' hCd hCd' hown hdl hst hz2 hi2 hw5 hcs1 hcs2
  go_wp2
  go_region_held3 (fun W => W.cell? ⟨fb, K + 4, none⟩ = some (.slice A L cap2)) (first | exact d4 | exact d4' | assumption | go_keep) (((with_reducible refine HOWN.out.mono ?_); rintro e w6 ⟨v6, rfl, ho6, hb6⟩; have e4 : w6.cell? ⟨fb, K + 4, none⟩ = some (.slice A L cap2) := by { rw [((H5A.out.below hb6).getF (K := K) HHO.out HM1F.out HFV.out (by rw [HKK.out, HN1.out]) (j := 4) rfl).1, HST.out, HL.out] }; have HO6 := aa.mk ho6; have HB6 := aa.mk hb6; clear ho6 hb6))
  have R6 := H5A.out.below HB6.out
  obtain ⟨f2, hf2⟩ : ∃ f2 : Fr, f2 = { f1 with stack := f1.stack.take nn } := ⟨_, rfl⟩
  obtain ⟨m2, hm2⟩ : ∃ m2 : Mc, m2 = { m with frames := r ++ [f2] } := ⟨_, rfl⟩
  obtain ⟨w6', hw6⟩ : ∃ w6', w6' = w6.drew := ⟨_, rfl⟩
  have R6d : ROn Rd w6' o m1 := by rw [hw6]; exact R6.drew
  have f4' := R6d.getF (K := K) HHO.out HM1F.out HFV.out (by rw [HKK.out, HN1.out]) (j := 4) rfl
  rw [HST.out, ← HL.out] at f4'
  have g4 : w6'.cell? ⟨fb, K + 4, none⟩ = some (.slice A L cap2) := f4'.1
  have g4f : w6'.frozen? ⟨fb, K + 4, none⟩ = false := f4'.2
  have hnn2 : nn ≤ f1.stack.length := by rw [HST.out, ← HL.out, HNN.out]; omega
  have P7 := R6d.putF (K := K) (f' := f2) (vs' := .slice A nn cap2) HHO.out HM1F.out HFV.out (by rw [HKK.out, HN1.out]) 4 (.slice A nn cap2) (by rw [hf2]; rfl) (fun k e => by cases A <;> exact e) (by rw [hf2]; exact (R6d.top HHO.out HM1F.out).cut hnn2)
  obtain ⟨o2, ho2⟩ : ∃ o2 : RMo, o2 = { o with hs := hs0 ++ [{ vc := vc, vs := .slice A nn cap2 }] } := ⟨_, rfl⟩
  rw [show ({ m1 with frames := r ++ [f2] } : Mc) = m2 by rw [hm2, HM1.out], ← ho2] at P7
  obtain ⟨w7, hw7⟩ : ∃ w7, w7 = w6'.setCell ⟨fb, K + 4, none⟩ (.slice A nn cap2) := ⟨_, rfl⟩
  rw [← hw7] at P7
  have hsz5 : w4.heap.size ≤ w5.heap.size := HB5.out.size
  have B5 : w5.heap[gb]? = some (.cells #[.int .i64 op, .int .i64 N1, .int .i64 M1] 43 (0, 0)) := (HB5.out.block gb (bF HB4.out)).trans HB4.out
  have hbl := bF B5
  have B6 : w6.heap[gb]? = some (.cells #[.int .i64 op, .int .i64 N1, .int .i64 M1] 43 (0, 0)) := (HB6.out.block gb hbl).trans B5
  have B7 : w7.heap[gb]? = some (.cells #[.int .i64 op, .int .i64 N1, .int .i64 M1] 43 (0, 0)) := by
   rw [hw7, hw6]; exact (Below.heap_setCell _ _ _ _ hgfb).trans B6
  have hri := mG HO6.out
  rw [List.nil_append] at hri
  have hsz4 : w.heap.size ≤ w4.heap.size := HM4.out.size
  have hfbl : fb < w.heap.size := HH.out.lt fb (fZ hob)
  have V7 : w7.ownsRow 0 2 1 v6 (f.stack.drop nn).length (ints (f.stack.drop nn)) := by
   rw [hw7, hw6]; exact dE hri.1 (p := ⟨fb, K + 4, none⟩) (fun e => by have h1 := hri.2 fb e.symm; have h2 : w5.drew.heap.size = w5.heap.size := rfl; omega) _
  have hS2 := P7.2.2
  have M6 : Mod (fun k => k ∈ o.own) w w6' := by rw [hw6]; exact (((HM4.out.trans (Mod.of_below HB5.out (fun k => k ∈ o.own)) (fun _ _ h => h)).drew).trans (Mod.of_below HB6.out (fun k => k ∈ o.own)) (fun _ _ h => h)).drew
  have M7 : Mod (fun k => k ∈ o.own) w w7 := M6.trans P7.2.1 (fun k _ e => by subst e; exact fZ hob)
  have S7 : jK w o o2 := ⟨hS2.1, fun k hk => (hS2.2 k hk).imp_right (Ze M6.size)⟩
  have b0' : (w6'.setCell ⟨fb, K + 4, none⟩ (.slice A nn cap2)).cell? ⟨gb, 0, none⟩ = some (.int .i64 op) := by rw [← hw7]; exact ae B7 0
  have b1' : (w6'.setCell ⟨fb, K + 4, none⟩ (.slice A nn cap2)).cell? ⟨gb, 1, none⟩ = some (.int .i64 N1) := by rw [← hw7]; exact ae B7 1
  have b2' : (w6'.setCell ⟨fb, K + 4, none⟩ (.slice A nn cap2)).cell? ⟨gb, 2, none⟩ = some (.int .i64 M1) := by rw [← hw7]; exact ae B7 2
  have hgb2 : gb ∉ o2.own := fun e => by have h2 : w6'.heap.size = w6.heap.size := (by rw [hw6]; rfl); have h3 := bF B6; exact (hS2.2 gb e).elim (fun h1 => HGF.out h1) (fun h1 => by omega)
  have hv2 : ∀ k, v6.ownBlock = some k → k ∉ o2.own ∧ w.heap.size ≤ k ∧ k ≠ gb := fun k e => by
   have h1 := hri.2 k e
   have h2 : w5.drew.heap.size = w5.heap.size := rfl
   have h3 := hri.1.lt k e
   have h4 : w6'.heap.size = w6.heap.size := by rw [hw6]; rfl
   refine ⟨fun h => ?_, by omega, by omega⟩
   rcases hS2.2 k h with h5 | h5
   ·have := HX4.out.lt k h5; omega
   ·omega
  have hw6r : w6.drew = w6' := hw6.symm
  have HP7 := aa.mk P7.1; have HV7 := aa.mk V7; have HM7 := aa.mk M7; have HS7 := aa.mk S7; have HB7 := aa.mk B7; have HG2 := aa.mk hgb2; have HVN := aa.mk hv2; have HF2 := aa.mk hf2; have HM2 := aa.mk hm2; have HO2 := aa.mk ho2; have HW7 := aa.mk hw7; have HW6 := aa.mk hw6r
  clear R6 R6d f4' hnn2 P7 ho2 hw7 hsz5 B5 hbl B6 B7 hri hsz4 hfbl V7 hS2 M6 M7 S7 hgb2 hv2 hf2 hm2 d4 d4' hw6 hw6r
  have hE7 : w6'.setCell ⟨fb, K + 4, none⟩ (.slice A nn cap2) = w7 := HW7.out.symm
  have HE7 := aa.mk hE7
  have HOG2 : aa (o2.g = o.g) := ⟨HS7.out.1⟩
  have hm2c : m2.codes = m.codes ∧ m2.fuel = m.fuel ∧ m2.ticks = m.ticks ∧ m2.read = m.read ∧ m2.input = m.input ∧ m2.events = m.events := by rw [HM2.out]; exact ⟨rfl, rfl, rfl, rfl, rfl, rfl⟩
  have HM2C := aa.mk hm2c; clear hm2c hE7
  have ho2 : o2.hs = hs0 ++ [{ vc := vc, vs := .slice A nn cap2 }] := by rw [HO2.out]
  have hfv2 : o2.fv = .slice (some ⟨fb, 0, none⟩) (n + 1) cap := by rw [HO2.out]; exact HFV.out
  have hob2 : o2.fv.ownBlock = some fb := by rw [hfv2]; rfl
  have hm2f : m2.frames = r ++ [f2] := by rw [HM2.out]
  have HHO2 := aa.mk ho2; have HFV2 := aa.mk hfv2; have HOB2 := aa.mk hob2; have HM2F := aa.mk hm2f
  clear ho2 hfv2 hob2 hm2f
  go_wp2
  refine wp_region_still_tail 15 (by kernel_rfl) (by kernel_rfl) ?_
  change wpStill _ _ w6.drew (fun a' => wpList _ _ _ _ a' w6.drew) _ _
  rw [HW6.out]
  simp only [List.take_succ_cons, List.take_zero, List.drop_succ_cons, List.drop_zero]
  repeat still_step
  try refine wpStill_nil ?_
 ·have c1w : (w6'.setCell ⟨fb, K + 4, none⟩ (.slice A nn cap2)).cell? ⟨o.g, 1, none⟩ = some (.slice (some ⟨fb, 0, none⟩) L1 cap) := by rw [HE7.out, ← HOG2.out, HL1.out, ← HFV2.out]; exact ae HP7.out.blk 1
  have hnn' : f1.stack.length - T = nn := by rw [HST.out, ← HL.out, HNN.out]
  by_cases hdp : L1 = 50
  ·have gg : decide ((50 : Int) ≤ (L1 : Int)) = true := Za (by omega)
   have gg2 : decide (50 ≤ L1) = true := Za (by omega)
   have HEND : aa (Calls Tryd.prog 44 #[.pointer (some ⟨o.g, 0, none⟩), .int .i64 4, .int .i64 4] w7 (fun e w' => e = .returned (.tuple #[]) ∧ iw Rd w7 o2 (m2.endM 4 4) w')) := ⟨by
    have h := kT HP7.out 4 4 (by have := HF.out.events; rw [HM2C.out.2.2.2.2.2]; omega)
    rwa [RMo.ptr, HOG2.out] at h⟩
   have hone : aa (m.rone = (m2.endM 4 4, false)) := ⟨by
    rw [gQ HF.out.fr (by rw [← HQ.out]; exact .inl H19.out), ← HQ.out, HM2.out, HF2.out, ← hnn', HT.out, HF1.out]
    have h5 : r.length + 1 = 50 := by rw [← HN1.out, ← HL1.out]; exact hdp
    simp [Mc.does, H19.out, h5]⟩
   have HDP := aa.mk hdp; clear hdp hnn'
   go_wp2_with ((with_reducible refine ah (f := 44) rfl ?_); refine gl 173 Tryd.func44 #[.pointer (some ⟨o.g, 0, none⟩), .int .i64 4, .int .i64 4] ?_; rw [HE7.out]; refine HEND.out.mono ?_; rintro e w8 ⟨rfl, hA8⟩; have HA8 := aa.mk hA8; clear hA8; refine ⟨_, rfl, ?_⟩)
   go_ret
   exact iH hone.out rfl (iw.then_ HS7.out HM7.out HA8.out)
  ·have hdp2 : L1 < 50 := by have := HF.out.deep; have := HL1.out; have := HN1.out; omega
   have gg : decide ((50 : Int) ≤ (L1 : Int)) = false := Zb (by omega)
   have gg2 : decide (50 ≤ L1) = false := Zb (by omega)
   have HBEG : aa (Calls Tryd.prog 48 #[.pointer (some ⟨o.g, 0, none⟩), .int .i64 N1, v6] w7 (fun e w' => e = .returned (.tuple #[]) ∧ iw Rd w7 o2 (m2.dZ N1 (f.stack.drop nn)) w')) := ⟨by
    obtain ⟨a0, a1, a2, a3, a4, a5⟩ := HCALL.out
    have h := pG HP7.out N1 a0 (by rw [HM2C.out.1]; exact a1) (au m.codes N1).f1.toNat (by rw [HM2C.out.1]; omega) (by omega) v6 (f.stack.drop nn) HV7.out (by rw [HDL.out, HT.out]; omega) (by rw [HM2F.out]; simp; have := HN1.out; have := HL1.out; omega)
    rwa [RMo.ptr, HOG2.out] at h⟩
   have hone : aa (m.rone = (m2.dZ N1 (f.stack.drop nn), false)) := ⟨by
    rw [gQ HF.out.fr (by rw [← HQ.out]; exact .inl H19.out), ← HQ.out, HM2.out, HF2.out, ← hnn', HT.out, HF1.out]
    have h5 : ¬ (r.length + 1 = 50) := by rw [← HN1.out, ← HL1.out]; exact hdp
    have h6 : r.length ≠ 49 := by omega
    simp [Mc.does, H19.out, h5, h6]⟩
   have HDP := aa.mk hdp; clear hdp hdp2 hnn'
   go_wp2_with ((with_reducible refine ah (f := 48) rfl ?_); refine gl 178 Tryd.func48 #[.pointer (some ⟨o.g, 0, none⟩), .int .i64 N1, v6] ?_; rw [HE7.out]; refine HBEG.out.mono ?_; rintro e w8 ⟨rfl, hA8⟩; have HA8 := aa.mk hA8; clear hA8; refine ⟨_, rfl, ?_⟩)
   go_ret
   exact iH hone.out rfl (iw.then_ HS7.out HM7.out HA8.out)
 ·obtain ⟨A6, c6, hv6, _, _, _⟩ := ko HV7.out
  rw [HDL.out] at hv6
  subst hv6
  have hnn' : f1.stack.length - T = nn := by rw [HST.out, ← HL.out, HNN.out]
  obtain ⟨i80, hi80, hz80⟩ := Zo.1 uW
  have hcut3 := kJ (P := Tryd.prog) 50 80 .i64 Tryd.underlying50 hi80 (some ⟨fb, 0, none⟩) L1 cap (n : Int) (by omega) (by have := HL1.out; omega) (by have := HL1.out; omega)
  rw [Int.toNat_natCast] at hcut3
  have c1w : w7.drew.cell? ⟨o.g, 1, none⟩ = some (.slice (some ⟨fb, 0, none⟩) L1 cap) := by rw [← HOG2.out, HL1.out, ← HFV2.out]; exact ae HP7.out.drew.blk 1
  have c1f : w7.drew.frozen? ⟨o.g, 1, none⟩ = false := by rw [← HOG2.out]; exact ai HP7.out.drew.blk 1
  have hpop := HP7.out.drew.popped HHO2.out HM2F.out HFV2.out HOG2.out
  rw [← HN1.out] at hpop
  have HPOP := aa.mk hpop
  have HV8 : aa (w7.drew.ownsRow 0 2 1 (.slice A6 T c6) (f.stack.drop nn).length (ints (f.stack.drop nn))) := ⟨HV7.out.drew⟩
  have HM8 : aa (Mod (fun k => k ∈ o.own) w w7.drew) := ⟨HM7.out.drew⟩
  clear hpop hz80 hi80
  rcases List.eq_nil_or_concat r with hr | ⟨r0, g, hr⟩
  ·have hn0 : n = 0 := by rw [HN1.out, hr]; rfl
   have d0 : ((n : Int) == 0) = true := by rw [hn0]; rfl
   have d00 : (n == 0) = true := by rw [hn0]; rfl
   have HEND : aa (Calls Tryd.prog 44 #[.pointer (some ⟨o.g, 0, none⟩), .int .i64 3, .int .i64 0] (w7.drew.setCell ⟨o.g, 1, none⟩ (.slice (some ⟨fb, 0, none⟩) n cap)) (fun e w' => e = .returned (.tuple #[]) ∧ iw Rd (w7.drew.setCell ⟨o.g, 1, none⟩ (.slice (some ⟨fb, 0, none⟩) n cap)) { o2 with fv := .slice (some ⟨fb, 0, none⟩) n cap, hs := hs0 } (({ m2 with frames := r } : Mc).endM 3 0) w')) := ⟨by
    have h := kT HPOP.out.1 3 0 (by have := HF.out.events; show m2.events.length + 1 ≤ _; rw [HM2C.out.2.2.2.2.2]; omega)
    have h2 : ({ o2 with fv := .slice (some ⟨fb, 0, none⟩) n cap, hs := hs0 } : RMo).ptr = .pointer (some ⟨o.g, 0, none⟩) := by show Value.pointer (some ⟨o2.g, 0, none⟩) = _; rw [HOG2.out]
    rw [h2] at h
    exact h⟩
   have hone : aa (m.rone = ((({ m2 with frames := r } : Mc).endM 3 0), false)) := ⟨by
    rw [gQ HF.out.fr (by rw [← HQ.out]; exact .inr (.inl H20.out)), ← HQ.out, HM2.out, hr]
    simp [Mc.does, H20.out]⟩
   have HN0 := aa.mk hn0; have HR0 := aa.mk hr
   clear hn0 hr hnn'
   go_wp2
   rw [HE7.out]
   refine wp_region_still_tail 14 (by kernel_rfl) (by kernel_rfl) ?_
   change wpStill _ _ w7.drew (fun a' => wpList _ _ _ _ a' w7.drew) _ _
   generalize w7.drew = w8 at *
   simp only [List.take_succ_cons, List.take_zero, List.drop_succ_cons, List.drop_zero]
   repeat still_step
   try refine wpStill_nil ?_
   go_wp2_with ((with_reducible refine ah (f := 44) rfl ?_); refine gl 202 Tryd.func44 #[.pointer (some ⟨o.g, 0, none⟩), .int .i64 3, .int .i64 0] ?_; refine HEND.out.mono ?_; rintro e w9 ⟨rfl, hA9⟩; have HA9 := aa.mk hA9; clear hA9; refine ⟨_, rfl, ?_⟩)
   go_ret
   refine iH hone.out rfl (iw.then_ (o1 := { o2 with fv := .slice (some ⟨fb, 0, none⟩) n cap, hs := hs0 }) ⟨HS7.out.1, fun k hk => ?_⟩ (HM8.out.trans HPOP.out.2.1 (fun k _ e => by subst e; simp [RMo.own])) HA9.out)
   rcases HPOP.out.2.2.2 k hk with h1 | h1
   ·exact HS7.out.2 k h1
   ·exact .inr (Ze HM8.out.size h1)
  ·have hr' : r = r0 ++ [g] := by simpa using hr
   have hn1 : n = r0.length + 1 := by rw [HN1.out, hr']; simp
   have d0 : ((n : Int) == 0) = false := Zh (by omega)
   have d00 : (n == 0) = false := Zh (by omega)
   obtain ⟨n1, hnn1⟩ : ∃ n1, n1 = r0.length := ⟨_, rfl⟩
   have e5 : IntKind.i64.wrap ((n : Int) - 1) = (n1 : Int) := by rw [IntWalk.i64_in _ (by have := HF.out.deep; have := HN1.out; omega)]; omega
   have e6 : (0 : Int) ≤ (n1 : Int) := by omega
   have e7 : (n1 : Int) < (n : Int) := by omega
   obtain ⟨K1, hK1⟩ : ∃ K1, K1 = n1 * 5 := ⟨_, rfl⟩
   have HP9 : aa (ROn Rd (w7.drew.setCell ⟨o.g, 1, none⟩ (.slice (some ⟨fb, 0, none⟩) n cap)) { o2 with fv := .slice (some ⟨fb, 0, none⟩) n cap, hs := hs0 } { m2 with frames := r }) := ⟨HPOP.out.1⟩
   have HMP : aa (Mod (fun k => k = o.g) w7.drew (w7.drew.setCell ⟨o.g, 1, none⟩ (.slice (some ⟨fb, 0, none⟩) n cap))) := ⟨HPOP.out.2.1⟩
   obtain ⟨o3, ho3⟩ : ∃ o3 : RMo, o3 = { o2 with fv := .slice (some ⟨fb, 0, none⟩) n cap, hs := hs0 } := ⟨_, rfl⟩
   obtain ⟨m3, hm3⟩ : ∃ m3 : Mc, m3 = { m2 with frames := r } := ⟨_, rfl⟩
   rw [← ho3, ← hm3] at HP9
   have hm3f : m3.frames = r0 ++ [g] := by rw [hm3]; exact hr'
   obtain ⟨hs1, h1, hh1, hhl1⟩ := HP9.out.split hm3f
   have ho3h : o3.hs = hs0 := by rw [ho3]
   have hfv3 : o3.fv = .slice (some ⟨fb, 0, none⟩) n cap := by rw [ho3]
   have hg3 : o3.g = o.g := by rw [ho3]; exact HOG2.out
   have hs3 : jK w7.drew o2 o3 := by rw [ho3]; exact HPOP.out.2.2
   obtain ⟨vc1, vs1⟩ := h1
   obtain ⟨A1, c1', hvs1, hcl1, _, _⟩ := ko (HP9.out.top hh1 hm3f).st
   simp only at hvs1
   obtain ⟨GL, hGL⟩ : ∃ GL, GL = g.stack.length := ⟨_, rfl⟩
   rw [← hGL] at hvs1
   subst hvs1
   have hone : aa (m.rone = ({ m2 with frames := r0 ++ [{ g with stack := g.stack ++ f.stack.drop nn }] }, false)) := ⟨by
    rw [gQ HF.out.fr (by rw [← HQ.out]; exact .inr (.inl H20.out)), ← HQ.out, HM2.out]
    have hrn : ¬ (r = []) := by rw [hr']; simp
    have hst' : ({ f with at_ := f.at_ + 1 } : Fr).stack = f.stack := rfl
    unfold Mc.does
    simp only
    rw [if_neg (by rw [H20.out]; decide), if_pos H20.out, if_neg hrn]
    rcases HLV.out with h0 | ⟨h1, hl1⟩
    ·rw [if_neg (by omega)]
     have hd : f.stack.drop nn = [] := by apply List.drop_of_length_le; rw [HNN.out, HL.out, HT.out, h0]; exact Zd _
     rw [hd, List.append_nil, hr']
    ·rw [if_pos h1]
     have hd : f.stack.drop nn = [f.stack.getLastD 0] := by rw [HNN.out, HL.out, HT.out, h1]; exact (oW hl1).2
     rw [hd, hr']
     simp [gL]⟩
   have HAPL : aa (g.stack.length + (f.stack.drop nn).length ≤ 1000000) := ⟨by
    have h2 := HF.out.stack g (by rw [HF.out.fr, hr']; simp)
    have h3 := HF.out.stack f (by rw [HF.out.fr]; simp)
    rw [List.length_drop]; omega⟩
   have HH1 := aa.mk hh1; have HM3F := aa.mk hm3f; have HFV3 := aa.mk hfv3; have HG3 := aa.mk hg3; have HS3 := aa.mk hs3; have HNN1 := aa.mk hnn1; have HK1 := aa.mk hK1; have HGL := aa.mk hGL; have HR0 := aa.mk hr'; have HM3 := aa.mk hm3; have HN11 := aa.mk hn1
   clear hK1 hr hr' hnn' hh1 hhl1 ho3h hm3f hfv3 hg3 hs3 hnn1 hGL ho3 hm3 hn1 hcl1 HPOP
   go_wp2
   rw [HE7.out]
   refine wp_region_still_tail 14 (by kernel_rfl) (by kernel_rfl) ?_
   change wpStill _ _ w7.drew (fun a' => wpList _ _ _ _ a' w7.drew) _ _
   generalize w7.drew = w8 at *
   simp only [List.take_succ_cons, List.take_zero, List.drop_succ_cons, List.drop_zero]
   repeat still_step
   try refine wpStill_nil ?_
   go_wp2
   obtain ⟨w9, hw9⟩ : ∃ w9, w9 = w8.setCell ⟨o.g, 1, none⟩ (.slice (some ⟨fb, 0, none⟩) n cap) := ⟨_, rfl⟩
   rw [← hw9] at HP9 HMP ⊢
   clear hw9
   have y1 : w9.cell? ⟨o.g, 1, none⟩ = some (.slice (some ⟨fb, 0, none⟩) n cap) := by rw [← HG3.out, ← HFV3.out]; exact ae HP9.out.blk 1
   have y1d : w9.drew.cell? ⟨o.g, 1, none⟩ = some (.slice (some ⟨fb, 0, none⟩) n cap) := y1
   have HP9d : aa (ROn Rd w9.drew o3 m3) := ⟨HP9.out.drew⟩
   have z4 : w9.drew.cell? ⟨fb, K1 + 4, none⟩ = some (.slice A1 GL c1') := (HP9d.out.getF (K := K1) HH1.out HM3F.out HFV3.out (by rw [HK1.out, HNN1.out]) (j := 4) rfl).1
   have HMW9 : aa (Mod (fun k => k ∈ o.own) w w9.drew) := ⟨(HM8.out.trans HMP.out (fun k _ e => by subst e; simp [RMo.own])).drew⟩
   have HSTKG : aa (w9.drew.ownsRow 0 2 1 (.slice A1 GL c1') g.stack.length (ints g.stack)) := ⟨(HP9d.out.top HH1.out HM3F.out).st⟩
   have HV9 : aa (w9.drew.ownsRow 0 2 1 (.slice A6 T c6) (f.stack.drop nn).length (ints (f.stack.drop nn))) := ⟨by
    have hv8 : w8.ownsRow 0 2 1 (.slice A6 T c6) (f.stack.drop nn).length (ints (f.stack.drop nn)) := HV8.out
    exact (bZ hv8 (fun k e => HMP.out.block k (hv8.lt k e).2 (fun h => (HVN.out k e).1 (by rw [h, ← HOG2.out]; simp [RMo.own])))).drew⟩
   go_region_held3 (fun W => W.cell? ⟨o.g, 1, none⟩ = some (.slice (some ⟨fb, 0, none⟩) n cap)) (first | exact y1d | exact y1 | go_keep) (skip)
   rw [← HK1.out]
   generalize w9.drew = w10 at *
   go_wp2_with (at_builtin; refine jr rfl (.tmp 218) (.tmp 219) rfl Tryd.underlying23 jd (.slice A1 GL c1') (.slice A6 T c6) g.stack (f.stack.drop nn) rfl rfl HSTKG.out HV9.out HAPL.out ?app)
   case app =>
    intro v1 w11 hown hgrow hat
    obtain ⟨vA, vn, vC, rfl⟩ : ∃ A n c, v1 = .slice A n c := by rcases hown.2 with ⟨h, _⟩ | ⟨_, _, _, h, _⟩ <;> exact ⟨_, _, _, h⟩
    have kf := HP9d.out.si (K := K1) HH1.out HM3F.out HFV3.out (by rw [HK1.out, HNN1.out]) hgrow
    have k4 : w11.cell? ⟨fb, K1 + 4, none⟩ = some (.slice A1 GL c1') := kf.1
    have f4 := kf.2
    have HAP := aa.mk (HP9d.out.appended (K := K1) (s' := g.stack ++ f.stack.drop nn) HH1.out HM3F.out HFV3.out (by rw [HK1.out, HNN1.out]) (by simpa using hown) hgrow hat)
    clear hown hgrow hat kf
    go_wp2
    go_ret
    obtain ⟨H10, M10, S10⟩ := HAP.out
    have hO2 : ∀ k, k < w.heap.size → k ∈ o2.own → k ∈ o.own := fun k hk h1 => (HS7.out.2 k h1).elim id (fun h3 => by omega)
    have hsz8 : w.heap.size ≤ w8.heap.size := HM8.out.size
    have hO3 : ∀ k, k < w.heap.size → k ∈ o3.own → k ∈ o.own := fun k hk h1 => (HS3.out.2 k h1).elim (hO2 k hk) (fun h3 => by omega)
    have hsz : w.heap.size ≤ w10.heap.size := HMW9.out.size
    have e9 : ({ m3 with frames := r0 ++ [{ g with stack := g.stack ++ f.stack.drop nn }] } : Mc) = { m2 with frames := r0 ++ [{ g with stack := g.stack ++ f.stack.drop nn }] } := by rw [HM3.out]
    rw [e9] at H10
    exact iH hone.out rfl ⟨_, ⟨S10.1.trans HG3.out, fun k hk => (S10.2 k hk).elim (fun h1 => by
     by_cases hlt : k < w.heap.size
     ·exact .inl (hO3 k hlt h1)
     ·exact .inr (by omega)) (fun h1 => .inr (by omega))⟩, H10, HMW9.out.trans M10 (fun k hk e => hO3 k hk (e.elim fZ (kD HH1.out k)))⟩
 by_cases h24 : op = 24
 ·have b24 : (op == 24) = true := beq_iff_eq.2 h24
  have HF21 : aa (f2 = f1) := ⟨by rw [HF2.out, HNN.out, HT.out, h24, HL.out, ← HST.out]; simp [ek]⟩
  by_cases hfu : m.fuel = 0
  ·have d0 : (m.fuel == 0) = true := beq_iff_eq.2 hfu
   have c4 : (w6'.setCell ⟨fb, K + 4, none⟩ (.slice A nn cap2)).cell? ⟨o.g, 4, none⟩ = some (.int .i64 m.fuel) := by rw [HE7.out, ← HOG2.out, ae HP7.out.blk 4, ← HM2C.out.2.1]; rfl
   have HFU := aa.mk hfu; clear hfu
   have HEND : aa (Calls Tryd.prog 44 #[.pointer (some ⟨o.g, 0, none⟩), .int .i64 5, .int .i64 0] w7 (fun e w' => e = .returned (.tuple #[]) ∧ iw Rd w7 o2 (m2.endM 5 0) w')) := ⟨by
    have h := kT HP7.out 5 0 (by have := HF.out.events; rw [HM2C.out.2.2.2.2.2]; omega)
    rwa [RMo.ptr, HOG2.out] at h⟩
   go_wp2_with ((with_reducible refine ah (f := 44) rfl ?_); refine gl 124 Tryd.func44 #[.pointer (some ⟨o.g, 0, none⟩), .int .i64 5, .int .i64 0] ?_; rw [HE7.out]; refine HEND.out.mono ?_; rintro e w8 ⟨rfl, hA8⟩; have HA8 := aa.mk hA8; clear hA8; refine ⟨_, rfl, ?_⟩)
   go_ret
   have hone : m.rone = (m2.endM 5 0, false) := by
    rw [gQ HF.out.fr (by rw [← HQ.out]; exact .inr (.inr (.inr (.inr h24)))), ← HQ.out, HM2.out, HF21.out]
    simp [Mc.does, h24, HFU.out, HF1.out]
   exact iH hone rfl (iw.then_ HS7.out HM7.out HA8.out)
  ·have d0 : (m.fuel == 0) = false := Zh hfu
   have HFU := aa.mk hfu; clear hfu
   obtain ⟨h0, h1⟩ := HF.out.fuel
   obtain ⟨t0, t1⟩ := HF.out.ticks
   have ef : IntKind.i64.wrap (m.fuel - 1) = m.fuel - 1 := IntWalk.i64_in _ (by have := HFU.out; omega)
   have et : IntKind.i64.wrap (m.ticks + 1) = m.ticks + 1 := IntWalk.i64_in _ (by omega)
   have P1 := HP7.out.putG HOG2.out 4 (.int .i64 (m.fuel - 1)) o2.ran (m' := { m2 with fuel := m.fuel - 1 }) rfl rfl rfl rfl rfl
   have P2 := P1.1.putG HOG2.out 5 (.int .i64 (m.ticks + 1)) o2.ran (m' := { m2 with fuel := m.fuel - 1, ticks := m.ticks + 1 }) rfl rfl rfl rfl rfl
   have ho2 : o2.hs = hs0 ++ [{ vc := vc, vs := .slice A nn cap2 }] := by rw [HO2.out]
   have hfv2 : o2.fv = .slice (some ⟨fb, 0, none⟩) (n + 1) cap := by rw [HO2.out]; exact HFV.out
   have hob2 : o2.fv.ownBlock = some fb := by rw [hfv2]; rfl
   have T2 := P2.1.top (hs0 := hs0) (h := { vc := vc, vs := .slice A nn cap2 }) (r := r) (f := f2) ho2 (by show m2.frames = _; rw [HM2.out])
   have P3 := P2.1.putF (K := K) (f' := { f2 with mark := N1 }) (vs' := .slice A nn cap2) (hs0 := hs0) (r := r) (f := f2) (h := { vc := vc, vs := .slice A nn cap2 }) ho2 (by show m2.frames = _; rw [HM2.out]) hfv2 (by rw [HKK.out, HN1.out]) 2 (.int .i64 N1) rfl (fun k e => e) ⟨T2.cs, T2.st⟩
   have c4 : (w6'.setCell ⟨fb, K + 4, none⟩ (.slice A nn cap2)).cell? ⟨o.g, 4, none⟩ = some (.int .i64 m.fuel) := by rw [HE7.out, ← HOG2.out, ae HP7.out.blk 4, ← HM2C.out.2.1]; rfl
   have c4f : (w6'.setCell ⟨fb, K + 4, none⟩ (.slice A nn cap2)).frozen? ⟨o.g, 4, none⟩ = false := by rw [HE7.out, ← HOG2.out]; exact ai HP7.out.blk 4
   have c5 : (w6'.setCell ⟨fb, K + 4, none⟩ (.slice A nn cap2)).cell? ⟨o.g, 5, none⟩ = some (.int .i64 m.ticks) := by rw [HE7.out, ← HOG2.out, ae HP7.out.blk 5, ← HM2C.out.2.2.1]; rfl
   have c5f : (w6'.setCell ⟨fb, K + 4, none⟩ (.slice A nn cap2)).frozen? ⟨o.g, 5, none⟩ = false := by rw [HE7.out, ← HOG2.out]; exact ai HP7.out.blk 5
   have d2 := HP7.out.getF (K := K) (hs0 := hs0) (r := r) (f := f2) (h := { vc := vc, vs := .slice A nn cap2 }) ho2 (by rw [HM2.out]) hfv2 (by rw [HKK.out, HN1.out]) (j := 2) rfl
   rw [← HE7.out] at d2
   have d2c : (w6'.setCell ⟨fb, K + 4, none⟩ (.slice A nn cap2)).cell? ⟨fb, K + 2, none⟩ = some (.int .i64 f2.mark) := d2.1
   have d2f : (w6'.setCell ⟨fb, K + 4, none⟩ (.slice A nn cap2)).frozen? ⟨fb, K + 2, none⟩ = false := d2.2
   have hgo : gb ≠ o.g := fun e => HG2.out (e ▸ HOG2.out ▸ (by simp [RMo.own]))
   have hfo : fb ≠ o.g := fun e => (gH HP7.out).1 (by rw [hob2, HOG2.out, e])
   have HP3 := aa.mk P3; have HP2 := aa.mk P2.2; have HP1 := aa.mk P1.2; have HHO2 := aa.mk ho2; have HFV2 := aa.mk hfv2; have HOB2 := aa.mk hob2
   clear P1 P2 P3 T2 ho2 hfv2 hob2 d2
   go_wp2
   rw [HE7.out]
   obtain ⟨w8, hw8⟩ : ∃ w8, w8 = ((w7.setCell ⟨o.g, 4, none⟩ (.int .i64 (m.fuel - 1))).setCell ⟨o.g, 5, none⟩ (.int .i64 (m.ticks + 1))).setCell ⟨fb, K + 2, none⟩ (.int .i64 N1) := ⟨_, rfl⟩
   have P4 := HP3.out.1.drew
   have M8 : Mod (fun k => k ∈ o.own) w w8.drew := by
    rw [hw8]
    exact (((HM7.out.trans HP1.out (fun k _ e => by subst e; simp [RMo.own])).trans HP2.out (fun k _ e => by subst e; simp [RMo.own])).trans HP3.out.2.1 (fun k _ e => by subst e; exact fZ hob)).drew
   have B8 : w8.drew.heap[gb]? = some (.cells #[.int .i64 op, .int .i64 N1, .int .i64 M1] 43 (0, 0)) := by
    rw [hw8]
    exact (Below.heap_setCell _ _ _ _ hgfb).trans ((Below.heap_setCell _ _ _ _ hgo).trans ((Below.heap_setCell _ _ _ _ hgo).trans HB7.out))
   rw [← hw8] at P4 ⊢
   clear hw8
   obtain ⟨o3, ho3⟩ : ∃ o3 : RMo, o3 = { o2 with hs := hs0 ++ [{ vc := vc, vs := .slice A nn cap2 }] } := ⟨_, rfl⟩
   have ho3' : o3 = o2 := by rw [ho3, ← HHO2.out]
   have P4 : ROn Rd w8.drew o2 { m with frames := r ++ [{ f2 with mark := N1 }], fuel := m.fuel - 1, ticks := m.ticks + 1 } := by
    have h1 : ({ m2 with fuel := m.fuel - 1, ticks := m.ticks + 1, frames := r ++ [{ f2 with mark := N1 }] } : Mc) = { m with frames := r ++ [{ f2 with mark := N1 }], fuel := m.fuel - 1, ticks := m.ticks + 1 } := by rw [HM2.out]
    have h2 : ROn Rd w8.drew o3 { m2 with fuel := m.fuel - 1, ticks := m.ticks + 1, frames := r ++ [{ f2 with mark := N1 }] } := by rw [ho3]; exact P4
    rw [← h1, ← ho3']; exact h2
   clear ho3 ho3'
   have HP4 := aa.mk P4
   have Q1 := P4.putG HOG2.out 6 (.int .i64 M1) o2.ran (m' := { m with frames := r ++ [{ f2 with mark := N1 }], fuel := m.fuel - 1, ticks := m.ticks + 1, tick := (M1, m.tick.2.1, m.tick.2.2.1, m.tick.2.2.2) }) rfl rfl rfl rfl rfl
   have Q2 := Q1.1.putG HOG2.out 7 (.int .i64 f.pr) o2.ran (m' := { m with frames := r ++ [{ f2 with mark := N1 }], fuel := m.fuel - 1, ticks := m.ticks + 1, tick := (M1, f.pr, m.tick.2.2.1, m.tick.2.2.2) }) rfl rfl rfl rfl rfl
   have Q3 := Q2.1.putG HOG2.out 8 (.int .i64 N1) o2.ran (m' := { m with frames := r ++ [{ f2 with mark := N1 }], fuel := m.fuel - 1, ticks := m.ticks + 1, tick := (M1, f.pr, N1, m.tick.2.2.2) }) rfl rfl rfl rfl rfl
   have Q4 := Q3.1.putG HOG2.out 9 (.int .i64 (L1 : Int)) o2.ran (m' := { m with frames := r ++ [{ f2 with mark := N1 }], fuel := m.fuel - 1, ticks := m.ticks + 1, tick := (M1, f.pr, N1, (L1 : Int)) }) rfl rfl rfl rfl rfl
   have HQ4 := aa.mk Q4.1
   have MQ := aa.mk ((((M8.trans Q1.2 (fun k _ e => by subst e; simp [RMo.own])).trans Q2.2 (fun k _ e => by subst e; simp [RMo.own])).trans Q3.2 (fun k _ e => by subst e; simp [RMo.own])).trans Q4.2 (fun k _ e => by subst e; simp [RMo.own]))
   have fpr : f2.pr = f.pr := by rw [HF2.out, HF1.out]
   have k0 := P4.getF (K := K) (hs0 := hs0) (r := r) (f := { f2 with mark := N1 }) (h := { vc := vc, vs := .slice A nn cap2 }) HHO2.out rfl HFV2.out (by rw [HKK.out, HN1.out]) (j := 0) rfl
   have k2 := P4.getF (K := K) (hs0 := hs0) (r := r) (f := { f2 with mark := N1 }) (h := { vc := vc, vs := .slice A nn cap2 }) HHO2.out rfl HFV2.out (by rw [HKK.out, HN1.out]) (j := 2) rfl
   have l0 : w8.drew.cell? ⟨fb, K, none⟩ = some (.int .i64 f.pr) := by rw [← fpr]; exact k0.1
   have l2 : w8.drew.cell? ⟨fb, K + 2, none⟩ = some (.int .i64 N1) := k2.1
   have l1 : w8.drew.cell? ⟨o.g, 1, none⟩ = some (.slice (some ⟨fb, 0, none⟩) L1 cap) := by rw [← HOG2.out, HL1.out, ← HFV2.out]; exact ae P4.blk 1
   have x2 : w8.drew.cell? ⟨gb, 2, none⟩ = some (.int .i64 M1) := ae B8 2
   have q6 : w8.drew.cell? ⟨o.g, 6, none⟩ = some (.int .i64 m.tick.1) := by rw [← HOG2.out]; exact ae P4.blk 6
   have q7 : w8.drew.cell? ⟨o.g, 7, none⟩ = some (.int .i64 m.tick.2.1) := by rw [← HOG2.out]; exact ae P4.blk 7
   have q8 : w8.drew.cell? ⟨o.g, 8, none⟩ = some (.int .i64 m.tick.2.2.1) := by rw [← HOG2.out]; exact ae P4.blk 8
   have q9 : w8.drew.cell? ⟨o.g, 9, none⟩ = some (.int .i64 m.tick.2.2.2) := by rw [← HOG2.out]; exact ae P4.blk 9
   have f6 : w8.drew.frozen? ⟨o.g, 6, none⟩ = false := by rw [← HOG2.out]; exact ai P4.blk 6
   have f7 : w8.drew.frozen? ⟨o.g, 7, none⟩ = false := by rw [← HOG2.out]; exact ai P4.blk 7
   have f8 : w8.drew.frozen? ⟨o.g, 8, none⟩ = false := by rw [← HOG2.out]; exact ai P4.blk 8
   have f9 : w8.drew.frozen? ⟨o.g, 9, none⟩ = false := by rw [← HOG2.out]; exact ai P4.blk 9
   clear P4 Q1 Q2 Q3 Q4 k0 k2 M8 B8 fpr c4 c4f c5 c5f d2c d2f ef et
   refine wp_region_still_tail 19 (by kernel_rfl) (by kernel_rfl) ?_
   change wpStill _ _ w8.drew (fun a' => wpList _ _ _ _ a' w8.drew) _ _
   generalize w8.drew = w9 at *
   simp only [List.take_succ_cons, List.take_zero, List.drop_succ_cons, List.drop_zero]
   repeat still_step
   try refine wpStill_nil ?_
   go_wp2
   go_ret
   have hone : m.rone = ({ m with frames := r ++ [{ f2 with mark := N1 }], fuel := m.fuel - 1, ticks := m.ticks + 1, tick := (M1, f.pr, N1, (L1 : Int)) }, true) := by
    rw [gQ HF.out.fr (by rw [← HQ.out]; exact .inr (.inr (.inr (.inr h24)))), ← HQ.out, HF21.out, HL1.out, HN1.out]
    simp [Mc.does, h24, HFU.out, HF1.out]
   exact iH hone rfl ⟨o2, HS7.out, HQ4.out, MQ.out⟩
 have b24 : (op == 24) = false := Zh h24
 by_cases h21 : op = 21
 ·have b21 : (op == 21) = true := beq_iff_eq.2 h21
  have h1 : 1 ≤ f.stack.length := HF.out.print (by rw [← HQ.out]; exact h21)
  obtain ⟨hlt, hld⟩ := oW h1
  have hnn : nn = f.stack.length - 1 := by rw [HNN.out, HL.out, HT.out, h21]; rfl
  obtain ⟨x, hx⟩ : ∃ x, x = f.stack.getLastD 0 := ⟨_, rfl⟩
  have V := HV7.out
  rw [hnn, hld, ← hx] at V
  obtain ⟨sg, vc6, cur6, hv6, _, _, _, _, hvcell⟩ := gT V (by simp)
  have hv6' : v6 = .slice (some ⟨sg, 0, none⟩) 1 vc6 := hv6
  subst hv6'
  have vx : w7.drew.cell? ⟨sg, 0, none⟩ = some (.int .i64 x) := hvcell 0 x rfl
  obtain ⟨eA, eL, eC, hev⟩ : ∃ A l c, o2.ev = .slice A l c := by rcases HP7.out.ev.2 with ⟨h, _⟩ | ⟨_, _, _, h, _⟩ <;> exact ⟨_, _, _, h⟩
  have y10 : w7.drew.cell? ⟨o.g, 10, none⟩ = some (.slice eA eL eC) := by rw [← HOG2.out, ← hev]; exact ae HP7.out.drew.blk 10
  have HD8 : aa (ROn Rd w7.drew o2 m2) := ⟨HP7.out.drew⟩
  have HM8 : aa (Mod (fun k => k ∈ o.own) w w7.drew) := ⟨HM7.out.drew⟩
  have HE10 := aa.mk hev
  have hone : aa (m.rone = ({ m2 with events := m2.events ++ [(1, x)] }, false)) := ⟨by
   rw [gQ HF.out.fr (by rw [← HQ.out]; exact .inr (.inr (.inl h21))), ← HQ.out, HM2.out, HF2.out, HF1.out, hnn, hlt, hx]
   simp [Mc.does, h21]⟩
  have hcz : aa ((0 : Int) < 1) := ⟨by decide⟩
  have hlen : m2.events.length + 1 ≤ 4398046511104 := by have := HF.out.events; rw [HM2C.out.2.2.2.2.2]; omega
  have HLEN := aa.mk hlen
  clear h1 hlt hld hnn hx V hv6 hvcell hev hlen
  go_wp2
  rw [HE7.out]
  have y10b : w7.cell? ⟨o.g, 10, none⟩ = some (.slice eA eL eC) := y10
  have y10a := Lib.cell?_alloc_some (.cells #[.int .i64 1, .int .i64 x] 38) y10b
  have vxb : w7.cell? ⟨sg, 0, none⟩ = some (.int .i64 x) := vx
  have HEV : w7.ownsRow 0 38 2 (.slice eA eL eC) m2.events.length (evs m2.events) := HE10.out ▸ HP7.out.ev
  have HEV := aa.mk HEV
  go_region_law (refine fF 0 (by rfl) (.tmp 229) (.tmp 234) 35 38 (.agg #[.int .i64 0, .int .i64 0]) 2 16 rfl Tryd.underlying35 mO rfl (by decide) (by decide) (.slice eA eL eC) m2.events.length (evs m2.events) [.int .i64 1, .int .i64 x] rfl rfl rfl (by intro u hu; simp at hu; rcases hu with rfl | rfl <;> rfl) HEV.out.drew (Below.refl 0 _) (Nat.zero_le _) (by have := HLEN.out; omega) ?_; intro v1 w9 hown _ hgrow hat; obtain ⟨vA, vn, vC, hv1⟩ : ∃ A n c, v1 = .slice A n c := (by rcases hown.2 with ⟨h, _⟩ | ⟨_, _, _, h, _⟩ <;> exact ⟨_, _, _, h⟩); subst hv1; have hne := (gH HD8.out).2.1; rw [HE10.out] at hne; have hb := cZ HD8.out.blk hgrow (Ne.symm hne); have k4 : w9.cell? ⟨o.g, 10, none⟩ = some (.slice eA eL eC) := (by rw [← HOG2.out, ← HE10.out]; exact ae hb 10); have f4 : w9.frozen? ⟨o.g, 10, none⟩ = false := (by rw [← HOG2.out]; exact ai hb 10); have HEVN := HD8.out.event 1 x hown (by rw [HE10.out]; exact hgrow) (by rw [HE10.out]; exact hat); rw [HOG2.out] at HEVN; have HEVN := aa.mk HEVN.1; clear hown hgrow hat hne hb)
  all_goals
   go_wp2
   go_ret
   exact iH hone.out rfl (iw.then_ HS7.out HM8.out HEVN.out)
 have b21 : (op == 21) = false := Zh h21
 by_cases h22 : op = 22
 ·have b22 : (op == 22) = true := beq_iff_eq.2 h22
  have HF21 : aa (f2 = f1) := ⟨by rw [HF2.out, HNN.out, HT.out, h22, HL.out, ← HST.out]; simp [ek]⟩
  by_cases hre : m.read = m.input.length
  ·have HRE := aa.mk hre; clear hre
   obtain ⟨iA, iC, hiv⟩ : ∃ A cc, o2.iv = .slice A m.input.length cc := by obtain ⟨A, cc, h, _, _⟩ := HP7.out.inp; rw [HM2C.out.2.2.2.2.1] at h; exact ⟨A, cc, h⟩
   obtain ⟨IN, hIN⟩ : ∃ IN, IN = m.input.length := ⟨_, rfl⟩
   rw [← hIN] at hiv
   have y3 : w7.drew.cell? ⟨o.g, 3, none⟩ = some (.int .i64 (m.read : Int)) := by rw [← HOG2.out, ae HP7.out.drew.blk 3, ← HM2C.out.2.2.2.1]; rfl
   have y2 : w7.drew.cell? ⟨o.g, 2, none⟩ = some (.slice iA IN iC) := by rw [← HOG2.out, ← hiv]; exact ae HP7.out.drew.blk 2
   have y3' : w7.cell? ⟨o.g, 3, none⟩ = some (.int .i64 (m.read : Int)) := y3
   have y2' : w7.cell? ⟨o.g, 2, none⟩ = some (.slice iA IN iC) := y2
   have HIV := aa.mk hiv; have HIN := aa.mk hIN; clear hiv hIN
   have gg : decide ((IN : Int) ≤ (m.read : Int)) = true := Za (by rw [HIN.out, ← HRE.out]; omega)
   have gg2 : decide (IN ≤ m.read) = true := Za (by rw [HIN.out, ← HRE.out]; omega)
   have HEND : aa (Calls Tryd.prog 44 #[.pointer (some ⟨o.g, 0, none⟩), .int .i64 4, .int .i64 5] w7.drew (fun e w' => e = .returned (.tuple #[]) ∧ iw Rd w7.drew o2 (m2.endM 4 5) w')) := ⟨by
    have h := kT HP7.out.drew 4 5 (by have := HF.out.events; rw [HM2C.out.2.2.2.2.2]; omega)
    rwa [RMo.ptr, HOG2.out] at h⟩
   go_wp2
   rw [HE7.out]
   go_region_held3 (fun W => W.cell? ⟨o.g, 3, none⟩ = some (.int .i64 (m.read : Int)) ∧ W.cell? ⟨o.g, 2, none⟩ = some (.slice iA IN iC)) (first | exact ⟨y3, y2⟩ | exact ⟨y3', y2'⟩ | go_keep) (skip)
   go_wp2_with ((with_reducible refine ah (f := 44) rfl ?_); refine gl 251 Tryd.func44 #[.pointer (some ⟨o.g, 0, none⟩), .int .i64 4, .int .i64 5] ?_; refine HEND.out.mono ?_; rintro e w8 ⟨rfl, hA8⟩; have HA8 := aa.mk hA8; clear hA8; refine ⟨_, rfl, ?_⟩)
   go_ret
   have hone : m.rone = (m2.endM 4 5, false) := by
    rw [gQ HF.out.fr (by rw [← HQ.out]; exact .inr (.inr (.inr (.inl h22)))), ← HQ.out, HM2.out, HF21.out]
    simp [Mc.does, h22, HRE.out, HF1.out]
   exact iH hone rfl (iw.then_ HS7.out HM7.out.drew HA8.out)
  ·have HRE := aa.mk hre; clear hre
   obtain ⟨iA, iC, hiv⟩ : ∃ A cc, o2.iv = .slice A m.input.length cc := by obtain ⟨A, cc, h, _, _⟩ := HP7.out.inp; rw [HM2C.out.2.2.2.2.1] at h; exact ⟨A, cc, h⟩
   obtain ⟨IN, hIN⟩ : ∃ IN, IN = m.input.length := ⟨_, rfl⟩
   rw [← hIN] at hiv
   have y3 : w7.drew.cell? ⟨o.g, 3, none⟩ = some (.int .i64 (m.read : Int)) := by rw [← HOG2.out, ae HP7.out.drew.blk 3, ← HM2C.out.2.2.2.1]; rfl
   have y2 : w7.drew.cell? ⟨o.g, 2, none⟩ = some (.slice iA IN iC) := by rw [← HOG2.out, ← hiv]; exact ae HP7.out.drew.blk 2
   have y3' : w7.cell? ⟨o.g, 3, none⟩ = some (.int .i64 (m.read : Int)) := y3
   have y2' : w7.cell? ⟨o.g, 2, none⟩ = some (.slice iA IN iC) := y2
   have HIV := aa.mk hiv; have HIN := aa.mk hIN; clear hiv hIN
   have hrl : m.read < m.input.length := by have := HF.out.read; have := HRE.out; omega
   have gg : decide ((IN : Int) ≤ (m.read : Int)) = false := Zb (by rw [HIN.out]; omega)
   have gg2 : decide (IN ≤ m.read) = false := Zb (by rw [HIN.out]; omega)
   obtain ⟨X, hX⟩ : ∃ X, X = m.input.getD m.read 0 := ⟨_, rfl⟩
   obtain ⟨ia, hia, vI⟩ := HP7.out.jY HIV.out (j := m.read) (by rw [HM2C.out.2.2.2.2.1]; exact hrl)
   rw [HM2C.out.2.2.2.2.1, ← hX] at vI
   subst hia
   have q1 : (0 : Int) ≤ (m.read : Int) := by omega
   have q2 : (m.read : Int) < (IN : Int) := by rw [HIN.out]; omega
   obtain ⟨eA, eL, eC, hev⟩ : ∃ A l c, o2.ev = .slice A l c := by rcases HP7.out.ev.2 with ⟨h, _⟩ | ⟨_, _, _, h, _⟩ <;> exact ⟨_, _, _, h⟩
   have y10 : w7.cell? ⟨o.g, 10, none⟩ = some (.slice eA eL eC) := by rw [← HOG2.out, ← hev]; exact ae HP7.out.blk 10
   have y4 : w7.cell? ⟨fb, K + 4, none⟩ = some (.slice A nn cap2) := (HP7.out.getF (K := K) HHO2.out HM2F.out HFV2.out (by rw [HKK.out, HN1.out]) (j := 4) rfl).1
   have y4a := Lib.cell?_alloc_some (.cells #[.int .i64 X] 2) y4
   have hone : aa (m.rone = ({ m2 with frames := r ++ [{ f2 with stack := f2.stack ++ [X] }], events := m2.events ++ [(2, X)], read := m.read + 1 }, false)) := ⟨by
    rw [gQ HF.out.fr (by rw [← HQ.out]; exact .inr (.inr (.inr (.inl h22)))), ← HQ.out, HM2.out, HF21.out, hX]
    simp [Mc.does, h22, HRE.out, HF1.out]⟩
   have HLEN : aa (m2.events.length + 1 ≤ 4398046511104 ∧ f2.stack.length + 1 ≤ 1000000 ∧ m.read + 1 ≤ 1000000) := ⟨by
    have h1 := HF.out.events; have h2 := HF.out.stack f (by rw [HF.out.fr]; simp); have h3 := HF.out.inp
    rw [HM2C.out.2.2.2.2.2, HF21.out, HST.out]; omega⟩
   have er : IntKind.i64.wrap ((m.read : Int) + 1) = ((m.read + 1 : Nat) : Int) := by rw [IntWalk.i64_in _ (by have := HLEN.out; omega)]; rfl
   have HSTK : aa (w7.ownsRow 0 2 1 (.slice A nn cap2) f2.stack.length (ints f2.stack)) := ⟨(HP7.out.top HHO2.out HM2F.out).st⟩
   have HD : aa (ROn Rd w7.drew.drew o2 m2) := ⟨HP7.out.drew.drew⟩
   have HEVV := aa.mk hev; have HXX1 := aa.mk hX; have HRL := aa.mk hrl
   have hgo : gb ≠ o.g := fun e => HG2.out (e ▸ HOG2.out ▸ (by simp [RMo.own]))
   clear hev hX hrl
   go_wp2
   rw [HE7.out]
   go_region_held3 (fun W => W.cell? ⟨o.g, 3, none⟩ = some (.int .i64 (m.read : Int)) ∧ W.cell? ⟨o.g, 2, none⟩ = some (.slice (some ia) IN iC)) (first | exact ⟨y3, y2⟩ | exact ⟨y3', y2'⟩ | go_keep) (skip)
   go_wp2
   have vI' : w7.drew.drew.cell? (ia.add m.read) = some (.int .i64 X) := vI
   have z3 : w7.drew.drew.cell? ⟨o.g, 3, none⟩ = some (.int .i64 (m.read : Int)) := y3
   have z2 : w7.drew.drew.cell? ⟨o.g, 2, none⟩ = some (.slice (some ia) IN iC) := y2
   have nb1 := World.new_ne w7 _ y3'; have nb2 := World.new_ne w7 _ y2'; have nb3 := World.new_ne w7 _ vI
   apply oZ (F := fun vA vn vC w8 => w8.ownsRow 0 2 1 (.slice vA vn vC) (f2.stack.length + 1) (ints f2.stack ++ [.int .i64 X]) ∧ w7.drew.drew.grownBy w8 (Value.slice A nn cap2).ownBlock ∧ ((Value.slice vA vn vC).ownBlock = (Value.slice A nn cap2).ownBlock ∨ ∃ b, (Value.slice vA vn vC).ownBlock = some b ∧ w7.drew.drew.heap.size ≤ b))
   case reg =>
    intro HC
    go_region_law (refine fF 0 (by rfl) (.tmp 256) (.tmp 267) 23 2 (.int .i64 0) 1 8 rfl Tryd.underlying23 jd rfl (by decide) (by decide) (.slice A nn cap2) f2.stack.length (ints f2.stack) [.int .i64 X] rfl rfl rfl (by intro u hu; simp at hu; subst hu; rfl) HSTK.out.drew.drew (Below.refl 0 _) (Nat.zero_le _) (by have := HLEN.out; omega) ?_; intro v1 w8 hown _ hgrow hat; obtain ⟨vA, vn, vC, hv1⟩ : ∃ A n c, v1 = .slice A n c := (by rcases hown.2 with ⟨h, _⟩ | ⟨_, _, _, h, _⟩ <;> exact ⟨_, _, _, h⟩); subst hv1; have kf := HD.out.si (K := K) HHO2.out HM2F.out HFV2.out (by rw [HKK.out, HN1.out]) hgrow; have k4 : w8.cell? ⟨fb, K + 4, none⟩ = some (.slice A nn cap2) := kf.1; have f4 := kf.2; have HT := aa.mk (And.intro hown (And.intro hgrow hat)); clear hown hgrow hat kf)
    all_goals exact HC.out vA vn vC w8 HT.out
   intro vA vn vC w8 ⟨hown, hgrow, hat⟩
   have HAP := aa.mk (HD.out.appended (K := K) (s' := f2.stack ++ [X]) HHO2.out HM2F.out HFV2.out (by rw [HKK.out, HN1.out]) (by rw [show (f2.stack ++ [X]).length = f2.stack.length + 1 by simp, show ints (f2.stack ++ [X]) = ints f2.stack ++ [.int .i64 X] by simp [ints]]; exact hown) hgrow hat)
   have t3 : (w8.setCell ⟨fb, K + 4, none⟩ (.slice vA vn vC)).drew.cell? ⟨o.g, 3, none⟩ = some (.int .i64 (m.read : Int)) := (by rw [← HOG2.out, ← HM2C.out.2.2.2.1]; exact ae HAP.out.1.blk 3)
   have t2 : (w8.setCell ⟨fb, K + 4, none⟩ (.slice vA vn vC)).drew.cell? ⟨o.g, 2, none⟩ = some (.slice (some ia) IN iC) := (by rw [← HOG2.out, ← HIV.out]; exact ae HAP.out.1.blk 2)
   have tI : (w8.setCell ⟨fb, K + 4, none⟩ (.slice vA vn vC)).drew.cell? (ia.add m.read) = some (.int .i64 X) := (by obtain ⟨ia', e1, e2⟩ := HAP.out.1.jY HIV.out (j := m.read) (by show m.read < m2.input.length; rw [HM2C.out.2.2.2.2.1]; exact HRL.out); cases e1; rw [HXX1.out, ← HM2C.out.2.2.2.2.1]; exact e2)
   have t3' : (w8.setCell ⟨fb, K + 4, none⟩ (.slice vA vn vC)).cell? ⟨o.g, 3, none⟩ = some (.int .i64 (m.read : Int)) := t3
   have t2' : (w8.setCell ⟨fb, K + 4, none⟩ (.slice vA vn vC)).cell? ⟨o.g, 2, none⟩ = some (.slice (some ia) IN iC) := t2
   have tI' : (w8.setCell ⟨fb, K + 4, none⟩ (.slice vA vn vC)).cell? (ia.add m.read) = some (.int .i64 X) := tI
   clear hown hgrow hat
   obtain ⟨o3, ho3⟩ : ∃ o3 : RMo, o3 = { o2 with hs := hs0 ++ [{ vc := vc, vs := .slice vA vn vC }] } := ⟨_, rfl⟩
   obtain ⟨m3, hm3⟩ : ∃ m3 : Mc, m3 = { m2 with frames := r ++ [{ f2 with stack := f2.stack ++ [X] }] } := ⟨_, rfl⟩
   obtain ⟨w9, hw9⟩ : ∃ w9, w9 = w8.setCell ⟨fb, K + 4, none⟩ (.slice vA vn vC) := ⟨_, rfl⟩
   have P9 : ROn Rd w9 o3 m3 := by rw [hw9, ho3, hm3]; exact HAP.out.1
   have hs3 : jK w7.drew.drew o2 o3 := by rw [ho3]; exact HAP.out.2.2
   have hg3 : o3.g = o.g := by rw [ho3]; exact HOG2.out
   have hev3 : o3.ev = .slice eA eL eC := by rw [ho3]; exact HEVV.out
   have hme3 : m3.events = m2.events := by rw [hm3]
   have hM9 : Mod (fun k => k ∈ o.own) w w9 := by rw [hw9]; exact HM7.out.drew.drew.trans HAP.out.2.1 (fun k hk e => by
    have h1 : k ∈ o2.own := e.elim fZ (kD HHO2.out k)
    exact (HS7.out.2 k h1).elim id (fun h2 => by omega))
   rw [← hw9] at t3 t2 tI t3' t2' tI' ⊢
   have e10 : w9.cell? ⟨o.g, 10, none⟩ = some (.slice eA eL eC) := by rw [← hg3, ← hev3]; exact ae P9.blk 10
   have e10d : w9.drew.cell? ⟨o.g, 10, none⟩ = some (.slice eA eL eC) := e10
   have e10a := Lib.cell?_alloc_some (.cells #[.int .i64 2, .int .i64 X] 38) e10
   have HEV3 : aa (w9.ownsRow 0 38 2 (.slice eA eL eC) m2.events.length (evs m2.events)) := ⟨by rw [← hme3, ← hev3]; exact P9.ev⟩
   have nc1 := World.new_ne w9 _ t3'; have nc2 := World.new_ne w9 _ t2'; have nc3 := World.new_ne w9 _ e10; have nc4 := World.new_ne w9 _ tI'
   have HP9 := aa.mk P9; have HS3 := aa.mk hs3; have HG3 := aa.mk hg3; have HEV3E := aa.mk hev3; have HME3 := aa.mk hme3; have HM9 := aa.mk hM9; have HM3 := aa.mk hm3
   clear P9 ho3 hs3 hg3 hev3 hme3 hM9 hw9 hm3 HAP y3 y2 y3' y2' vI vI' z3 z2 y4 y4a y10 nb1 nb2 nb3
   go_wp2
   apply oZ (F := fun vA2 vn2 vC2 w10 => w10.ownsRow 0 38 2 (.slice vA2 vn2 vC2) (m2.events.length + 1) (evs m2.events ++ [.int .i64 2, .int .i64 X]) ∧ w9.drew.grownBy w10 (Value.slice eA eL eC).ownBlock ∧ ((Value.slice vA2 vn2 vC2).ownBlock = (Value.slice eA eL eC).ownBlock ∨ ∃ b, (Value.slice vA2 vn2 vC2).ownBlock = some b ∧ w9.drew.heap.size ≤ b))
   case reg =>
    intro HC
    go_region_law (refine fF 0 (by rfl) (.tmp 275) (.tmp 287) 35 38 (.agg #[.int .i64 0, .int .i64 0]) 2 16 rfl Tryd.underlying35 mO rfl (by decide) (by decide) (.slice eA eL eC) m2.events.length (evs m2.events) [.int .i64 2, .int .i64 X] rfl rfl rfl (by intro u hu; simp at hu; rcases hu with rfl | rfl <;> rfl) HEV3.out.drew (Below.refl 0 _) (Nat.zero_le _) (by have := HLEN.out; omega) ?_; intro v2 w10 hown _ hgrow hat; obtain ⟨vA2, vn2, vC2, hv2⟩ : ∃ A n c, v2 = .slice A n c := (by rcases hown.2 with ⟨h, _⟩ | ⟨_, _, _, h, _⟩ <;> exact ⟨_, _, _, h⟩); subst hv2; have hne := (gH HP9.out).2.1; rw [HEV3E.out] at hne; have hb := cZ HP9.out.drew.blk hgrow (by rw [HG3.out] at hne ⊢; exact Ne.symm hne); rw [HG3.out] at hb; have k10 : w10.cell? ⟨o.g, 10, none⟩ = some (.slice eA eL eC) := (by rw [← HEV3E.out]; exact ae hb 10); have f10 : w10.frozen? ⟨o.g, 10, none⟩ = false := ai hb 10; have HT := aa.mk (And.intro hown (And.intro hgrow hat)); clear hown hgrow hat hne hb)
    all_goals exact HC.out vA2 vn2 vC2 w10 HT.out
   intro vA2 vn2 vC2 w10 ⟨hown, hgrow, hat⟩
   have hne := (gH HP9.out).2.1
   rw [HEV3E.out] at hne
   have hb := cZ HP9.out.drew.blk hgrow (by rw [HG3.out] at hne ⊢; exact Ne.symm hne)
   rw [HG3.out] at hb
   have k3 : w10.cell? ⟨o.g, 3, none⟩ = some (.int .i64 (m.read : Int)) := (by have h1 : w10.cell? ⟨o.g, 3, none⟩ = some (.int .i64 (m3.read : Int)) := ae hb 3; rw [HM3.out] at h1; rw [← HM2C.out.2.2.2.1]; exact h1)
   have hbs := dH hb 10 (.slice vA2 vn2 vC2)
   have k3s : (w10.setCell ⟨o.g, 10, none⟩ (.slice vA2 vn2 vC2)).cell? ⟨o.g, 3, none⟩ = some (.int .i64 (m.read : Int)) := (by rw [ae hbs 3]; rw [ae hb 3] at k3; exact k3)
   have k3d : (w10.setCell ⟨o.g, 10, none⟩ (.slice vA2 vn2 vC2)).drew.cell? ⟨o.g, 3, none⟩ = some (.int .i64 (m.read : Int)) := k3s
   have f3s : (w10.setCell ⟨o.g, 10, none⟩ (.slice vA2 vn2 vC2)).frozen? ⟨o.g, 3, none⟩ = false := ai hbs 3
   have HEVN := HP9.out.drew.event 2 X (by rw [HME3.out]; exact hown) (by rw [HEV3E.out]; exact hgrow) (by rw [HEV3E.out]; exact hat)
   rw [HG3.out] at HEVN
   have HEVN := aa.mk HEVN.1
   clear hown hgrow hat hne hb hbs k3
   go_wp2
   go_ret
   obtain ⟨o4, hs4, H4, hM4⟩ := HEVN.out
   have hg4 : o4.g = o.g := hs4.1.trans HG3.out
   have P5 := H4.putG hg4 3 (.int .i64 ((m.read + 1 : Nat) : Int)) o4.ran (m' := { m2 with frames := r ++ [{ f2 with stack := f2.stack ++ [X] }], events := m2.events ++ [(2, X)], read := m.read + 1 }) (by rw [HM3.out]; rfl) (by rw [HM3.out]) (by rw [HM3.out]) (by rw [HM3.out]) (by rw [HM3.out])
   have hO3 : ∀ k, k < w.heap.size → k ∈ o3.own → k ∈ o.own := fun k hk h1 => by
    have hsz : w.heap.size ≤ w7.drew.drew.heap.size := HM7.out.drew.drew.size
    rcases HS3.out.2 k h1 with h2 | h2
    ·exact (HS7.out.2 k h2).elim id (fun h3 => by omega)
    ·omega
   refine iH hone.out rfl ⟨o4, ⟨hg4, fun k hk => ?_⟩, P5.1, (HM9.out.drew.trans hM4 hO3).trans P5.2 (fun k _ e => by subst e; simp [RMo.own])⟩
   have hsz9 : w.heap.size ≤ w9.drew.heap.size := HM9.out.drew.size
   rcases hs4.2 k hk with h1 | h1
   ·by_cases hlt : k < w.heap.size
    ·exact .inl (hO3 k hlt h1)
    ·exact .inr (by omega)
   ·exact .inr (by omega)
 have b22 : (op == 22) = false := Zh h22
 have FD : kW f1 ⟨op, N1, M1⟩ := by have h := HF.out.data; rw [← HQ.out] at h; rw [HF1.out]; exact h h19 h20 h21 h22 h24
 obtain ⟨A6, c6, hv6, hl6, hl6', hC6⟩ := ko HV7.out
 obtain ⟨vs6, hvs6⟩ : ∃ q, q = v6 := ⟨_, rfl⟩
 rw [HDL.out] at hv6 hl6
 have hT7 := HP7.out.top HHO2.out HM2F.out
 obtain ⟨A3, c3, hvc3, hl3, hl3', hC3⟩ := ko hT7.cs
 obtain ⟨A4, c4, hvs4, hl4, hl4', hC4⟩ := ko hT7.st
 simp only at hvc3 hvs4
 obtain ⟨CL, hCL⟩ : ∃ CL, CL = f2.cells.length := ⟨_, rfl⟩
 have hsl : f2.stack.length = nn := by rw [HF2.out]; show (f1.stack.take nn).length = nn; rw [List.length_take, HST.out, ← HL.out, HNN.out]; omega
 rw [← hCL] at hvc3 hl3
 rw [hsl] at hvs4 hl4
 obtain ⟨rfl, _, rfl⟩ := Value.slice.inj hvs4
 subst hvc3
 have hfc : f2.cells = f1.cells := by rw [HF2.out]
 have hfp : f2.pr = f1.pr ∧ f2.at_ = f1.at_ ∧ f2.mark = f1.mark := by rw [HF2.out]; exact ⟨rfl, rfl, rfl⟩
 have hlt : (f.stack.drop nn).length = ek op := by rw [HDL.out, HT.out]
 obtain ⟨kr, hkr⟩ := result_ok FD (f.stack.drop nn) hlt (fun x hx => HRR.out x (List.mem_of_mem_drop hx)) f1.pr f1.at_ f1.mark f2.stack
 obtain ⟨xs, tr, hxt⟩ : ∃ xs tr, (xs, tr) = fu f1.cells ⟨op, N1, M1⟩ (f.stack.drop nn) := ⟨_, _, rfl⟩
 rw [← hxt] at hkr
 have HDI := tu FD (s := f.stack.take nn) (l := f.stack.drop nn) (by rw [HST.out]; simp) hlt
 rw [← hxt] at HDI
 simp only at HDI
 have hcr := ak.calls kr f1.pr f1.at_ f1.mark A3 c3 f1.cells A cap2 f2.stack op N1 M1 A6 c6 (f.stack.drop nn) xs tr w7.drew (by rw [← hfc]; exact hC3) (by rw [← hfc, ← hCL]; exact hl3) hC4 (by rw [hsl]; exact hl4) hC6 (by rw [HDL.out]; exact hl6) hkr
 rw [← hfc, ← hCL, hsl, HDL.out] at hcr
 have HCR : aa (Calls Tryd.prog 55 #[.agg #[.int .i64 f1.pr, .int .i64 f1.at_, .int .i64 f1.mark, .slice A3 CL c3, .slice A nn cap2], .agg #[.int .i64 op, .int .i64 N1, .int .i64 M1], .slice A6 T c6] w7.drew _) := ⟨hcr⟩
 have fg : ∀ {j : Nat} {u : Value}, (eX { vc := .slice A3 CL c3, vs := .slice A nn cap2 } f2)[j]? = some u → w7.cell? ⟨fb, K + j, none⟩ = some u := fun hj => (HP7.out.getF (K := K) HHO2.out HM2F.out HFV2.out (by rw [HKK.out, HN1.out]) hj).1
 have u0 : w7.cell? ⟨fb, K, none⟩ = some (.int .i64 f1.pr) := by rw [← hfp.1]; exact fg (j := 0) rfl
 have u1 : w7.cell? ⟨fb, K + 1, none⟩ = some (.int .i64 f1.at_) := by rw [← hfp.2.1]; exact fg (j := 1) rfl
 have u2 : w7.cell? ⟨fb, K + 2, none⟩ = some (.int .i64 f1.mark) := by rw [← hfp.2.2]; exact fg (j := 2) rfl
 have u3 : w7.cell? ⟨fb, K + 3, none⟩ = some (.slice A3 CL c3) := fg (j := 3) rfl
 have u4 : w7.cell? ⟨fb, K + 4, none⟩ = some (.slice A nn cap2) := fg (j := 4) rfl
 have x0 : w7.cell? ⟨gb, 0, none⟩ = some (.int .i64 op) := ae HB7.out 0
 have x1 : w7.cell? ⟨gb, 1, none⟩ = some (.int .i64 N1) := ae HB7.out 1
 have x2 : w7.cell? ⟨gb, 2, none⟩ = some (.int .i64 M1) := ae HB7.out 2
 have hfbl : fb < w7.heap.size := HP7.out.lt fb (fZ HOB2.out)
 have hgbl : gb < w7.heap.size := bF HB7.out
 have w0 : w7.drew.cell? ⟨fb, K, none⟩ = some (.int .i64 f1.pr) := u0
 have w1' : w7.drew.cell? ⟨fb, K + 1, none⟩ = some (.int .i64 f1.at_) := u1
 have w2' : w7.drew.cell? ⟨fb, K + 2, none⟩ = some (.int .i64 f1.mark) := u2
 have w3' : w7.drew.cell? ⟨fb, K + 3, none⟩ = some (.slice A3 CL c3) := u3
 have w4' : w7.drew.cell? ⟨fb, K + 4, none⟩ = some (.slice A nn cap2) := u4
 have x0' : w7.drew.cell? ⟨gb, 0, none⟩ = some (.int .i64 op) := x0
 have x1' : w7.drew.cell? ⟨gb, 1, none⟩ = some (.int .i64 N1) := x1
 have x2' : w7.drew.cell? ⟨gb, 2, none⟩ = some (.int .i64 M1) := x2
 have HFD := aa.mk FD; have HHDI := aa.mk HDI; have HC6 := aa.mk hC6; have HSL := aa.mk hsl; have HFC := aa.mk hfc; have HV6 := aa.mk hv6; have HXT := aa.mk hxt; have HLT := aa.mk hlt; have HFB := aa.mk hfbl; have HGB7 := aa.mk hgbl
 clear FD hT7 hC3 hC4 hCL hsl hfc hfp hlt hkr hcr HDI hxt hl3 hl3' hl4 hl4' hl6 hl6' fg hfbl hgbl hC6 hvs6
 subst hv6
 go_wp2
 rw [HE7.out]
 go_region_held3 (fun W => W.cell? ⟨fb, K, none⟩ = some (.int .i64 f1.pr) ∧ W.cell? ⟨fb, K + 1, none⟩ = some (.int .i64 f1.at_) ∧ W.cell? ⟨fb, K + 2, none⟩ = some (.int .i64 f1.mark) ∧ W.cell? ⟨fb, K + 3, none⟩ = some (.slice A3 CL c3) ∧ W.cell? ⟨fb, K + 4, none⟩ = some (.slice A nn cap2) ∧ W.cell? ⟨gb, 0, none⟩ = some (.int .i64 op) ∧ W.cell? ⟨gb, 1, none⟩ = some (.int .i64 N1) ∧ W.cell? ⟨gb, 2, none⟩ = some (.int .i64 M1)) (first | exact ⟨w0, w1', w2', w3', w4', x0', x1', x2'⟩ | exact ⟨u0, u1, u2, u3, u4, x0, x1, x2⟩ | exact ⟨by assumption, by assumption, by assumption, by assumption, by assumption, by assumption, by assumption, by assumption⟩) (((with_reducible refine HCR.out.mono ?_); rintro e w8 ⟨v8, rfl, ho8, hb8⟩; have bf : ∀ {a : Addr}, w8.heap[a.block]? = w7.drew.heap[a.block]? → w8.cell? a = w7.drew.cell? a := (fun h => World.cell?_of_block h); have s0 := (bf (a := ⟨fb, K, none⟩) (hb8.block fb HFB.out)).trans w0; have s1 := (bf (a := ⟨fb, K + 1, none⟩) (hb8.block fb HFB.out)).trans w1'; have s2 := (bf (a := ⟨fb, K + 2, none⟩) (hb8.block fb HFB.out)).trans w2'; have s3 := (bf (a := ⟨fb, K + 3, none⟩) (hb8.block fb HFB.out)).trans w3'; have s4 := (bf (a := ⟨fb, K + 4, none⟩) (hb8.block fb HFB.out)).trans w4'; have y0 := (bf (a := ⟨gb, 0, none⟩) (hb8.block gb HGB7.out)).trans x0'; have y1 := (bf (a := ⟨gb, 1, none⟩) (hb8.block gb HGB7.out)).trans x1'; have y2 := (bf (a := ⟨gb, 2, none⟩) (hb8.block gb HGB7.out)).trans x2'; have HO8 := aa.mk ho8; have HB8 := aa.mk hb8; clear ho8 hb8 bf))
 have HP8 : aa (ROn Rd w8 o2 m2) := ⟨HP7.out.drew.below HB8.out⟩
 have HM8 : aa (Mod (fun k => k ∈ o.own) w w8) := ⟨HM7.out.drew.trans (Mod.of_below HB8.out (fun k => k ∈ o.own)) (fun _ _ h => h)⟩
 by_cases htr : tr = 0
 ·have kt : (tr != 0) = false := by rw [htr]; rfl
  have HTR := aa.mk htr
  have hres : fu f2.cells ⟨op, N1, M1⟩ (f.stack.drop nn) = (xs, tr) := by rw [HFC.out]; exact HXT.out.symm
  have HCS : aa (Calls Tryd.prog 56 #[.pointer (some ⟨fb, K, none⟩), .agg #[.int .i64 op, .int .i64 N1, .int .i64 M1], .slice A6 T c6] w8 (nk Rd w8 o2 { m2 with frames := r ++ [fH f2 ⟨op, N1, M1⟩ (f.stack.drop nn)] })) := ⟨by
   have hv8 : w8.ownsRow 0 2 1 (.slice A6 T c6) (f.stack.drop nn).length (ints (f.stack.drop nn)) := bZ HV7.out (fun k e => HB8.out.block k (HV7.out.lt k e).2)
   exact rstore_on HP8.out HHO2.out HM2F.out HFV2.out (by rw [HKK.out, HN1.out]) HFD.out HFC.out.symm (f.stack.drop nn) HLT.out (by rw [hres]; exact HTR.out) _ hv8⟩
  obtain ⟨f3, hf3⟩ : ∃ f3 : Fr, f3 = fH f2 ⟨op, N1, M1⟩ (f.stack.drop nn) := ⟨_, rfl⟩
  rw [← hf3] at HCS
  have hst3 : f3.stack = f2.stack := by
   rw [hf3]; unfold fH
   split
   ·rfl
   ·split
    ·rfl
    ·split
     ·rfl
     ·split
      ·rfl
      ·split
       ·split <;> rfl
       ·rfl
  have hone : aa (m.rone = ({ m2 with frames := r ++ [{ f3 with stack := f2.stack ++ xs }] }, false)) := ⟨by
   have h5 : (cO f1 ⟨op, N1, M1⟩).2 = 0 := HHDI.out.1.trans HTR.out
   have h6 : ¬ (op = 19 ∨ op = 20 ∨ op = 21 ∨ op = 22 ∨ op = 24) := by simp [h19, h20, h21, h22, h24]
   have h7 := HHDI.out.2.1 HTR.out
   have h8 : f2 = { f1 with stack := f.stack.take nn } := by rw [HF2.out, HST.out]
   unfold Mc.rone
   rw [HF.out.fr]
   simp only [List.getLast?_append, List.getLast?_singleton, Option.some_or, List.dropLast_concat]
   rw [← HQ.out, ← HF1.out]
   unfold Mc.rdoes
   rw [if_neg h6, if_pos h5, h7, ← h8, ← hf3, HM2.out]
   rw [h8]⟩
  obtain ⟨xA, xc, hx8, _, _, _⟩ := ko (mG HO8.out).1
  subst hx8
  have HX8 : aa (w8.ownsRow 0 2 1 (.slice xA xs.length xc) xs.length (ints xs) ∧ ∀ k, (Value.slice xA xs.length xc).ownBlock = some k → w7.heap.size ≤ k) := ⟨mG HO8.out⟩
  obtain ⟨XL, hXL⟩ : ∃ XL, XL = xs.length := ⟨_, rfl⟩
  rw [← hXL] at HX8 ⊢
  have HXL := aa.mk hXL; have HST3 := aa.mk hst3
  have HSLN : aa (f2.stack.length + xs.length ≤ 1000000) := ⟨by
   have h2 := HF.out.stack f (by rw [HF.out.fr]; simp)
   have h3 : xs.length ≤ 1 := by
    have h4 : xs = (fu f2.cells ⟨op, N1, M1⟩ (f.stack.drop nn)).1 := by rw [hres]
    rw [h4]; unfold fu
    repeat' split
    all_goals simp
   rw [HSL.out, HNN.out, HL.out]; omega⟩
  clear htr hres hf3 hst3 hXL
  go_wp2_with (first | ((with_reducible refine ah (f := 56) rfl ?_); refine gl 106 Tryd.func56 #[.pointer (some ⟨fb, K, none⟩), .agg #[.int .i64 op, .int .i64 N1, .int .i64 M1], .slice A6 T c6] ?_; refine HCS.out.mono ?_; rintro e w9 ⟨rfl, H9, M9⟩; have g4 := H9.getF (K := K) (h := { vc := .slice A3 CL c3, vs := .slice A nn cap2 }) HHO2.out rfl HFV2.out (by rw [HKK.out, HN1.out]) (j := 4) rfl; have g4c : w9.cell? ⟨fb, K + 4, none⟩ = some (.slice A nn cap2) := g4.1; have HSTK9 : aa (w9.ownsRow 0 2 1 (.slice A nn cap2) f2.stack.length (ints f2.stack)) := ⟨(by have h := (H9.top (h := { vc := .slice A3 CL c3, vs := .slice A nn cap2 }) HHO2.out rfl).st; rw [HST3.out] at h; exact h)⟩; have HXR : aa (w9.ownsRow 0 2 1 (.slice xA XL xc) xs.length (ints xs)) := ⟨(by rw [← HXL.out]; exact bZ HX8.out.1 (fun k e => M9.block k (HX8.out.1.lt k e).2 (fun h => (by have h1 := HX8.out.2 k e; have h2 := HP7.out.lt k h; omega))))⟩; have H9 := aa.mk H9; have M9 := aa.mk M9; clear g4; refine ⟨_, rfl, ?_⟩) | (at_builtin; refine jr rfl (.tmp 111) (.tmp 112) rfl Tryd.underlying23 jd (.slice A nn cap2) (.slice xA XL xc) f2.stack xs rfl rfl HSTK9.out HXR.out HSLN.out ?app))
  case app =>
   intro v1 w10 hown hgrow hat
   obtain ⟨vA, vn, vC, rfl⟩ : ∃ A n c, v1 = .slice A n c := by rcases hown.2 with ⟨h, _⟩ | ⟨_, _, _, h, _⟩ <;> exact ⟨_, _, _, h⟩
   have kf := H9.out.si (K := K) HHO2.out rfl HFV2.out (by rw [HKK.out, HN1.out]) hgrow
   have k4 : w10.cell? ⟨fb, K + 4, none⟩ = some (.slice A nn cap2) := kf.1
   have f4 := kf.2
   have HAP := aa.mk (H9.out.appended (K := K) (s' := f2.stack ++ xs) HHO2.out rfl HFV2.out (by rw [HKK.out, HN1.out]) (by rw [List.length_append]; exact hown) hgrow hat)
   clear hown hgrow hat kf
   go_wp2
   go_ret
   obtain ⟨H10, M10, S10⟩ := HAP.out
   have hO2 : ∀ k, k < w.heap.size → k ∈ o2.own → k ∈ o.own := fun k hk h1 => (HS7.out.2 k h1).elim id (fun h3 => by omega)
   have hsz : w.heap.size ≤ w9.heap.size := (HM8.out.trans M9.out hO2).size
   exact iH hone.out rfl ⟨_, ⟨S10.1.trans HOG2.out, fun k hk => (S10.2 k hk).elim (fun h1 => by
    by_cases hlt : k < w.heap.size
    ·exact .inl (hO2 k hlt h1)
    ·exact .inr (by omega)) (fun h1 => .inr (by omega))⟩, H10, (HM8.out.trans M9.out hO2).trans M10 (fun k hk e => hO2 k hk (e.elim fZ (kD HHO2.out k)))⟩
 ·have kt : (tr != 0) = true := bne_iff_ne.mpr htr
  have HTR := aa.mk htr
  have hone : aa (m.rone = (m2.endM 4 tr, false)) := ⟨by
   have h5 : (cO f1 ⟨op, N1, M1⟩).2 = tr := HHDI.out.1
   have h6 : ¬ (op = 19 ∨ op = 20 ∨ op = 21 ∨ op = 22 ∨ op = 24) := by simp [h19, h20, h21, h22, h24]
   unfold Mc.rone
   rw [HF.out.fr]
   simp only [List.getLast?_append, List.getLast?_singleton, Option.some_or, List.dropLast_concat]
   rw [← HQ.out, ← HF1.out]
   unfold Mc.rdoes
   rw [if_neg h6, h5, if_neg htr, HM2.out, HF2.out, HST.out, ← HL.out, HNN.out, HT.out]⟩
  have HEND : aa (Calls Tryd.prog 44 #[.pointer (some ⟨o.g, 0, none⟩), .int .i64 4, .int .i64 tr] w8 (fun e w' => e = .returned (.tuple #[]) ∧ iw Rd w8 o2 (m2.endM 4 tr) w')) := ⟨by
   have h := kT HP8.out 4 tr (by have := HF.out.events; rw [HM2C.out.2.2.2.2.2]; omega)
   rwa [RMo.ptr, HOG2.out] at h⟩
  clear htr
  go_wp2_with ((with_reducible refine ah (f := 44) rfl ?_); refine gl 102 Tryd.func44 #[.pointer (some ⟨o.g, 0, none⟩), .int .i64 4, .int .i64 tr] ?_; refine HEND.out.mono ?_; rintro e w9 ⟨rfl, hA9⟩; have HA9 := aa.mk hA9; clear hA9; refine ⟨_, rfl, ?_⟩)
  go_ret
  exact iH hone.out rfl (iw.then_ HS7.out HM8.out HA9.out)
end
end Go.Proofs.YthckiolgpgplpaaDoor
