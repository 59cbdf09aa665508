/- The walks of the machine, by hand. -/
import Derived.Test.YthckiolgpgplpaaDoorVM0
set_option linter.unusedVariables false
set_option linter.unusedSimpArgs false
set_option maxRecDepth 1000000
set_option maxHeartbeats 1000000
namespace Go.Proofs.YthckiolgpgplpaaDoor
open Go.RowKit YC YA YB YD YE
theorem dP {P : Program} {c : Code} {Q : Exit → Act → World → Prop} {a : Act} {w : World} (hQ : ∀ l a w, Q (.goto l) a w → False) (h : c.wp P Q a w) : (Code.scope c).wp P Q a w := wp_scope_straight (Code.wp_mono (fun e a w q => by cases e <;> first | exact q | exact (hQ _ _ _ q).elim) h)
section
variable {Rd : Nat → Prop} {w : World} {o : MHo} {m : Mc}
theorem MOn.setAt (H : MOn Rd w o m) {hs0 : List Ho} {h : Ho} {r : List Fr} {f : Fr} (ho : o.hs = hs0 ++ [h]) (hf : m.frames = r ++ [f]) (n : Int) : MOn Rd (w.setCell ⟨h.g, 1, none⟩ (.int .i64 n)) o { m with frames := r ++ [{ f with at_ := n }] } := by
 have := H.lw (w' := w.setCell ⟨h.g, 1, none⟩ (.int .i64 n)) (vs' := h.vs) ho hf ((Mod.refl _ w).setCell (p := ⟨h.g, 1, none⟩) (fun _ => by simp [Ho.blocks]) _) (fun k e => .inl e) ((H.top ho hf).setAt n)
 rw [show ({ o with hs := hs0 ++ [{ h with vs := h.vs }] } : MHo) = o by rw [show ({ h with vs := h.vs } : Ho) = h from rfl, ← ho]] at this
 exact this
structure Road (Inv : Nat → Mc → Prop) : Prop where
 fits : ∀ k m, Inv k m → m.ended = false → ∃ r f, Fits m r f
 next : ∀ k m, Inv (k + 1) m → m.ended = false → m.one.2 = false → m.one.1.ended = false → Inv k m.one.1
theorem iE {m mm : Mc} (h : m.one = (mm, false)) (he : mm.ended = false) (k : Nat) : m.steps (k + 1) = mm.steps k := by
 show (if m.one.2 = true then (m.one.1, true) else if m.one.1.ended = true then (m.one.1, false) else Mc.steps k m.one.1) = _
 rw [h, if_neg (by simp), if_neg (by simp [he])]
theorem jh {m mm : Mc} (h : m.one = (mm, false)) (he : mm.ended = true) (k : Nat) : m.steps (k + 1) = (mm, false) := by
 show (if m.one.2 = true then (m.one.1, true) else if m.one.1.ended = true then (m.one.1, false) else Mc.steps k m.one.1) = _
 rw [h, if_neg (by simp), if_pos he]
theorem nR {m mm : Mc} (h : m.one = (mm, true)) (k : Nat) : m.steps (k + 1) = (mm, true) := by
 show (if m.one.2 = true then (m.one.1, true) else if m.one.1.ended = true then (m.one.1, false) else Mc.steps k m.one.1) = _
 rw [h, if_pos rfl]
def After (Rd : Nat → Prop) (w : World) (o : MHo) (mm : Mc) (w5 : World) : Prop := ∃ o2, Sub w o o2 ∧ MOn Rd w5 o2 mm ∧ Mod (fun k => k ∈ o.own) w w5
theorem After.of {w4 w5 : World} {o1 : MHo} {mm : Mc} {v : Value} {e : Ending} (h3 : Sub w o o1) (h4 : Mod (fun k => k ∈ o.own) w w4) (hp : gN Rd w4 o1 mm v e w5) : e = .returned v ∧ After Rd w o mm w5 := by
 obtain ⟨he, o2, hs, hM, hm⟩ := hp
 exact ⟨he, o2, h3.trans h4.size hs, hM, h4.trans hm (fun k hk h => (h3.2 k h).elim id (fun e => by omega))⟩
theorem After.ended {mm : Mc} {w5 : World} (h : After Rd w o mm w5) : w5.cell? ⟨o.g, 11, none⟩ = some (.bool mm.ended) := by
 obtain ⟨o2, hs, hM, _⟩ := h
 rw [← hs.1]; exact ae hM.blk 11
theorem After.ticks {mm : Mc} {w5 : World} (h : After Rd w o mm w5) : w5.cell? ⟨o.g, 5, none⟩ = some (.int .i64 mm.ticks) := by
 obtain ⟨o2, hs, hM, _⟩ := h
 rw [← hs.1]; exact ae hM.blk 5
theorem After.end_ {mm : Mc} {w5 : World} (h : After Rd w o mm w5) (kd x : Int) (hl : mm.events.length + 1 ≤ 4398046511104) :
  Calls Tryd.prog 41 #[.pointer (some ⟨o.g, 0, none⟩), .int .i64 kd, .int .i64 x] w5 (fun e w' => e = .returned (.tuple #[]) ∧ After Rd w o (mm.endM kd x) w') := by
 obtain ⟨o2, hs, hM, hm⟩ := h
 have h1 := qD hM kd x hl
 rw [MHo.ptr, hs.1] at h1
 exact h1.mono (fun e w' hp => After.of hs hm hp)
theorem After.post {mm : Mc} {w5 : World} {v : Value} (h : After Rd w o mm w5) : gN Rd w o mm v (.returned v) w5 := by
 obtain ⟨o2, hs, hM, hm⟩ := h
 exact ⟨rfl, o2, hs, hM, hm⟩
theorem After.drew {mm : Mc} {w5 : World} (h : After Rd w o mm w5) : After Rd w o mm w5.drew := by
 obtain ⟨o2, hs, hM, hm⟩ := h
 exact ⟨o2, hs, hM.drew, hm.drew⟩
theorem After.event {mm : Mc} {w5 : World} (h : After Rd w o mm w5) (kd x : Int) (hl : mm.events.length + 1 ≤ 4398046511104) :
  Calls Tryd.prog 36 #[.pointer (some ⟨o.g, 0, none⟩), .int .i64 kd, .int .i64 x] w5 (fun e w' => e = .returned (.tuple #[]) ∧ After Rd w o { mm with events := mm.events ++ [(kd, x)] } w') := by
 obtain ⟨o2, hs, hM, hm⟩ := h
 have h1 := rJ hM kd x hl
 rw [show o2.ptr = .pointer (some ⟨o.g, 0, none⟩) by rw [MHo.ptr, hs.1]] at h1
 refine h1.mono ?_
 rintro e w' ⟨rfl, v1, hv, hM2, hmod⟩
 refine ⟨rfl, _, hs.trans hm.size (mD hv), hM2, hm.trans hmod (fun k hk h => ?_)⟩
 have hin : k ∈ o2.own := by
  rcases h with rfl | h
  ·simp [MHo.own]
  ·simp [MHo.own, h]
 exact (hs.2 k hin).elim id (fun e => by omega)
theorem top_pop (H : MOn Rd w o m) {hs0 : List Ho} {h : Ho} {r : List Fr} {f : Fr} (ho : o.hs = hs0 ++ [h]) (hf : m.frames = r ++ [f]) (s : List Int) (x : Int) (hst : f.stack = s ++ [x]) :
  Calls Tryd.prog 37 #[h.ptr] w (gN Rd w o { m with frames := r ++ [{ f with stack := s }] } (.int .i64 x)) := by
 refine ((H.top ho hf).pop s x hst).mono ?_
 rintro e w' ⟨rfl, vs', hv, HF, HM⟩
 have hM : Mod (fun k => k ∈ h.blocks) w w' := HM.mono (fun k _ e => by subst e; simp [Ho.blocks])
 have hv2 : ∀ k, vs'.ownBlock = some k → h.vs.ownBlock = some k ∨ w.heap.size ≤ k := fun k e => .inl (hv ▸ e)
 exact ⟨rfl, _, iU ho hv2, H.lw ho hf hM hv2 HF, hM.mono (fun k _ hk => iO ho k hk)⟩
theorem top_data (H : MOn Rd w o m) {hs0 : List Ho} {h : Ho} {r : List Fr} {f : Fr} (ho : o.hs = hs0 ++ [h]) (hf : m.frames = r ++ [f]) (i : S43) (F : kW f i) :
  Calls Tryd.prog 40 #[h.ptr, .agg #[.int .i64 i.f0, .int .i64 i.f1, .int .i64 i.f2]] w (gN Rd w o { m with frames := r ++ [(cO f i).1] } (.int .i64 (cO f i).2)) := by
 refine (data_calls (H.top ho hf) i F).mono ?_
 rintro e w' ⟨rfl, vs', hv, HF, hM⟩
 exact ⟨rfl, _, iU ho hv, H.lw ho hf hM hv HF, hM.mono (fun k _ hk => iO ho k hk)⟩
theorem top_push (H : MOn Rd w o m) {hs0 : List Ho} {h : Ho} {r : List Fr} {f : Fr} (ho : o.hs = hs0 ++ [h]) (hf : m.frames = r ++ [f]) (x : Int) (hl : f.stack.length + 1 ≤ 1000000) :
  Calls Tryd.prog 38 #[h.ptr, .int .i64 x] w fun e w' => e = .returned (.tuple #[]) ∧ ∃ o', o'.iv = o.iv ∧ Sub w o o' ∧ MOn Rd w' o' { m with frames := r ++ [{ f with stack := f.stack ++ [x] }] } ∧ Mod (fun k => k ∈ o.own) w w' := by
 refine ((H.top ho hf).push x hl).mono ?_
 rintro e w' ⟨rfl, vs', hv, HF, HM⟩
 have hM : Mod (fun k => k ∈ h.blocks) w w' := HM.mono (fun k _ e => by rcases e with rfl | e <;> simp [Ho.blocks, *])
 exact ⟨rfl, { o with hs := hs0 ++ [{ h with vs := vs' }] }, rfl, iU ho hv, H.lw ho hf hM hv HF, hM.mono (fun k _ hk => iO ho k hk)⟩
theorem MOn.setRead (H : MOn Rd w o m) : MOn Rd (w.setCell ⟨o.g, 3, none⟩ (.int .i64 ((m.read : Int) + 1))) o { m with read := m.read + 1 } := by
 have ga := iB H
 have hM : Mod (fun k => k = o.g) w (w.setCell ⟨o.g, 3, none⟩ (.int .i64 ((m.read : Int) + 1))) := (Mod.refl (fun k => k = o.g) w).setCell (p := ⟨o.g, 3, none⟩) (fun _ => rfl) _
 refine H.jy hM (fun k _ e => by subst e; simp [MHo.own]) (dH H.blk 3 _) ?_ ?_ ?_ H.nd (fun k h => .inl h) rfl rfl rfl rfl
 ·exact dE H.fr (p := ⟨o.g, 3, none⟩) (fun e => ga.1 e.symm) _
 ·exact dE H.ev (p := ⟨o.g, 3, none⟩) (fun e => ga.2.1 e.symm) _
 ·exact fU H.frs (fun k hk => hM.block k (iD H.frs k hk) (fun e => by subst e; exact ga.2.2 hk))
theorem After.read {mm : Mc} {w5 : World} (h : After Rd w o mm w5) : After Rd w o { mm with read := mm.read + 1 } (w5.setCell ⟨o.g, 3, none⟩ (.int .i64 ((mm.read : Int) + 1))) := by
 obtain ⟨o2, hs, hM, hm⟩ := h
 have h1 := hM.setRead
 rw [hs.1] at h1
 exact ⟨o2, hs, h1, hm.setCell (p := ⟨o.g, 3, none⟩) (fun _ => by simp [MHo.own]) _⟩
theorem iI {m : Mc} {r : List Fr} {f : Fr} (h : m.frames = r ++ [f]) : m.one = m.does r { f with at_ := f.at_ + 1 } (m.ins f) := by
 unfold Mc.one
 rw [h]
 simp
theorem step_any {Inv : Nat → Mc → Prop} (R : Road Inv) (H : MOn Rd w o m) (N : Nat) (hN : N = 1048576) (hi : Inv N m) (he : m.ended = false) :
  Calls Tryd.prog 21 #[o.ptr] w (gN Rd w o (m.steps N).1 (.bool (m.steps N).2)) := by
 have a8 : w.cell? ⟨o.g, 11, none⟩ = some (.bool false) := by rw [ae H.blk 11, ← he]; rfl
 have a5 : w.cell? ⟨o.g, 5, none⟩ = some (.int .i64 m.ticks) := ae H.blk 5
 have HH := aa.mk H; have HN := aa.mk hN; have HI := aa.mk hi; have HE := aa.mk he; have HR := aa.mk R
 have hu24 := Tryd.underlying24
 clear H hN hi he R
 show Calls Tryd.prog 21 #[.pointer (some ⟨o.g, 0, none⟩)] w _
 go_enter Tryd.func21, Tryd.ntmps21
 go_wp2_with (fail)
 refine dP (fun _ _ _ h_ => h_) ?_
 go_wp2_with ((with_reducible refine wp_label ?_))
 go_loopg [19] N (fun gk v19 W => ∃ (x : Nat) (o1 : MHo) (m1 : Mc), v19 = .int .i64 (x : Int) ∧ aa (gk + x = N) ∧ aa (MOn Rd W o1 m1) ∧ aa (Sub w o o1) ∧ aa (Mod (fun k => k ∈ o.own) w W) ∧ aa (Inv gk m1) ∧ aa (m1.ended = false) ∧ aa (m.steps N = m1.steps gk) ∧ aa (m1.ticks = m.ticks))
 case atStart => exact ⟨0, o, m, rfl, ⟨by omega⟩, HH, ⟨Sub.refl _ _⟩, ⟨Mod.refl _ _⟩, HI, HE, ⟨rfl⟩, ⟨rfl⟩⟩
 case round =>
  obtain ⟨x, o1, m1, rfl, A1, A2, A3, A4, A5, A6, A7, A8⟩ := hrel
  obtain ⟨r, f, hF⟩ := HR.out.fits gk m1 A5.out A6.out
  have hg1 : o1.g = o.g := A3.out.1
  have HF := aa.mk hF; clear hF
  rcases Nat.eq_zero_or_pos gk with h0 | h0
  ·have hx : decide ((x : Int) < 1048576) = false := Zb (by have := A1.out; have := HN.out; omega)
   have b8 : wr.cell? ⟨o.g, 11, none⟩ = some (.bool false) := by rw [← hg1, ae A2.out.blk 11, ← A6.out]; rfl
   have b5 : wr.cell? ⟨o.g, 5, none⟩ = some (.int .i64 m.ticks) := by rw [← hg1, ← A8.out]; exact ae A2.out.blk 5
   have HEND : aa (Calls Tryd.prog 41 #[.pointer (some ⟨o.g, 0, none⟩), .int .i64 5, .int .i64 0] wr (gN Rd wr o1 (m1.endM 5 0) (.tuple #[]))) := ⟨by
    have h := qD A2.out 5 0 (by have := HF.out.events; omega)
    rw [MHo.ptr, hg1] at h
    exact h⟩
   have HG := aa.mk hg1; have H0 := aa.mk h0; clear hg1 h0
   go_wp2_with (first | (with_reducible refine wp_label ?_) | ((with_reducible refine ah (f := 41) rfl ?_); refine gl 154 Tryd.func41 #[.pointer (some ⟨o.g, 0, none⟩), .int .i64 5, .int .i64 0] ?_; refine HEND.out.mono ?_; rintro e w3 ⟨rfl, o3, hsub3, HM3, hmod⟩; have HP := aa.mk (And.intro hsub3 (And.intro HM3 hmod)); clear hsub3 HM3 hmod; refine ⟨_, rfl, ?_⟩))
   go_ret
   obtain ⟨hsub3, HM3, hmod⟩ := HP.out
   have hz := H0.out; subst hz
   rw [A7.out]
   exact ⟨rfl, o3, A3.out.trans A4.out.size hsub3, HM3, A4.out.trans hmod (fun k hk h => (A3.out.2 k h).elim id (fun e => by omega))⟩
  ·obtain ⟨gk, rfl⟩ : ∃ j, gk = j + 1 := ⟨gk - 1, by omega⟩
   have hx : decide ((x : Int) < 1048576) = true := Za (by have := A1.out; have := HN.out; omega)
   have hxi : (x : Int) ≤ 1048575 := by have := A1.out; have := HN.out; omega
   obtain ⟨hs0, h, hho, hhl⟩ := A2.out.split HF.out.fr
   have HFR0 := A2.out.top hho HF.out.fr
   obtain ⟨fg, fc, hfv, hc1, hc2, hcell⟩ := nI A2.out HF.out.fr
   obtain ⟨ad, cc, bd, c0, hcv, hx0, hy0, hy1, hy2⟩ := ins_at A2.out HF.out
   obtain ⟨L1, hL1⟩ : ∃ L1, L1 = r.length + 1 := ⟨_, rfl⟩
   obtain ⟨n, hn⟩ : ∃ n, n = r.length := ⟨_, rfl⟩
   have e1 : IntKind.i64.wrap ((L1 : Int) - 1) = (n : Int) := by have := HF.out.deep; rw [IntWalk.i64_in _ (by omega)]; omega
   have e6 : (0 : Int) ≤ (n : Int) := by omega
   have e7 : (n : Int) < (L1 : Int) := by omega
   obtain ⟨q, hq⟩ : ∃ q, q = m1.ins f := ⟨_, rfl⟩
   rw [← hq] at hy0 hy1 hy2
   obtain ⟨op, N1, M1⟩ := q
   simp only at hy0 hy1 hy2
   obtain ⟨IL, hIL⟩ : ∃ IL, IL = (au m1.codes f.pr).f0.length := ⟨_, rfl⟩
   rw [← hIL] at hx0
   have p1 := eq_true HF.out.pr.1; have p2 := eq_true HF.out.pr.2; have p3 := eq_true HF.out.at_.1; have p4 := eq_true HF.out.at_.2
   rw [← hIL] at p4
   have z1 : wr.drew.cell? ⟨o.g, 1, none⟩ = some (.slice (some ⟨fg, 0, none⟩) L1 fc) := by rw [← hg1, ae A2.out.drew.blk 1, hL1, ← hfv]; rfl
   have z2 : wr.drew.cell? ⟨fg, n, none⟩ = some (.pointer (some ⟨h.g, 0, none⟩)) := hcell n h.ptr (by rw [hho, hn, ← hhl]; simp)
   have y0 : wr.drew.drew.cell? ⟨o.g, 0, none⟩ = some (.slice (some ad) m1.codes.length cc) := by rw [← hg1, ae A2.out.drew.drew.blk 0, ← hcv]; rfl
   have y1 : wr.drew.drew.cell? ⟨h.g, 0, none⟩ = some (.int .i64 f.pr) := ae HFR0.drew.drew.blk 0
   have y2 : wr.drew.drew.cell? ⟨h.g, 1, none⟩ = some (.int .i64 f.at_) := ae HFR0.drew.drew.blk 1
   have x0 : wr.drew.drew.cell? (ad.add (f.pr.toNat * 4)) = some (.slice (some bd) IL c0) := hx0
   have v0 : wr.drew.drew.cell? (bd.add (f.at_.toNat * 3)) = some (.int .i64 op) := hy0
   have v1 : wr.drew.drew.cell? ⟨(bd.add (f.at_.toNat * 3)).block, (bd.add (f.at_.toNat * 3)).off + 1, none⟩ = some (.int .i64 N1) := hy1
   have v2 : wr.drew.drew.cell? ⟨(bd.add (f.at_.toNat * 3)).block, (bd.add (f.at_.toNat * 3)).off + 2, none⟩ = some (.int .i64 M1) := hy2
   have g0 : wr.cell? ⟨o.g, 0, none⟩ = some (.slice (some ad) m1.codes.length cc) := y0
   have g1 : wr.cell? ⟨h.g, 0, none⟩ = some (.int .i64 f.pr) := y1
   have g2 : wr.cell? ⟨h.g, 1, none⟩ = some (.int .i64 f.at_) := y2
   have HQ := aa.mk hq; have HHO := aa.mk hho; have HL1 := aa.mk hL1; have HN1 := aa.mk hn; have HIL := aa.mk hIL; have HHL := aa.mk hhl; have HFRT := aa.mk HFR0; have HG := aa.mk hg1
   clear hq hho hL1 hn hIL HFR0 hfv hc1 hc2 hcell hcv hhl hg1 a8 a5
   go_wp2
   go_region_held3 (fun W => W.cell? ⟨o.g, 1, none⟩ = some (.slice (some ⟨fg, 0, none⟩) L1 fc) ∧ W.cell? ⟨fg, n, none⟩ = some (.pointer (some ⟨h.g, 0, none⟩))) (first | exact ⟨by assumption, by assumption⟩ | go_keep) (skip)
   go_wp2
   have nb0 := World.new_ne wr _ g0; have nb1 := World.new_ne wr _ g1; have nb2 := World.new_ne wr _ g2; have nb3 := World.new_ne wr _ hx0; have nb4 := World.new_ne wr _ hy0; have nb5 := World.new_ne wr _ hy1; have nb6 := World.new_ne wr _ hy2
   go_region_held3 (fun W => W.cell? ⟨o.g, 0, none⟩ = some (.slice (some ad) m1.codes.length cc) ∧ W.cell? ⟨h.g, 0, none⟩ = some (.int .i64 f.pr) ∧ W.cell? ⟨h.g, 1, none⟩ = some (.int .i64 f.at_) ∧ W.cell? (ad.add (f.pr.toNat * 4)) = some (.slice (some bd) IL c0) ∧ W.cell? (bd.add (f.at_.toNat * 3)) = some (.int .i64 op) ∧ W.cell? ⟨(bd.add (f.at_.toNat * 3)).block, (bd.add (f.at_.toNat * 3)).off + 1, none⟩ = some (.int .i64 N1) ∧ W.cell? ⟨(bd.add (f.at_.toNat * 3)).block, (bd.add (f.at_.toNat * 3)).off + 2, none⟩ = some (.int .i64 M1)) (first | exact ⟨y0, y1, y2, x0, v0, v1, v2⟩ | go_keep) (skip)
   obtain ⟨gb, hgb⟩ : ∃ gb, gb = wr.heap.size := ⟨_, rfl⟩
   obtain ⟨w3, hw3⟩ : ∃ w3, w3 = (wr.alloc (.cells #[.int .i64 op, .int .i64 N1, .int .i64 M1] 43)).drew.drew := ⟨_, rfl⟩
   have B3 : w3.heap[gb]? = some (.cells #[.int .i64 op, .int .i64 N1, .int .i64 M1] 43 (0, 0)) := by rw [hw3, hgb]; exact bW wr _
   have M3 : Mod (fun _ => False) wr w3 := by rw [hw3]; exact ((Mod.refl _ wr).alloc _).drew.drew
   rw [← hgb, ← hw3]
   have H3 : MOn Rd w3 o1 m1 := A2.out.mod M3 (fun _ _ h => h)
   have F3 : dn w3 h f := HFRT.out.mod M3 (fun _ _ h => h)
   have b0 : w3.cell? ⟨gb, 0, none⟩ = some (.int .i64 op) := ae B3 0
   have b1 : w3.cell? ⟨gb, 1, none⟩ = some (.int .i64 N1) := ae B3 1
   have b2 : w3.cell? ⟨gb, 2, none⟩ = some (.int .i64 M1) := ae B3 2
   have q1 : w3.cell? ⟨h.g, 1, none⟩ = some (.int .i64 f.at_) := ae F3.blk 1
   have q2 : w3.frozen? ⟨h.g, 1, none⟩ = false := ai F3.blk 1
   have nh : h.g ≠ gb := by rw [hgb]; exact Nat.ne_of_lt (bF HFRT.out.blk)
   have hat0 := HF.out.at_.1; have hat1 := HF.out.at2
   have H4 := aa.mk (H3.setAt HHO.out HF.out.fr (f.at_ + 1))
   have M4 : aa (Mod (fun k => k ∈ o.own) w (w3.setCell ⟨h.g, 1, none⟩ (.int .i64 (f.at_ + 1)))) := ⟨(A4.out.trans M3 (fun _ _ h => h.elim)).trans ((Mod.refl (fun k => k ∈ o1.own) w3).setCell (p := ⟨h.g, 1, none⟩) (fun _ => iO HHO.out _ (by simp [Ho.blocks])) _) (fun k hk h => (A3.out.2 k h).elim id (fun e => by omega))⟩
   have GB := aa.mk hgb; have H3A := aa.mk H3
   clear hgb hw3 B3 M3 H3 F3 g0 g1 g2 hx0 hy0 hy1 hy2 nb0 nb1 nb2 nb3 nb4 nb5 nb6 z1 z2 y0 y1 y2 x0 v0 v1 v2 p1 p2 p3 p4 e1 e6 e7
   by_cases hcall : op = 19
   ·subst hcall
    have hF := HF.out.call (by rw [← HQ.out])
    rw [← HQ.out] at hF
    simp only at hF
    obtain ⟨f1, f2, f3, f4, f5, f6⟩ := hF
    obtain ⟨MN, rfl⟩ : ∃ k : Nat, M1 = k := ⟨M1.toNat, by omega⟩
    have hst := HF.out.stack f (by rw [HF.out.fr]; simp)
    by_cases h50 : r.length + 1 = 50
    ·have HC : aa (Calls Tryd.prog 34 #[.pointer (some ⟨o.g, 0, none⟩), .pointer (some ⟨h.g, 0, none⟩), .agg #[.int .i64 19, .int .i64 N1, .int .i64 MN]] (w3.setCell ⟨h.g, 1, none⟩ (.int .i64 (f.at_ + 1))) (fun e w5 => e = .returned (.int .i64 4) ∧ After Rd w o ({ m1 with frames := r ++ [{ f with at_ := f.at_ + 1, stack := f.stack.take (f.stack.length - MN) }] }) w5)) := ⟨by
       have h1 := call_deep H4.out HHO.out rfl N1 MN (by simp only; omega) (by simp only; omega) h50
       rw [MHo.ptr, HG.out] at h1
       exact h1.mono (fun e w' hp => After.of A3.out M4.out hp)⟩
     have H50 := aa.mk h50; clear f1 f2 f3 f4 f5 f6 h50
     go_wp2_with (first | (with_reducible refine wp_label ?_) | ((with_reducible refine ah (f := 34) rfl ?_); refine gl 71 Tryd.func34 #[.pointer (some ⟨o.g, 0, none⟩), .pointer (some ⟨h.g, 0, none⟩), .agg #[.int .i64 19, .int .i64 N1, .int .i64 MN]] ?_; refine (HC.out).mono ?_; rintro e w5 ⟨rfl, AF⟩; have AF := aa.mk AF; refine ⟨_, rfl, ?_⟩) | ((with_reducible refine ah (f := 41) rfl ?_); refine gl 137 Tryd.func41 #[.pointer (some ⟨o.g, 0, none⟩), .int .i64 4, .int .i64 4] ?_; refine (AF.out.end_ 4 4 (Nat.le_of_succ_le HF.out.events)).mono ?_; rintro e w6 ⟨rfl, AF2⟩; have ee : w6.cell? ⟨o.g, 11, none⟩ = some (.bool true) := AF2.ended; have AF2 := aa.mk AF2; refine ⟨_, rfl, ?_⟩))
     go_ret
     have hone : m1.one = ((({ m1 with frames := r ++ [{ f with at_ := f.at_ + 1, stack := f.stack.take (f.stack.length - MN) }] } : Mc).endM 4 4), false) := by rw [iI HF.out.fr, ← HQ.out]; simp [Mc.does, H50.out]
     rw [A7.out, jh hone rfl gk]
     exact AF2.out.post
    ·have HC : aa (Calls Tryd.prog 34 #[.pointer (some ⟨o.g, 0, none⟩), .pointer (some ⟨h.g, 0, none⟩), .agg #[.int .i64 19, .int .i64 N1, .int .i64 MN]] (w3.setCell ⟨h.g, 1, none⟩ (.int .i64 (f.at_ + 1))) (fun e w5 => e = .returned (.int .i64 0) ∧ After Rd w o (({ m1 with frames := r ++ [{ f with at_ := f.at_ + 1, stack := f.stack.take (f.stack.length - MN) }] } : Mc).dZ N1 (f.stack.drop (f.stack.length - MN))) w5)) := ⟨by
       have h1 := call_on H4.out HHO.out rfl N1 MN (au m1.codes N1).f1.toNat f1 f2 (by simp only; omega) (by omega) (by omega) (by simp only; omega) (by simp only; omega) (by have := HF.out.deep; omega)
       rw [MHo.ptr, HG.out] at h1
       exact h1.mono (fun e w' hp => After.of A3.out M4.out hp)⟩
     have H50 := aa.mk h50; clear f1 f2 f3 f4 f5 f6 h50
     go_wp2_with (first | (with_reducible refine wp_label ?_) | ((with_reducible refine ah (f := 34) rfl ?_); refine gl 71 Tryd.func34 #[.pointer (some ⟨o.g, 0, none⟩), .pointer (some ⟨h.g, 0, none⟩), .agg #[.int .i64 19, .int .i64 N1, .int .i64 MN]] ?_; refine (HC.out).mono ?_; rintro e w5 ⟨rfl, AF⟩; have ee : w5.cell? ⟨o.g, 11, none⟩ = some (.bool false) := A6.out ▸ AF.ended; have AF := aa.mk AF; refine ⟨_, rfl, ?_⟩))
     have hone : m1.one = ((({ m1 with frames := r ++ [{ f with at_ := f.at_ + 1, stack := f.stack.take (f.stack.length - MN) }] } : Mc).dZ N1 (f.stack.drop (f.stack.length - MN))), false) := by rw [iI HF.out.fr, ← HQ.out]; simp [Mc.does, H50.out]
     go_roundg gk
     case measure => omega
     case rel =>
      obtain ⟨o2, hs, hM, hm⟩ := AF.out
      exact ⟨x + 1, o2, (({ m1 with frames := r ++ [{ f with at_ := f.at_ + 1, stack := f.stack.take (f.stack.length - MN) }] } : Mc).dZ N1 (f.stack.drop (f.stack.length - MN))), by go_num, ⟨by have := A1.out; omega⟩, ⟨hM⟩, ⟨hs⟩, ⟨hm⟩, ⟨by have := HR.out.next gk m1 A5.out A6.out (by rw [hone]) (by rw [hone]; exact A6.out); rwa [hone] at this⟩, A6, ⟨A7.out.trans (iE hone A6.out gk)⟩, A8⟩
   by_cases hleave : op = 20
   ·subst hleave
    clear hcall
    have hF := HF.out.leave (by rw [← HQ.out])
    rw [← HQ.out] at hF
    simp only at hF
    by_cases hr : r.length = 0
    ·obtain rfl : r = [] := List.length_eq_zero_iff.1 hr
     have HC : aa (Calls Tryd.prog 35 #[.pointer (some ⟨o.g, 0, none⟩), .pointer (some ⟨h.g, 0, none⟩), .agg #[.int .i64 20, .int .i64 N1, .int .i64 M1]] (w3.setCell ⟨h.g, 1, none⟩ (.int .i64 (f.at_ + 1))) (fun e w5 => e = .returned (.tuple #[]) ∧ After Rd w o (({ m1 with frames := [] } : Mc).endM 3 0) w5)) := ⟨by
       have h1 := leave_last H4.out HHO.out rfl rfl N1 M1 (Nat.le_of_succ_le HF.out.events)
       rw [MHo.ptr, HG.out] at h1
       exact h1.mono (fun e w' hp => After.of A3.out M4.out hp)⟩
     clear hF hr
     go_wp2_with (first | (with_reducible refine wp_label ?_) | ((with_reducible refine ah (f := 35) rfl ?_); refine gl 77 Tryd.func35 #[.pointer (some ⟨o.g, 0, none⟩), .pointer (some ⟨h.g, 0, none⟩), .agg #[.int .i64 20, .int .i64 N1, .int .i64 M1]] ?_; refine (HC.out).mono ?_; rintro e w5 ⟨rfl, AF⟩; have ee : w5.cell? ⟨o.g, 11, none⟩ = some (.bool true) := AF.ended; have AF := aa.mk AF; refine ⟨_, rfl, ?_⟩))
     go_ret
     have hone : m1.one = ((({ m1 with frames := [] } : Mc).endM 3 0), false) := by rw [iI HF.out.fr, ← HQ.out]; simp [Mc.does]
     rw [A7.out, jh hone rfl gk]
     exact AF.out.post
    ·have HR0 : aa (¬ r = []) := ⟨fun e => hr (by rw [e]; rfl)⟩
     rcases hF with rfl | ⟨rfl, hs1⟩
     ·have HC : aa (Calls Tryd.prog 35 #[.pointer (some ⟨o.g, 0, none⟩), .pointer (some ⟨h.g, 0, none⟩), .agg #[.int .i64 20, .int .i64 0, .int .i64 M1]] (w3.setCell ⟨h.g, 1, none⟩ (.int .i64 (f.at_ + 1))) (fun e w5 => e = .returned (.tuple #[]) ∧ After Rd w o ({ m1 with frames := r }) w5)) := ⟨by
       have h1 := leave_void H4.out HHO.out rfl M1 (by omega) (by have := HF.out.deep; omega)
       rw [MHo.ptr, HG.out] at h1
       exact h1.mono (fun e w' hp => After.of A3.out M4.out hp)⟩
      clear hr
      go_wp2_with (first | (with_reducible refine wp_label ?_) | ((with_reducible refine ah (f := 35) rfl ?_); refine gl 77 Tryd.func35 #[.pointer (some ⟨o.g, 0, none⟩), .pointer (some ⟨h.g, 0, none⟩), .agg #[.int .i64 20, .int .i64 0, .int .i64 M1]] ?_; refine (HC.out).mono ?_; rintro e w5 ⟨rfl, AF⟩; have ee : w5.cell? ⟨o.g, 11, none⟩ = some (.bool false) := A6.out ▸ AF.ended; have AF := aa.mk AF; refine ⟨_, rfl, ?_⟩))
      have hone : m1.one = (({ m1 with frames := r }), false) := by rw [iI HF.out.fr, ← HQ.out]; simp [Mc.does, HR0.out]
      go_roundg gk
      case measure => omega
      case rel =>
       obtain ⟨o2, hs, hM, hm⟩ := AF.out
       exact ⟨x + 1, o2, ({ m1 with frames := r }), by go_num, ⟨by have := A1.out; omega⟩, ⟨hM⟩, ⟨hs⟩, ⟨hm⟩, ⟨by have := HR.out.next gk m1 A5.out A6.out (by rw [hone]) (by rw [hone]; exact A6.out); rwa [hone] at this⟩, A6, ⟨A7.out.trans (iE hone A6.out gk)⟩, A8⟩
     ·obtain ⟨r1, g1, hr1⟩ : ∃ r1 g1, r = r1 ++ [g1] := by
       rcases List.eq_nil_or_concat r with e | ⟨s, y, e⟩
       ·exact absurd e HR0.out
       ·exact ⟨s, y, by simpa using e⟩
      obtain ⟨hs1', h1, hh1⟩ : ∃ r1 g1, hs0 = r1 ++ [g1] := by
       rcases List.eq_nil_or_concat hs0 with e | ⟨s, y, e⟩
       ·have := HHL.out; rw [e, hr1] at this; simp at this
       ·exact ⟨s, y, by simpa using e⟩
      have HC : aa (Calls Tryd.prog 35 #[.pointer (some ⟨o.g, 0, none⟩), .pointer (some ⟨h.g, 0, none⟩), .agg #[.int .i64 20, .int .i64 1, .int .i64 M1]] (w3.setCell ⟨h.g, 1, none⟩ (.int .i64 (f.at_ + 1))) (fun e w5 => e = .returned (.tuple #[]) ∧ After Rd w o ({ m1 with frames := r1 ++ [{ g1 with stack := g1.stack ++ [f.stack.getLastD 0] }] }) w5)) := ⟨by
       have h9 := leave_ret (r1 := r1) (f1 := g1) (f := { f with at_ := f.at_ + 1 }) (h1 := h1) (hs1 := hs1') H4.out (by rw [HHO.out, hh1]) (by show r ++ [{ f with at_ := f.at_ + 1 }] = _; rw [hr1]) M1 (f.stack.getLastD 0) f.stack.dropLast (nE hs1) (by have := HF.out.stack g1 (by rw [HF.out.fr, hr1]; simp); omega) (by have := HF.out.deep; rw [hr1] at this; simp at this; omega)
       rw [MHo.ptr, HG.out] at h9; have h1 := h9
       exact h1.mono (fun e w' hp => After.of A3.out M4.out hp)⟩
      have HR1 := aa.mk hr1
      clear hr hs1 hr1 hh1
      go_wp2_with (first | (with_reducible refine wp_label ?_) | ((with_reducible refine ah (f := 35) rfl ?_); refine gl 77 Tryd.func35 #[.pointer (some ⟨o.g, 0, none⟩), .pointer (some ⟨h.g, 0, none⟩), .agg #[.int .i64 20, .int .i64 1, .int .i64 M1]] ?_; refine (HC.out).mono ?_; rintro e w5 ⟨rfl, AF⟩; have ee : w5.cell? ⟨o.g, 11, none⟩ = some (.bool false) := A6.out ▸ AF.ended; have AF := aa.mk AF; refine ⟨_, rfl, ?_⟩))
      have hone : m1.one = (({ m1 with frames := r1 ++ [{ g1 with stack := g1.stack ++ [f.stack.getLastD 0] }] }), false) := by rw [iI HF.out.fr, ← HQ.out]; simp [Mc.does, HR1.out, gL]
      go_roundg gk
      case measure => omega
      case rel =>
       obtain ⟨o2, hs, hM, hm⟩ := AF.out
       exact ⟨x + 1, o2, ({ m1 with frames := r1 ++ [{ g1 with stack := g1.stack ++ [f.stack.getLastD 0] }] }), by go_num, ⟨by have := A1.out; omega⟩, ⟨hM⟩, ⟨hs⟩, ⟨hm⟩, ⟨by have := HR.out.next gk m1 A5.out A6.out (by rw [hone]) (by rw [hone]; exact A6.out); rwa [hone] at this⟩, A6, ⟨A7.out.trans (iE hone A6.out gk)⟩, A8⟩
   by_cases hprint : op = 21
   ·subst hprint
    clear hcall hleave
    have hF := HF.out.print (by rw [← HQ.out])
    have HC : aa (Calls Tryd.prog 37 #[.pointer (some ⟨h.g, 0, none⟩)] (w3.setCell ⟨h.g, 1, none⟩ (.int .i64 (f.at_ + 1))) (fun e w5 => e = .returned (.int .i64 (f.stack.getLastD 0)) ∧ After Rd w o ({ m1 with frames := r ++ [{ f with at_ := f.at_ + 1, stack := f.stack.dropLast }] }) w5)) := ⟨by
       have h1 := top_pop H4.out HHO.out rfl f.stack.dropLast (f.stack.getLastD 0) (nE hF)
       rw [Ho.ptr] at h1
       exact h1.mono (fun e w' hp => After.of A3.out M4.out hp)⟩
    clear hF
    obtain ⟨X, hX⟩ : ∃ X, X = f.stack.getLastD 0 := ⟨_, rfl⟩
    rw [← hX] at HC
    have HX := aa.mk hX; clear hX
    go_wp2_with (first | (with_reducible refine wp_label ?_) | ((with_reducible refine ah (f := 37) rfl ?_); refine gl 82 Tryd.func37 #[.pointer (some ⟨h.g, 0, none⟩)] ?_; refine (HC.out).mono ?_; rintro e w5 ⟨rfl, AF0⟩; have AF0 := aa.mk AF0; refine ⟨_, rfl, ?_⟩) | ((with_reducible refine ah (f := 36) rfl ?_); refine gl 83 Tryd.func36 #[.pointer (some ⟨o.g, 0, none⟩), .int .i64 1, .int .i64 X] ?_; refine (AF0.out.event 1 X (Nat.le_of_succ_le HF.out.events)).mono ?_; rintro e w6 ⟨rfl, AF⟩; have ee : w6.cell? ⟨o.g, 11, none⟩ = some (.bool false) := A6.out ▸ AF.ended; have AF := aa.mk (HX.out ▸ AF); refine ⟨_, rfl, ?_⟩))
    have hone : m1.one = (({ m1 with frames := r ++ [{ f with at_ := f.at_ + 1, stack := f.stack.dropLast }], events := m1.events ++ [(1, f.stack.getLastD 0)] }), false) := by rw [iI HF.out.fr, ← HQ.out]; simp [Mc.does]
    go_roundg gk
    case measure => omega
    case rel =>
     obtain ⟨o2, hs, hM, hm⟩ := AF.out
     exact ⟨x + 1, o2, ({ m1 with frames := r ++ [{ f with at_ := f.at_ + 1, stack := f.stack.dropLast }], events := m1.events ++ [(1, f.stack.getLastD 0)] }), by go_num, ⟨by have := A1.out; omega⟩, ⟨hM⟩, ⟨hs⟩, ⟨hm⟩, ⟨by have := HR.out.next gk m1 A5.out A6.out (by rw [hone]) (by rw [hone]; exact A6.out); rwa [hone] at this⟩, A6, ⟨A7.out.trans (iE hone A6.out gk)⟩, A8⟩
   by_cases hmark : op = 24
   ·subst hmark
    clear hcall hleave hprint
    by_cases hfuel : m1.fuel = 0
    ·have HC : aa (Calls Tryd.prog 39 #[.pointer (some ⟨o.g, 0, none⟩), .pointer (some ⟨h.g, 0, none⟩), .agg #[.int .i64 24, .int .i64 N1, .int .i64 M1]] (w3.setCell ⟨h.g, 1, none⟩ (.int .i64 (f.at_ + 1))) (fun e w5 => e = .returned (.tuple #[]) ∧ After Rd w o (({ m1 with frames := r ++ [{ f with at_ := f.at_ + 1 }] } : Mc).endM 5 0) w5)) := ⟨by
       have h1 := mark_none H4.out h.ptr N1 M1 hfuel (Nat.le_of_succ_le HF.out.events)
       rw [MHo.ptr, HG.out] at h1
       exact h1.mono (fun e w' hp => After.of A3.out M4.out hp)⟩
     have HFU := aa.mk hfuel; clear hfuel
     go_wp2_with (first | (with_reducible refine wp_label ?_) | ((with_reducible refine ah (f := 39) rfl ?_); refine gl 132 Tryd.func39 #[.pointer (some ⟨o.g, 0, none⟩), .pointer (some ⟨h.g, 0, none⟩), .agg #[.int .i64 24, .int .i64 N1, .int .i64 M1]] ?_; refine (HC.out).mono ?_; rintro e w5 ⟨rfl, AF⟩; have ee : w5.cell? ⟨o.g, 11, none⟩ = some (.bool true) := AF.ended; have AF := aa.mk AF; refine ⟨_, rfl, ?_⟩))
     go_ret
     have hone : m1.one = ((({ m1 with frames := r ++ [{ f with at_ := f.at_ + 1 }] } : Mc).endM 5 0), false) := by rw [iI HF.out.fr, ← HQ.out]; simp [Mc.does, HFU.out]
     rw [A7.out, jh hone rfl gk]
     exact AF.out.post
    ·have HC : aa (Calls Tryd.prog 39 #[.pointer (some ⟨o.g, 0, none⟩), .pointer (some ⟨h.g, 0, none⟩), .agg #[.int .i64 24, .int .i64 N1, .int .i64 M1]] (w3.setCell ⟨h.g, 1, none⟩ (.int .i64 (f.at_ + 1))) (fun e w5 => e = .returned (.tuple #[]) ∧ After Rd w o ({ m1 with frames := r ++ [{ f with at_ := f.at_ + 1, mark := N1 }], fuel := m1.fuel - 1, ticks := m1.ticks + 1, tick := (M1, f.pr, N1, (r.length + 1 : Nat)) }) w5)) := ⟨by
       have h1 := mark_on H4.out HHO.out rfl N1 M1 (by have := HF.out.fuel; simp only; omega) HF.out.fuel.2 HF.out.ticks.1 HF.out.ticks.2
       rw [MHo.ptr, HG.out] at h1
       exact h1.mono (fun e w' hp => After.of A3.out M4.out hp)⟩
     have HFU := aa.mk hfuel; clear hfuel
     have dt : ((m1.ticks + 1) == m.ticks) = false := Zh (by rw [A8.out]; omega)
     go_wp2_with (first | (with_reducible refine wp_label ?_) | ((with_reducible refine ah (f := 39) rfl ?_); refine gl 132 Tryd.func39 #[.pointer (some ⟨o.g, 0, none⟩), .pointer (some ⟨h.g, 0, none⟩), .agg #[.int .i64 24, .int .i64 N1, .int .i64 M1]] ?_; refine (HC.out).mono ?_; rintro e w5 ⟨rfl, AF⟩; have ee : w5.cell? ⟨o.g, 11, none⟩ = some (.bool false) := A6.out ▸ AF.ended; have et : w5.cell? ⟨o.g, 5, none⟩ = some (.int .i64 (m1.ticks + 1)) := AF.ticks; have AF := aa.mk AF; refine ⟨_, rfl, ?_⟩))
     go_ret
     have hone : m1.one = ({ m1 with frames := r ++ [{ f with at_ := f.at_ + 1, mark := N1 }], fuel := m1.fuel - 1, ticks := m1.ticks + 1, tick := (M1, f.pr, N1, (r.length + 1 : Nat)) }, true) := by rw [iI HF.out.fr, ← HQ.out]; simp [Mc.does, HFU.out]
     rw [A7.out, nR hone gk]
     exact AF.out.post
   by_cases hread : op = 22
   ·subst hread
    clear hcall hleave hprint hmark
    have hil := HF.out.inp; have hrl := HF.out.read
    obtain ⟨IL2, hIL2⟩ : ∃ IL2, IL2 = m1.input.length := ⟨_, rfl⟩
    have HIL2 := aa.mk hIL2
    by_cases hri : m1.read = m1.input.length
    ·obtain ⟨IA, IC, hiv⟩ := sN H4.out
     rw [show (({ m1 with frames := r ++ [{ f with at_ := f.at_ + 1 }] } : Mc).input) = m1.input from rfl, ← hIL2] at hiv
     have z3 : (w3.setCell ⟨h.g, 1, none⟩ (.int .i64 (f.at_ + 1))).drew.cell? ⟨o.g, 3, none⟩ = some (.int .i64 m1.read) := by rw [← HG.out]; exact ae H4.out.drew.blk 3
     have z2 : (w3.setCell ⟨h.g, 1, none⟩ (.int .i64 (f.at_ + 1))).drew.cell? ⟨o.g, 2, none⟩ = some (.slice IA IL2 IC) := by rw [← HG.out, ← hiv]; exact ae H4.out.drew.blk 2
     have HRI := aa.mk hri
     have kr : ((m1.read : Int) == (IL2 : Int)) = true := beq_iff_eq.mpr (by rw [hIL2, hri])
     have AF : aa (After Rd w o ({ m1 with frames := r ++ [{ f with at_ := f.at_ + 1 }] }) (w3.setCell ⟨h.g, 1, none⟩ (.int .i64 (f.at_ + 1))).drew) := ⟨After.drew ⟨o1, A3.out, H4.out, M4.out⟩⟩
     clear hri hiv hIL2 hil hrl
     go_wp2_with (fail)
     go_region_held3 (fun W => W.cell? ⟨o.g, 3, none⟩ = some (.int .i64 m1.read) ∧ W.cell? ⟨o.g, 2, none⟩ = some (.slice IA IL2 IC)) (first | exact ⟨by assumption, by assumption⟩ | go_keep) (skip)
     go_wp2_with (first | (with_reducible refine wp_label ?_) | ((with_reducible refine ah (f := 41) rfl ?_); refine gl 137 Tryd.func41 #[.pointer (some ⟨o.g, 0, none⟩), .int .i64 4, .int .i64 5] ?_; refine (AF.out.end_ 4 5 (Nat.le_of_succ_le HF.out.events)).mono ?_; rintro e w6 ⟨rfl, AF2⟩; have ee : w6.cell? ⟨o.g, 11, none⟩ = some (.bool true) := AF2.ended; have AF2 := aa.mk AF2; refine ⟨_, rfl, ?_⟩))
     go_ret
     have hone : m1.one = ((({ m1 with frames := r ++ [{ f with at_ := f.at_ + 1 }] } : Mc).endM 4 5), false) := by rw [iI HF.out.fr, ← HQ.out]; simp [Mc.does, HRI.out]
     rw [A7.out, jh hone rfl gk]
     exact AF2.out.post
    ·obtain ⟨ia, IC, hiv, hic⟩ := oH H4.out (by show m1.read < m1.input.length; omega)
     rw [show (({ m1 with frames := r ++ [{ f with at_ := f.at_ + 1 }] } : Mc).input) = m1.input from rfl, ← hIL2] at hiv
     simp only at hic
     obtain ⟨X, hX⟩ : ∃ X, X = m1.input.getD m1.read 0 := ⟨_, rfl⟩
     rw [← hX] at hic
     have z3 : (w3.setCell ⟨h.g, 1, none⟩ (.int .i64 (f.at_ + 1))).drew.cell? ⟨o.g, 3, none⟩ = some (.int .i64 m1.read) := by rw [← HG.out]; exact ae H4.out.drew.blk 3
     have z2 : (w3.setCell ⟨h.g, 1, none⟩ (.int .i64 (f.at_ + 1))).drew.cell? ⟨o.g, 2, none⟩ = some (.slice (some ia) IL2 IC) := by rw [← HG.out, ← hiv]; exact ae H4.out.drew.blk 2
     have y3 : (w3.setCell ⟨h.g, 1, none⟩ (.int .i64 (f.at_ + 1))).drew.drew.cell? ⟨o.g, 3, none⟩ = some (.int .i64 m1.read) := z3
     have y2 : (w3.setCell ⟨h.g, 1, none⟩ (.int .i64 (f.at_ + 1))).drew.drew.cell? ⟨o.g, 2, none⟩ = some (.slice (some ia) IL2 IC) := z2
     have y1 : (w3.setCell ⟨h.g, 1, none⟩ (.int .i64 (f.at_ + 1))).drew.drew.cell? (ia.add m1.read) = some (.int .i64 X) := hic
     have kr : ((m1.read : Int) == (IL2 : Int)) = false := Zh (by rw [hIL2]; omega)
     have l0 : (0 : Int) ≤ (m1.read : Int) := by omega
     have l1 : (m1.read : Int) < (IL2 : Int) := by omega
     have lr : (m1.read : Int) ≤ 1000000 := by omega
     have HPU : aa (Calls Tryd.prog 38 #[.pointer (some ⟨h.g, 0, none⟩), .int .i64 X] (w3.setCell ⟨h.g, 1, none⟩ (.int .i64 (f.at_ + 1))).drew.drew (fun e w5 => e = .returned (.tuple #[]) ∧ After Rd w o ({ m1 with frames := r ++ [{ f with at_ := f.at_ + 1, stack := f.stack ++ [m1.input.getD m1.read 0] }] }) w5 ∧ w5.cell? ⟨o.g, 3, none⟩ = some (.int .i64 m1.read) ∧ w5.cell? ⟨o.g, 2, none⟩ = some (.slice (some ia) IL2 IC) ∧ w5.cell? (ia.add m1.read) = some (.int .i64 X))) := ⟨by
      have h1 := top_push H4.out.drew.drew HHO.out rfl X (by have := HF.out.stack f (by rw [HF.out.fr]; simp); simp only; omega)
      rw [Ho.ptr] at h1
      refine h1.mono ?_
      rintro e w5 ⟨rfl, o2, hiv2, hs, hM, hm⟩
      have hg2 : o2.g = o.g := hs.1.trans HG.out
      obtain ⟨ia2, IC2, hiv3, hic3⟩ := oH hM (by show m1.read < m1.input.length; omega)
      rw [hiv2, hiv] at hiv3
      obtain ⟨e1, e2, e3⟩ := Value.slice.inj hiv3
      obtain rfl := Zg e1
      refine ⟨rfl, ⟨o2, A3.out.trans M4.out.drew.drew.size hs, by rw [← hX]; exact hM, M4.out.drew.drew.trans hm (fun k hk h => (A3.out.2 k h).elim id (fun e => by omega))⟩, ?_, ?_, ?_⟩
      ·rw [← hg2]; exact ae hM.blk 3
      ·rw [← hg2, ← hiv, ← hiv2]; exact ae hM.blk 2
      ·rw [hX]; exact hic3⟩
     have HRI := aa.mk hri; have HX := aa.mk hX
     have HEVA : aa (∀ w5, After Rd w o ({ m1 with frames := r ++ [{ f with at_ := f.at_ + 1, stack := f.stack ++ [m1.input.getD m1.read 0] }] }) w5 → w5.cell? ⟨o.g, 3, none⟩ = some (.int .i64 m1.read) → w5.cell? ⟨o.g, 2, none⟩ = some (.slice (some ia) IL2 IC) → w5.cell? (ia.add m1.read) = some (.int .i64 X) →
       Calls Tryd.prog 36 #[.pointer (some ⟨o.g, 0, none⟩), .int .i64 2, .int .i64 X] w5.drew (fun e w6 => e = .returned (.tuple #[]) ∧ After Rd w o ({ m1 with frames := r ++ [{ f with at_ := f.at_ + 1, stack := f.stack ++ [m1.input.getD m1.read 0] }], events := m1.events ++ [(2, m1.input.getD m1.read 0)] }) w6 ∧ w6.cell? ⟨o.g, 3, none⟩ = some (.int .i64 m1.read) ∧ w6.frozen? ⟨o.g, 3, none⟩ = false ∧ w6.cell? ⟨o.g, 2, none⟩ = some (.slice (some ia) IL2 IC) ∧ w6.cell? (ia.add m1.read) = some (.int .i64 X))) := ⟨by
      rintro w5 ⟨o2, hs, hM, hm⟩ q3 q2 q1
      have h1 := rJ hM.drew 2 X (Nat.le_of_succ_le HF.out.events)
      rw [show o2.ptr = .pointer (some ⟨o.g, 0, none⟩) by rw [MHo.ptr, hs.1]] at h1
      refine h1.mono ?_
      rintro e w6 ⟨rfl, v1, hv, hM2, hmod⟩
      have hin : ∀ k, k = o2.g ∨ o2.ev.ownBlock = some k → k ∈ o2.own := fun k h => by
       rcases h with rfl | h
       ·simp [MHo.own]
       ·simp [MHo.own, h]
      have hblk := hM2.blk
      rw [show ({ o2 with ev := v1 } : MHo).g = o.g from hs.1] at hblk
      obtain ⟨A9, C9, hiv9⟩ := sN hM
      have hq2 : o2.iv = .slice (some ia) IL2 IC := by
       have := ae hM.blk 2
       rw [hs.1, q2] at this
       exact (Zg this).symm
      obtain ⟨ia2, IC2, hiv3, hic3⟩ := oH hM2 (by show m1.read < m1.input.length; omega)
      rw [show ({ o2 with ev := v1 } : MHo).iv = o2.iv from rfl, hq2] at hiv3
      obtain ⟨e1, e2, e3⟩ := Value.slice.inj hiv3
      obtain rfl := Zg e1
      refine ⟨rfl, ⟨_, hs.trans hm.size (mD hv), by rw [← hX]; rw [← hX] at hM2; exact hM2, hm.drew.trans hmod (fun k hk h => (hs.2 k (hin k h)).elim id (fun e => by omega))⟩, ae hblk 3, ai hblk 3, ?_, ?_⟩
      ·rw [← hq2]; exact ae hblk 2
      ·rw [hX]; exact hic3⟩
     clear hri hiv hIL2 hil hrl hX hic
     go_wp2_with (fail)
     go_region_held3 (fun W => W.cell? ⟨o.g, 3, none⟩ = some (.int .i64 m1.read) ∧ W.cell? ⟨o.g, 2, none⟩ = some (.slice (some ia) IL2 IC)) (first | exact ⟨by assumption, by assumption⟩ | go_keep) (skip)
     go_wp2_with (fail)
     go_region_held3 (fun W => W.cell? ⟨o.g, 3, none⟩ = some (.int .i64 m1.read) ∧ W.cell? ⟨o.g, 2, none⟩ = some (.slice (some ia) IL2 IC) ∧ W.cell? (ia.add m1.read) = some (.int .i64 X)) (first | exact ⟨by assumption, by assumption, by assumption⟩ | go_keep) (((with_reducible refine HPU.out.mono ?_); rintro e w5 ⟨rfl, AF5, q3, q2, q1⟩; have p3 : w5.drew.cell? ⟨o.g, 3, none⟩ = some (.int .i64 m1.read) := q3; have p2 : w5.drew.cell? ⟨o.g, 2, none⟩ = some (.slice (some ia) IL2 IC) := q2; have p1 : w5.drew.cell? (ia.add m1.read) = some (.int .i64 X) := q1; have HEV := aa.mk (HEVA.out w5 AF5 q3 q2 q1); have AF5 := aa.mk AF5))
     go_wp2_with (fail)
     go_region_held3 (fun W => W.cell? ⟨o.g, 3, none⟩ = some (.int .i64 m1.read) ∧ W.cell? ⟨o.g, 2, none⟩ = some (.slice (some ia) IL2 IC) ∧ W.cell? (ia.add m1.read) = some (.int .i64 X)) (first | exact ⟨by assumption, by assumption, by assumption⟩ | go_keep) (((with_reducible refine HEV.out.mono ?_); rintro e w6 ⟨rfl, AF6, r3, r3f, r2, r1⟩; have AF6 := aa.mk AF6))
     have ee : w6.cell? ⟨o.g, 11, none⟩ = some (.bool false) := A6.out ▸ AF6.out.ended
     go_wp2
     have AF := aa.mk AF6.out.read
     have hone : m1.one = (({ m1 with frames := r ++ [{ f with at_ := f.at_ + 1, stack := f.stack ++ [m1.input.getD m1.read 0] }], events := m1.events ++ [(2, m1.input.getD m1.read 0)], read := m1.read + 1 }), false) := by rw [iI HF.out.fr, ← HQ.out]; simp [Mc.does, HRI.out]
     go_roundg gk
     case measure => omega
     case rel =>
      obtain ⟨o2, hs, hM, hm⟩ := AF.out
      exact ⟨x + 1, o2, ({ m1 with frames := r ++ [{ f with at_ := f.at_ + 1, stack := f.stack ++ [m1.input.getD m1.read 0] }], events := m1.events ++ [(2, m1.input.getD m1.read 0)], read := m1.read + 1 }), by go_num, ⟨by have := A1.out; omega⟩, ⟨hM⟩, ⟨hs⟩, ⟨hm⟩, ⟨by have := HR.out.next gk m1 A5.out A6.out (by rw [hone]) (by rw [hone]; exact A6.out); rwa [hone] at this⟩, A6, ⟨A7.out.trans (iE hone A6.out gk)⟩, A8⟩
   have HNOP : aa (op ≠ 19 ∧ op ≠ 20 ∧ op ≠ 21 ∧ op ≠ 22 ∧ op ≠ 24) := ⟨hcall, hleave, hprint, hread, hmark⟩
   have k19 : (op == 19) = false := Zh hcall
   have k20 : (op == 20) = false := Zh hleave
   have k21 : (op == 21) = false := Zh hprint
   have k22 : (op == 22) = false := Zh hread
   have k24 : (op == 24) = false := Zh hmark
   obtain ⟨f2, tr, hdt⟩ : ∃ f2 tr, cO { f with at_ := f.at_ + 1 } ⟨op, N1, M1⟩ = (f2, tr) := ⟨_, _, rfl⟩
   have HC : aa (Calls Tryd.prog 40 #[.pointer (some ⟨h.g, 0, none⟩), .agg #[.int .i64 op, .int .i64 N1, .int .i64 M1]] (w3.setCell ⟨h.g, 1, none⟩ (.int .i64 (f.at_ + 1))) (fun e w5 => e = .returned (.int .i64 tr) ∧ After Rd w o ({ m1 with frames := r ++ [f2] }) w5)) := ⟨by
       have h1 := top_data H4.out HHO.out rfl ⟨op, N1, M1⟩ (by have := HF.out.data; rw [← HQ.out] at this; exact this hcall hleave hprint hread hmark)
       rw [Ho.ptr, hdt] at h1
       exact h1.mono (fun e w' hp => After.of A3.out M4.out hp)⟩
   have HDT := aa.mk hdt
   clear hcall hleave hprint hread hmark hdt
   by_cases htr : tr = 0
   ·have kt : (tr != 0) = false := by rw [htr]; rfl
    have HTR := aa.mk htr; clear htr
    go_wp2_with (first | (with_reducible refine wp_label ?_) | ((with_reducible refine ah (f := 40) rfl ?_); refine gl 65 Tryd.func40 #[.pointer (some ⟨h.g, 0, none⟩), .agg #[.int .i64 op, .int .i64 N1, .int .i64 M1]] ?_; refine (HC.out).mono ?_; rintro e w5 ⟨rfl, AF⟩; have ee : w5.cell? ⟨o.g, 11, none⟩ = some (.bool false) := A6.out ▸ AF.ended; have AF := aa.mk AF; refine ⟨_, rfl, ?_⟩))
    have hone : m1.one = (({ m1 with frames := r ++ [f2] }), false) := by rw [iI HF.out.fr, ← HQ.out]; simp [Mc.does, HNOP.out, HDT.out, HTR.out]
    go_roundg gk
    case measure => omega
    case rel =>
     obtain ⟨o2, hs, hM, hm⟩ := AF.out
     exact ⟨x + 1, o2, ({ m1 with frames := r ++ [f2] }), by go_num, ⟨by have := A1.out; omega⟩, ⟨hM⟩, ⟨hs⟩, ⟨hm⟩, ⟨by have := HR.out.next gk m1 A5.out A6.out (by rw [hone]) (by rw [hone]; exact A6.out); rwa [hone] at this⟩, A6, ⟨A7.out.trans (iE hone A6.out gk)⟩, A8⟩
   ·have kt : (tr != 0) = true := bne_iff_ne.mpr htr
    have HTR := aa.mk htr; clear htr
    go_wp2_with (first | (with_reducible refine wp_label ?_) | ((with_reducible refine ah (f := 40) rfl ?_); refine gl 65 Tryd.func40 #[.pointer (some ⟨h.g, 0, none⟩), .agg #[.int .i64 op, .int .i64 N1, .int .i64 M1]] ?_; refine (HC.out).mono ?_; rintro e w5 ⟨rfl, AF⟩; have AF := aa.mk AF; refine ⟨_, rfl, ?_⟩) | ((with_reducible refine ah (f := 41) rfl ?_); refine gl 137 Tryd.func41 #[.pointer (some ⟨o.g, 0, none⟩), .int .i64 4, .int .i64 tr] ?_; refine (AF.out.end_ 4 tr (Nat.le_of_succ_le HF.out.events)).mono ?_; rintro e w6 ⟨rfl, AF2⟩; have ee : w6.cell? ⟨o.g, 11, none⟩ = some (.bool true) := AF2.ended; have AF2 := aa.mk AF2; refine ⟨_, rfl, ?_⟩))
    go_ret
    have hone : m1.one = ((({ m1 with frames := r ++ [f2] } : Mc).endM 4 tr), false) := by rw [iI HF.out.fr, ← HQ.out]; simp [Mc.does, HNOP.out, HDT.out, HTR.out]
    rw [A7.out, jh hone rfl gk]
    exact AF2.out.post
end
def RR (l : List S46) (k : Int) (p : Nat) (h : Int) : Prop := ∃ hs : Shape l (rdC l k), (net l (rdC l k).f0 (dY hs)).R p h
theorem vz {l : List S46} {main k : Int} (hS : gJ l main) (k0 : 0 ≤ k) (k1 : k < (l.length : Int)) {p : Nat} {h : Int} (hr : RR l k p h) :
  p < (rdC l k).f0.length ∧ 0 ≤ h ∧ okH l (rdI (rdC l k).f0 p) h = true ∧ (∀ q : Nat, (q : Int) ∈ nxt (rdI (rdC l k).f0 p) p → RR l k q (h - (mv l (rdI (rdC l k).f0 p)).1 + (mv l (rdI (rdC l k).f0 p)).2)) ∧ Shape l (rdC l k) := by
 obtain ⟨kn, rfl⟩ : ∃ n : Nat, k = n := ⟨k.toNat, by omega⟩
 obtain ⟨t, ht, ht2⟩ := hS.2 kn (by omega)
 rcases ht with ⟨_, hs', hT, hW⟩ | ⟨rfl, _⟩
 ·obtain ⟨hs, hr⟩ := hr
  have h0 : 0 < (net l (rdC l kn).f0 (dY hs)).n := hs.1.1
  obtain ⟨a, b, c⟩ := Net.reach h0 hT hW hr
  obtain ⟨d, e⟩ := hW p a (by rw [b]; exact c)
  rw [b] at d
  exact ⟨a, c, d, fun q hq => ⟨hs, Net.R.step hr a d hq⟩, hs⟩
 ·cases ht2
theorem fO {l : List S46} {main k : Int} (hS : gJ l main) (k0 : 0 ≤ k) (k1 : k < (l.length : Int)) : RR l k 0 0 := by
 obtain ⟨kn, rfl⟩ : ∃ n : Nat, k = n := ⟨k.toNat, by omega⟩
 obtain ⟨t, ht, ht2⟩ := hS.2 kn (by omega)
 rcases ht with ⟨_, hs, hT, hW⟩ | ⟨rfl, _⟩
 ·exact ⟨hs, .zero⟩
 ·cases ht2
def GFr (l : List S46) (f : Fr) (ex : Int) : Prop := 0 ≤ f.pr ∧ f.pr < (l.length : Int) ∧ (f.cells.length : Int) = (rdC l f.pr).f1 ∧ ∃ p : Nat, f.at_ = p ∧ RR l f.pr p ((f.stack.length : Int) + ex)
def lS (l : List S46) (k : Int) : Int := if (rdC l k).f3 = true then 1 else 0
def jL (l : List S46) : List Fr → Int → Prop
 | [], _ => True
 | f :: r, ex => GFr l f ex ∧ jL l r (lS l f.pr)
structure GoodS (m : Mc) : Prop where
 sound : ∃ main, gJ m.codes main
 chain : m.ended = false → jL m.codes m.frames.reverse 0
 ne : m.ended = false → m.frames ≠ []
 deep : m.ended = false → m.frames.length ≤ 50
 fuel : 0 ≤ m.fuel ∧ 0 ≤ m.ticks ∧ m.fuel + m.ticks ≤ 1048576
 read : m.read ≤ m.input.length
 inp : m.input.length ≤ 1000
 evw : (m.events.length : Int) ≤ m.ticks * 1048577 + 1048577
structure Inv (k : Nat) (m : Mc) : Prop where
 good : GoodS m
 evs : m.ended = false → (m.events.length : Int) + k ≤ m.ticks * 1048577 + 1048576
theorem mV {l : List S46} {main : Int} (hS : gJ l main) : ∀ {r : List Fr} {ex : Int}, jL l r ex → 0 ≤ ex → ∀ g ∈ r, g.stack.length ≤ 4096
 | [], _, _, _, g, hg => by cases hg
 | f :: r, ex, h, h0, g, hg => by
  rcases List.mem_cons.1 hg with rfl | hg
  ·obtain ⟨a, b, c, p, hp, hr⟩ := h.1
   have := (vz hS a b hr).2.2.1
   have := lQ.1 this
   omega
  ·exact mV hS h.2 (by unfold lS; split <;> omega) g hg
theorem good_top {m : Mc} (G : GoodS m) (he : m.ended = false) : ∃ r f p main, m.frames = r ++ [f] ∧ gJ m.codes main ∧ GFr m.codes f 0 ∧ jL m.codes r.reverse (lS m.codes f.pr) ∧ f.at_ = (p : Nat) ∧ RR m.codes f.pr p (f.stack.length : Int) ∧ m.ins f = rdI (rdC m.codes f.pr).f0 p := by
 obtain ⟨main, hS⟩ := G.sound
 rcases List.eq_nil_or_concat m.frames with e | ⟨r, f, e⟩
 ·exact absurd e (G.ne he)
 ·have e : m.frames = r ++ [f] := by simpa using e
  have hc := G.chain he
  rw [e, List.reverse_append] at hc
  obtain ⟨h1, h2⟩ := hc
  obtain ⟨a, b, c, p, hp, hr⟩ := id h1
  refine ⟨r, f, p, main, e, hS, h1, h2, hp, by simpa using hr, ?_⟩
  unfold Mc.ins
  rw [hp]
theorem pX {l : List S46} {ins : List S43} {cells : Int} {ans : Bool} {x : S43} (h : May l ins cells ans x.f0 x.f1 x.f2) :
  (1 ≤ x.f0 ∧ x.f0 ≤ 25) ∧ (x.f0 = 2 ∨ x.f0 = 3 → Within cells x.f1 1) ∧ (x.f0 = 4 ∨ x.f0 = 5 ∨ x.f0 = 6 → x.f2 ≤ 64 ∧ Within cells x.f1 x.f2) ∧ (x.f0 = 17 ∨ x.f0 = 18 → 0 ≤ x.f1 ∧ x.f1 < (ins.length : Int)) ∧
   (x.f0 = 19 → 0 ≤ x.f1 ∧ x.f1 < (l.length : Int) ∧ 0 ≤ x.f2 ∧ x.f2 ≤ 8 ∧ x.f2 = (rdC l x.f1).f2) ∧ (x.f0 = 20 → (x.f1 = 0 ∧ ans = false) ∨ (x.f1 = 1 ∧ ans = true)) ∧ (x.f0 = 24 → 0 ≤ x.f1 ∧ 1 ≤ x.f2 ∧ x.f2 ≤ 3) := by
 have hv := qg l ins cells ans h
 have h2 := h.2
 unfold dX at h2
 refine ⟨⟨hv.op0, hv.op1⟩, fun e => ?_, fun e => ?_, fun e => ?_, fun e => ?_, fun e => ?_, fun e => ?_⟩
 ·rw [if_pos e] at h2; exact Zc h2
 ·rw [if_neg (by omega), if_pos e] at h2; exact Zc h2
 ·rw [if_neg (by omega), if_neg (by omega), if_pos e] at h2; exact Zc h2
 ·rw [if_neg (by omega), if_neg (by omega), if_neg (by omega), if_pos e] at h2; exact Zc h2
 ·rw [if_neg (by omega), if_neg (by omega), if_neg (by omega), if_neg (by omega), if_pos e] at h2; exact Zc h2
 ·rw [if_neg (by omega), if_neg (by omega), if_neg (by omega), if_neg (by omega), if_neg (by omega), if_pos e] at h2; exact Zc h2
theorem qw {l : List S46} {x : S43} (h1 : x.f0 ≠ 19) (h2 : x.f0 ≠ 20) : mv l x = (rd aN (x.f0 * 2), rd aN (x.f0 * 2 + 1)) := by
 unfold mv
 rw [if_neg h1, if_neg h2]
theorem mJ {op : Int} (h : op = 3 ∨ op = 4 ∨ op = 15 ∨ op = 16 ∨ op = 18 ∨ op = 21 ∨ op = 23 ∨ op = 25) : rd aN (op * 2) = 1 := by
 rcases h with rfl | rfl | rfl | rfl | rfl | rfl | rfl | rfl <;> decide
theorem pI {op : Int} (h : op = 5 ∨ (7 ≤ op ∧ op ≤ 14)) : rd aN (op * 2) = 2 := by
 have : op = 5 ∨ op = 7 ∨ op = 8 ∨ op = 9 ∨ op = 10 ∨ op = 11 ∨ op = 12 ∨ op = 13 ∨ op = 14 := by omega
 rcases this with rfl | rfl | rfl | rfl | rfl | rfl | rfl | rfl | rfl <;> decide
theorem nU {op : Int} (h : op = 1 ∨ op = 2 ∨ op = 6 ∨ op = 17 ∨ op = 22 ∨ op = 24) : rd aN (op * 2) = 0 := by
 rcases h with rfl | rfl | rfl | rfl | rfl | rfl <;> decide
theorem oV {op : Int} (h : op = 1 ∨ op = 2 ∨ op = 4 ∨ (7 ≤ op ∧ op ≤ 14) ∨ op = 15 ∨ op = 16 ∨ op = 22) : rd aN (op * 2 + 1) = 1 := by
 have : op = 1 ∨ op = 2 ∨ op = 4 ∨ op = 7 ∨ op = 8 ∨ op = 9 ∨ op = 10 ∨ op = 11 ∨ op = 12 ∨ op = 13 ∨ op = 14 ∨ op = 15 ∨ op = 16 ∨ op = 22 := by omega
 rcases this with rfl | rfl | rfl | rfl | rfl | rfl | rfl | rfl | rfl | rfl | rfl | rfl | rfl | rfl <;> decide
theorem mR {op : Int} (h : op = 3 ∨ op = 5 ∨ op = 6 ∨ op = 17 ∨ op = 18 ∨ op = 21 ∨ op = 23 ∨ op = 24 ∨ op = 25) : rd aN (op * 2 + 1) = 0 := by
 rcases h with rfl | rfl | rfl | rfl | rfl | rfl | rfl | rfl | rfl <;> decide
theorem qb {m : Mc} (G : GoodS m) (he : m.ended = false) : ∃ (r : List Fr) (f : Fr) (p : Nat) (main : Int), m.frames = r ++ [f] ∧ gJ m.codes main ∧ f.at_ = (p : Int) ∧ 0 ≤ f.pr ∧ f.pr < (m.codes.length : Int) ∧ (f.cells.length : Int) = (rdC m.codes f.pr).f1 ∧ jL m.codes r.reverse (lS m.codes f.pr) ∧ RR m.codes f.pr p (f.stack.length : Int) ∧ m.ins f = rdI (rdC m.codes f.pr).f0 p ∧
  p < (rdC m.codes f.pr).f0.length ∧ ¬ ((f.stack.length : Int) < (mv m.codes (m.ins f)).1 ∨ 4096 < (f.stack.length : Int) ∨ ((m.ins f).f0 = 20 ∧ (f.stack.length : Int) ≠ (mv m.codes (m.ins f)).1) ∨ ((m.ins f).f0 = 24 ∧ (f.stack.length : Int) ≠ 0)) ∧
  (∀ q : Nat, (q : Int) ∈ nxt (m.ins f) p → RR m.codes f.pr q ((f.stack.length : Int) - (mv m.codes (m.ins f)).1 + (mv m.codes (m.ins f)).2)) ∧ lK (rdC m.codes f.pr) ∧ May m.codes (rdC m.codes f.pr).f0 (rdC m.codes f.pr).f1 (rdC m.codes f.pr).f3 (m.ins f).f0 (m.ins f).f1 (m.ins f).f2 := by
 obtain ⟨r, f, p, main, e, hS, hg, hc, hp, hr, hi⟩ := good_top G he
 obtain ⟨a, b, c, d⟩ := hg
 obtain ⟨h1, h2, h3, h4, h5⟩ := vz hS a b hr
 rw [← hi] at h3 h4
 refine ⟨r, f, p, main, e, hS, hp, a, b, c, hc, hr, hi, h1, lQ.1 h3, h4, h5.1, ?_⟩
 rw [hi, oO _ _ h1]
 exact h5.2 _ (List.getElem_mem h1)
theorem ry {k : Nat} {m : Mc} (I : Inv k m) (he : m.ended = false) : ∃ r f, Fits m r f := by
 obtain ⟨r, f, p, main, e, hS, hp, a, b, c, hc, hr, hi, h1, h2, h3, h4, h5⟩ := qb I.good he
 obtain ⟨q1, q2, q3, q4, q5, q6, q7⟩ := pX h5
 generalize hx : m.ins f = x at h2 h3 h5 q1 q2 q3 q4 q5 q6 q7
 have hev := I.evs he
 have hfu := I.good.fuel
 obtain ⟨s1, s2, s3, s4, s5, s6, s7⟩ := h4
 have h2a : ¬ (f.stack.length : Int) < (mv m.codes x).1 := fun h => h2 (.inl h)
 have h2b : ¬ 4096 < (f.stack.length : Int) := fun h => h2 (.inr (.inl h))
 have h2c : x.f0 = 20 → (f.stack.length : Int) = (mv m.codes x).1 := fun h => Classical.byContradiction (fun h' => h2 (.inr (.inr (.inl ⟨h, h'⟩))))
 refine ⟨r, f, e, ⟨a, b⟩, ⟨by omega, by rw [hp]; exact Int.ofNat_lt.2 h1⟩, by rw [hp]; omega, ?_, ?_, ?_, ?_, ?_, by have := I.good.deep he; rw [e] at this; simpa using this, ⟨hfu.1, by omega⟩, ⟨hfu.2.1, by omega⟩, ?_, I.good.read, by have := I.good.inp; omega⟩
 ·rw [hx]
  intro n19 n20 n21 n22 n24
  have hm := qw (l := m.codes) n19 n20
  rw [hm] at h2a
  simp only at h2a
  refine ⟨by omega, fun h => ?_, fun h => ?_, fun h => ?_, fun h => ?_, by show f.stack.length ≤ 4096; omega, by show f.cells.length ≤ 65536; omega⟩
  ·obtain ⟨w1, w2, w3, w4⟩ := q2 h
   show 0 ≤ x.f1 ∧ x.f1 < (f.cells.length : Int)
   omega
  ·obtain ⟨w0, w1, w2, w3, w4⟩ := q3 h
   show 0 ≤ x.f1 ∧ 1 ≤ x.f2 ∧ x.f1 + x.f2 ≤ (f.cells.length : Int)
   omega
  ·rw [mJ (by omega)] at h2a
   show 1 ≤ f.stack.length
   omega
  ·rw [pI h] at h2a
   show 2 ≤ f.stack.length
   omega
 ·rw [hx]
  intro h
  obtain ⟨w1, w2, w3, w4, w5⟩ := q5 h
  have hm : (mv m.codes x).1 = x.f2 := by unfold mv; rw [if_pos h]
  obtain ⟨hs, _⟩ := fO hS w1 w2
  obtain ⟨t1, t2, t3, t4, t5, t6, t7⟩ := hs.1
  exact ⟨w1, w2, w3, by omega, by show x.f2 ≤ (rdC m.codes x.f1).f1; omega, t4⟩
 ·rw [hx]
  intro h
  have hm : (mv m.codes x).1 = x.f1 := by unfold mv; rw [if_neg (by omega), if_pos h]
  have := h2c h
  rcases q6 h with ⟨w, _⟩ | ⟨w, _⟩
  ·exact .inl w
  ·exact .inr ⟨w, by omega⟩
 ·rw [hx]
  intro h
  have hm := qw (l := m.codes) (x := x) (by omega) (by omega)
  rw [hm] at h2a
  simp only at h2a
  rw [mJ (by omega)] at h2a
  omega
 ·intro g hg
  rw [e, Zn, List.mem_singleton] at hg
  rcases hg with hg | rfl
  ·exact mV hS hc (by unfold lS; split <;> omega) g (List.mem_reverse.2 hg)
  ·omega
 ·have h4 : m.ticks * 1048577 ≤ 1048576 * 1048577 := Int.mul_le_mul_of_nonneg_right (by omega) (by omega)
  omega
theorem clear_len (l : List Int) (n m : Nat) : (fe l n m).length = l.length := iq m l n
theorem data_top {f : Fr} {x : S43} (F : kW f x) (p : Nat) (hp : f.at_ = (p : Int) + 1) (hj : x.f0 = 17 ∨ x.f0 = 18 → 0 ≤ x.f1) (h0 : (cO f x).2 = 0) :
  (cO f x).1.pr = f.pr ∧ (cO f x).1.cells.length = f.cells.length ∧ (∃ q : Nat, (cO f x).1.at_ = (q : Int) ∧ (q : Int) ∈ nxt x p) ∧ ((cO f x).1.stack.length : Int) = (f.stack.length : Int) - rd aN (x.f0 * 2) + rd aN (x.f0 * 2 + 1) := by
 obtain ⟨op, n, m⟩ := x
 have hop := F.op
 have h1 := F.one
 have h2 := F.two
 simp only at hop h1 h2 hj
 have hn : ∀ o : Int, o ≠ 17 → o ≠ 18 → o ≠ 20 → nxt ⟨o, n, m⟩ p = [(p : Int) + 1] := fun o a b c => by unfold nxt; rw [if_neg a, if_neg b, if_neg c]
 have hin : ∀ o : Int, o ≠ 17 → o ≠ 18 → o ≠ 20 → ∃ q : Nat, f.at_ = (q : Int) ∧ (q : Int) ∈ nxt ⟨o, n, m⟩ p := fun o a b c => ⟨p + 1, by rw [hp]; rfl, by rw [hn o a b c]; simp⟩
 rcases hop with rfl | rfl | rfl | rfl | rfl | rfl | ⟨h7, h14⟩ | rfl | rfl | rfl | rfl | rfl | rfl
 ·exact ⟨rfl, rfl, hin 1 (by decide) (by decide) (by decide), by rw [show rd aN (1 * 2) = 0 by decide, show rd aN (1 * 2 + 1) = 1 by decide]; simp [cO]⟩
 ·exact ⟨rfl, rfl, hin 2 (by decide) (by decide) (by decide), by rw [show rd aN (2 * 2) = 0 by decide, show rd aN (2 * 2 + 1) = 1 by decide]; simp [cO]⟩
 ·refine ⟨rfl, by simp [cO], hin 3 (by decide) (by decide) (by decide), ?_⟩
  rw [show rd aN (3 * 2) = 1 by decide, show rd aN (3 * 2 + 1) = 0 by decide]
  have := h1 (by simp)
  simp [cO]
  omega
 ·have := h1 (by simp)
  by_cases hx : f.stack.getLastD 0 < 0 ∨ m ≤ f.stack.getLastD 0
  ·simp only [cO] at h0
   rw [if_neg (by decide), if_neg (by decide), if_neg (by decide), if_pos trivial, if_pos hx] at h0
   exact absurd (show (2 : Int) = 0 from h0) (by decide)
  ·have e : cO f ⟨4, n, m⟩ = ({ f with stack := f.stack.dropLast ++ [f.cells.getD (n + f.stack.getLastD 0).toNat 0] }, 0) := by
    simp only [cO]
    rw [if_neg (by decide), if_neg (by decide), if_neg (by decide), if_pos trivial, if_neg hx]
   rw [e, show rd aN (4 * 2) = 1 by decide, show rd aN (4 * 2 + 1) = 1 by decide]
   refine ⟨rfl, rfl, hin 4 (by decide) (by decide) (by decide), ?_⟩
   simp
   omega
 ·have := h2 (by simp)
  by_cases hx : f.stack.dropLast.getLastD 0 < 0 ∨ m ≤ f.stack.dropLast.getLastD 0
  ·simp only [cO] at h0
   rw [if_neg (by decide), if_neg (by decide), if_neg (by decide), if_neg (by decide), if_pos trivial, if_pos hx] at h0
   exact absurd (show (2 : Int) = 0 from h0) (by decide)
  ·have e : cO f ⟨5, n, m⟩ = ({ f with cells := f.cells.set (n + f.stack.dropLast.getLastD 0).toNat (f.stack.getLastD 0), stack := f.stack.dropLast.dropLast }, 0) := by
    simp only [cO]
    rw [if_neg (by decide), if_neg (by decide), if_neg (by decide), if_neg (by decide), if_pos trivial, if_neg hx]
   rw [e, show rd aN (5 * 2) = 2 by decide, show rd aN (5 * 2 + 1) = 0 by decide]
   refine ⟨rfl, by simp, hin 5 (by decide) (by decide) (by decide), ?_⟩
   simp
   omega
 ·exact ⟨rfl, by simp [cO, clear_len], hin 6 (by decide) (by decide) (by decide), by rw [show rd aN (6 * 2) = 0 by decide, show rd aN (6 * 2 + 1) = 0 by decide]; simp [cO]⟩
 ·have h3 := h2 (.inr ⟨h7, h14⟩)
  have e : (cO f ⟨op, n, m⟩).1 = { f with stack := f.stack.dropLast.dropLast ++ [(iK op (f.stack.dropLast.getLastD 0) (f.stack.getLastD 0)).1] } := by
   simp only [cO]
   rw [if_neg (by omega), if_neg (by omega), if_neg (by omega), if_neg (by omega), if_neg (by omega), if_neg (by omega), if_neg (by omega), if_neg (by omega), if_neg (by omega), if_neg (by omega), if_neg (by omega), if_neg (by omega)]
  rw [e, show rd aN ((⟨op, n, m⟩ : S43).f0 * 2) = 2 from pI (.inr ⟨h7, h14⟩), show rd aN ((⟨op, n, m⟩ : S43).f0 * 2 + 1) = 1 from oV (op := op) (by omega)]
  refine ⟨rfl, rfl, hin op (by omega) (by omega) (by omega), ?_⟩
  simp
  omega
 ·have := h1 (by simp)
  refine ⟨rfl, rfl, hin 15 (by decide) (by decide) (by decide), ?_⟩
  rw [show rd aN (15 * 2) = 1 by decide, show rd aN (15 * 2 + 1) = 1 by decide]
  simp [cO]
  omega
 ·have := h1 (by simp)
  refine ⟨rfl, rfl, hin 16 (by decide) (by decide) (by decide), ?_⟩
  rw [show rd aN (16 * 2) = 1 by decide, show rd aN (16 * 2 + 1) = 1 by decide]
  simp [cO]
  omega
 ·have := hj (by simp)
  refine ⟨rfl, rfl, ⟨n.toNat, by simp [cO]; omega, ?_⟩, ?_⟩
  ·unfold nxt; rw [if_pos rfl, List.mem_singleton]; show ((n.toNat : Nat) : Int) = n; omega
  ·rw [show rd aN (17 * 2) = 0 by decide, show rd aN (17 * 2 + 1) = 0 by decide]
   simp [cO]
 ·have := h1 (by simp)
  have hj := hj (by simp)
  refine ⟨rfl, rfl, ?_, ?_⟩
  ·by_cases hz : f.stack.getLastD 0 = 0
   ·refine ⟨n.toNat, by simp only [cO]; rw [if_neg (by decide), if_neg (by decide), if_neg (by decide), if_neg (by decide), if_neg (by decide), if_neg (by decide), if_neg (by decide), if_neg (by decide), if_neg (by decide), if_pos trivial, if_pos hz]; show n = ((n.toNat : Nat) : Int); omega, ?_⟩
    have : nxt ⟨18, n, m⟩ p = [(p : Int) + 1, n] := rfl
    rw [this]; simp; omega
   ·refine ⟨p + 1, by simp only [cO]; rw [if_neg (by decide), if_neg (by decide), if_neg (by decide), if_neg (by decide), if_neg (by decide), if_neg (by decide), if_neg (by decide), if_neg (by decide), if_neg (by decide), if_pos trivial, if_neg hz]; exact hp, ?_⟩
    have : nxt ⟨18, n, m⟩ p = [(p : Int) + 1, n] := rfl
    rw [this]; simp
  ·rw [show rd aN (18 * 2) = 1 by decide, show rd aN (18 * 2 + 1) = 0 by decide]
   simp [cO]
   omega
 ·have := h1 (by simp)
  refine ⟨rfl, rfl, hin 23 (by decide) (by decide) (by decide), ?_⟩
  rw [show rd aN (23 * 2) = 1 by decide, show rd aN (23 * 2 + 1) = 0 by decide]
  simp [cO]
  omega
 ·have := h1 (by simp)
  refine ⟨rfl, rfl, hin 25 (by decide) (by decide) (by decide), ?_⟩
  rw [show rd aN (25 * 2) = 1 by decide, show rd aN (25 * 2 + 1) = 0 by decide]
  simp [cO]
  omega
theorem does_basic (m : Mc) (r : List Fr) (f : Fr) (i : S43) (hr : m.read ≤ m.input.length) (hf : 0 ≤ m.fuel) :
  (m.does r f i).1.codes = m.codes ∧ (m.does r f i).1.input = m.input ∧ (m.does r f i).1.read ≤ m.input.length ∧ 0 ≤ (m.does r f i).1.fuel ∧ (m.does r f i).1.ticks = m.ticks + (if (m.does r f i).2 = true then 1 else 0) ∧
   (m.does r f i).1.fuel + (m.does r f i).1.ticks = m.fuel + m.ticks ∧ (m.does r f i).1.events.length ≤ m.events.length + (if (m.does r f i).2 = true then 0 else 1) := by
 unfold Mc.does
 repeat' split
 all_goals simp_all [Mc.endM, Mc.dZ]
 all_goals omega
theorem chain_go {l : List S46} {main : Int} (hS : gJ l main) {r : List Fr} {f f' : Fr} {p : Nat} {x : S43} (hc : jL l r.reverse (lS l f.pr)) (h0 : 0 ≤ f.pr) (h1 : f.pr < (l.length : Int)) (hcl : (f.cells.length : Int) = (rdC l f.pr).f1)
  (hn : ∀ q : Nat, (q : Int) ∈ nxt x p → RR l f.pr q ((f.stack.length : Int) - (mv l x).1 + (mv l x).2)) (e1 : f'.pr = f.pr) (e2 : f'.cells.length = f.cells.length) (hq : ∃ q : Nat, f'.at_ = (q : Int) ∧ (q : Int) ∈ nxt x p)
  (e3 : (f'.stack.length : Int) = (f.stack.length : Int) - (mv l x).1 + (mv l x).2) : jL l (r ++ [f']).reverse 0 := by
 obtain ⟨q, hq, hqn⟩ := hq
 rw [List.reverse_append]
 refine ⟨⟨by rw [e1]; exact h0, by rw [e1]; exact h1, by rw [e1, e2]; exact hcl, q, hq, ?_⟩, by rw [e1]; exact hc⟩
 rw [e1, e3, Int.add_zero]
 exact hn q hqn
theorem does_chain {m : Mc} {r : List Fr} {f : Fr} {p : Nat} {main : Int} {x : S43} (hS : gJ m.codes main) (hp : f.at_ = (p : Int)) (h0 : 0 ≤ f.pr) (h1 : f.pr < (m.codes.length : Int)) (hcl : (f.cells.length : Int) = (rdC m.codes f.pr).f1)
  (hc : jL m.codes r.reverse (lS m.codes f.pr)) (hok : ¬ ((f.stack.length : Int) < (mv m.codes x).1 ∨ 4096 < (f.stack.length : Int) ∨ (x.f0 = 20 ∧ (f.stack.length : Int) ≠ (mv m.codes x).1) ∨ (x.f0 = 24 ∧ (f.stack.length : Int) ≠ 0)))
  (hn : ∀ q : Nat, (q : Int) ∈ nxt x p → RR m.codes f.pr q ((f.stack.length : Int) - (mv m.codes x).1 + (mv m.codes x).2)) (hsz : lK (rdC m.codes f.pr)) (hm : May m.codes (rdC m.codes f.pr).f0 (rdC m.codes f.pr).f1 (rdC m.codes f.pr).f3 x.f0 x.f1 x.f2)
  (hd : x.f0 ≠ 19 → x.f0 ≠ 20 → x.f0 ≠ 21 → x.f0 ≠ 22 → x.f0 ≠ 24 → kW { f with at_ := f.at_ + 1 } x) (hl : r.length + 1 ≤ 50) (he : m.ended = false)
  (hne : (m.does r { f with at_ := f.at_ + 1 } x).1.ended = false) :
  jL m.codes (m.does r { f with at_ := f.at_ + 1 } x).1.frames.reverse 0 ∧ (m.does r { f with at_ := f.at_ + 1 } x).1.frames ≠ [] ∧ (m.does r { f with at_ := f.at_ + 1 } x).1.frames.length ≤ 50 := by
 obtain ⟨q1, q2, q3, q4, q5, q6, q7⟩ := pX hm
 have hx1 : x.f0 ≠ 17 → x.f0 ≠ 18 → x.f0 ≠ 20 → ∃ q : Nat, f.at_ + 1 = (q : Int) ∧ (q : Int) ∈ nxt x p := fun a b c => ⟨p + 1, by rw [hp]; rfl, by unfold nxt; rw [if_neg a, if_neg b, if_neg c]; simp⟩
 have hst1 : (f.stack.length : Int) < (mv m.codes x).1 → False := fun h => hok (.inl h)
 unfold Mc.does at hne ⊢
 by_cases h19 : x.f0 = 19
 ·rw [if_pos h19] at hne ⊢
  by_cases h50 : r.length + 1 = 50
  ·rw [if_pos h50] at hne; exact absurd (show true = false from hne) (by decide)
  ·rw [if_neg h50]
   obtain ⟨w1, w2, w3, w4, w5⟩ := q5 h19
   have hmv : mv m.codes x = (x.f2, if (rdC m.codes x.f1).f3 = true then 1 else 0) := by unfold mv; rw [if_pos h19]
   rw [hmv] at hst1 hn
   obtain ⟨hs2, _⟩ := fO hS w1 w2
   obtain ⟨t1, t2, t3, t4, t5, t6, t7⟩ := hs2.1
   obtain ⟨q, hq, hqn⟩ := hx1 (by omega) (by omega) (by omega)
   have hst1 : ¬ (f.stack.length : Int) < x.f2 := fun h => hst1 h
   refine ⟨?_, by simp [Mc.dZ], by simp [Mc.dZ]; omega⟩
   show jL m.codes ((r ++ [_]) ++ [_]).reverse 0
   rw [List.reverse_append, List.reverse_append]
   refine ⟨⟨w1, w2, ?_, 0, rfl, ?_⟩, ⟨⟨h0, h1, hcl, q, hq, ?_⟩, hc⟩⟩
   ·show (((f.stack.drop (f.stack.length - x.f2.toNat)) ++ List.replicate ((rdC m.codes x.f1).f1.toNat - (f.stack.drop (f.stack.length - x.f2.toNat)).length) 0).length : Int) = (rdC m.codes x.f1).f1
    simp only [List.length_append, List.length_drop, List.length_replicate]
    omega
   ·exact fO hS w1 w2
   ·have := hn q hqn
    have e : ((f.stack.take (f.stack.length - x.f2.toNat)).length : Int) + lS m.codes x.f1 = (f.stack.length : Int) - x.f2 + (if (rdC m.codes x.f1).f3 = true then 1 else 0) := by
     rw [List.length_take]; unfold lS; omega
    show RR m.codes f.pr q (((f.stack.take (f.stack.length - x.f2.toNat)).length : Int) + lS m.codes x.f1)
    rw [e]; exact this
 rw [if_neg h19] at hne ⊢
 by_cases h20 : x.f0 = 20
 ·rw [if_pos h20] at hne ⊢
  by_cases hr : r = []
  ·rw [if_pos hr] at hne; exact absurd (show true = false from hne) (by decide)
  ·rw [if_neg hr]
   obtain ⟨r1, g, rfl⟩ : ∃ r1 g, r = r1 ++ [g] := by
    rcases List.eq_nil_or_concat r with e | ⟨s, y, e⟩
    ·exact absurd e hr
    ·exact ⟨s, y, by simpa using e⟩
   rw [List.reverse_append] at hc
   obtain ⟨⟨c1, c2, c3, q, c4, c5⟩, c6⟩ := hc
   rcases q6 h20 with ⟨w, wa⟩ | ⟨w, wa⟩
   ·rw [if_neg (by omega)]
    refine ⟨?_, hr, by show (r1 ++ [g]).length ≤ 50; omega⟩
    show jL m.codes (r1 ++ [g]).reverse 0
    rw [List.reverse_append]
    have hz : lS m.codes f.pr = 0 := by unfold lS; rw [wa]; rfl
    rw [hz] at c5
    exact ⟨⟨c1, c2, c3, q, c4, c5⟩, c6⟩
   ·rw [if_pos w]
    have hz : lS m.codes f.pr = 1 := by unfold lS; rw [wa]; rfl
    rw [hz] at c5
    have ep : gL (r1 ++ [g]) (f.stack.getLastD 0) = r1 ++ [{ g with stack := g.stack ++ [f.stack.getLastD 0] }] := by simp [gL]
    show jL m.codes (gL (r1 ++ [g]) (f.stack.getLastD 0)).reverse 0 ∧ gL (r1 ++ [g]) (f.stack.getLastD 0) ≠ [] ∧ (gL (r1 ++ [g]) (f.stack.getLastD 0)).length ≤ 50
    rw [ep]
    refine ⟨?_, by simp, by simp at hl ⊢; omega⟩
    rw [List.reverse_append]
    refine ⟨⟨c1, c2, c3, q, c4, ?_⟩, c6⟩
    have e : ((g.stack ++ [f.stack.getLastD 0]).length : Int) + 0 = (g.stack.length : Int) + 1 := by simp
    show RR m.codes g.pr q (((g.stack ++ [f.stack.getLastD 0]).length : Int) + 0)
    rw [e]; exact c5
 rw [if_neg h20] at hne ⊢
 have hmv := qw (l := m.codes) h19 h20
 rw [hmv] at hst1
 simp only at hst1
 have fin : ∀ f' : Fr, f'.pr = f.pr → f'.cells.length = f.cells.length → (∃ q : Nat, f'.at_ = (q : Int) ∧ (q : Int) ∈ nxt x p) → (f'.stack.length : Int) = (f.stack.length : Int) - rd aN (x.f0 * 2) + rd aN (x.f0 * 2 + 1) →
   jL m.codes (r ++ [f']).reverse 0 ∧ r ++ [f'] ≠ [] ∧ (r ++ [f']).length ≤ 50 := fun f' e1 e2 e3 e4 =>
  ⟨chain_go hS hc h0 h1 hcl hn e1 e2 e3 (by rw [hmv]; exact e4), by simp, by simpa using hl⟩
 by_cases h21 : x.f0 = 21
 ·rw [if_pos h21] at hne ⊢
  have ht := mJ (op := x.f0) (by omega)
  rw [ht] at hst1
  have hst1 : ¬ (f.stack.length : Int) < 1 := fun h => hst1 h
  exact fin _ rfl rfl (hx1 (by omega) (by omega) h20) (by rw [ht, mR (by omega)]; simp; omega)
 rw [if_neg h21] at hne ⊢
 by_cases h22 : x.f0 = 22
 ·rw [if_pos h22] at hne ⊢
  by_cases hr : m.read = m.input.length
  ·rw [if_pos hr] at hne; exact absurd (show true = false from hne) (by decide)
  ·rw [if_neg hr]
   exact fin _ rfl rfl (hx1 (by omega) (by omega) h20) (by rw [nU (by omega), oV (by omega)]; simp)
 rw [if_neg h22] at hne ⊢
 by_cases h24 : x.f0 = 24
 ·rw [if_pos h24] at hne ⊢
  by_cases hr : m.fuel = 0
  ·rw [if_pos hr] at hne; exact absurd (show true = false from hne) (by decide)
  ·rw [if_neg hr]
   exact fin _ rfl rfl (hx1 (by omega) (by omega) h20) (by rw [nU (by omega), mR (by omega)]; simp)
 rw [if_neg h24] at hne ⊢
 by_cases ht : (cO { f with at_ := f.at_ + 1 } x).2 = 0
 ·rw [if_pos ht]
  obtain ⟨d1, d2, d3, d4⟩ := data_top (hd h19 h20 h21 h22 h24) p (by show f.at_ + 1 = _; rw [hp]) (fun h => (q4 h).1) ht
  exact fin _ d1 d2 d3 d4
 ·rw [if_neg ht] at hne; exact absurd (show true = false from hne) (by decide)
theorem rH {k : Nat} {m : Mc} (I : Inv (k + 1) m) (he : m.ended = false) :
  GoodS m.one.1 ∧ (m.one.2 = false → Inv k m.one.1) ∧ (m.one.2 = true → m.one.1.ended = false → (m.one.1.events.length : Int) ≤ m.one.1.ticks * 1048577) ∧ m.one.1.codes = m.codes ∧ m.one.1.input = m.input := by
 obtain ⟨r, f, p, main, e, hS, hp, a, b, c, hc, hr, hi, h1, h2, h3, h4, h5⟩ := qb I.good he
 obtain ⟨r', f', F⟩ := ry I he
 have e' : r' = r ∧ f' = f := by
  have := F.fr.symm.trans e
  have := List.append_inj' this rfl
  exact ⟨this.1, by simpa using this.2⟩
 obtain ⟨rfl, rfl⟩ := e'
 have hev := I.evs he
 have hfu := I.good.fuel
 rw [iI e]
 obtain ⟨b1, b2, b3, b4, b5, b6, b7⟩ := does_basic m r' { f' with at_ := f'.at_ + 1 } (m.ins f') I.good.read hfu.1
 have hch := does_chain (x := m.ins f') hS hp a b c hc h2 h3 h4 h5 F.data F.deep he
 generalize hd : m.does r' { f' with at_ := f'.at_ + 1 } (m.ins f') = d at *
 obtain ⟨m', t⟩ := d
 simp only at *
 have G : GoodS m' := by
  refine ⟨⟨main, by rw [b1]; exact hS⟩, fun h => by rw [b1]; exact (hch h).1, fun h => (hch h).2.1, fun h => (hch h).2.2, ?_, by rw [b2]; exact b3, by rw [b2]; exact I.good.inp, ?_⟩
  ·cases t <;> simp at b5 <;> omega
  ·cases t <;> simp at b5 b7 <;> omega
 refine ⟨G, fun ht => ⟨G, fun _ => ?_⟩, fun ht _ => ?_, b1, b2⟩
 ·subst ht; simp at b5 b7; omega
 ·subst ht; simp at b5 b7; omega
theorem road : Road (fun k m => Inv k m) := ⟨fun k m I he => ry I he, fun k m I he ht _ => (rH I he).2.1 ht⟩
theorem uC : (Tryd.prog.info? 43).map (fun i => (i.zero, i.size, i.bytes)) = some (some (.agg #[.int .i64 0, .int .i64 0, .int .i64 0]), 3, 24) := by kernel_rfl
theorem ut : (Tryd.prog.info? 46).map (fun i => (i.zero, i.size, i.bytes)) = some (some (.agg #[.slice none 0 0, .int .i64 0, .int .i64 0, .bool false]), 4, 48) := by kernel_rfl
def mc0 (l : List S46) (input : List Int) (fuel : Int) : Mc := ⟨l, [], input, 0, fuel, 0, (0, 0, 0, 0), [], false⟩
section
variable (w : World) (A0 A2 : Option Addr) (c0 c2 : Nat) (l : List S46) (input : List Int) (main fuel : Int)
theorem new_unsound (hl : Kd.C k46 w A0 l.length l) (hc : l.length ≤ c0) (hLd : Laid w) (k : Nat) (h : aJ.f k l main = some false) (v : Value) :
  Calls Tryd.prog 12 #[.slice A0 l.length c0, .int .i64 main, v, .int .i64 fuel] w fun e w' => e = .returned (.tuple #[.pointer none, .int .i64 60]) ∧ Below w.heap.size w w' := by
 have HL := aa.mk hl; have HLd := aa.mk hLd; have H := aa.mk h; have HC := aa.mk hc
 clear hl hLd h hc
 go_enter Tryd.func12, Tryd.ntmps12
 go_wp2_with ((with_reducible refine ah (f := 32) rfl ?_); refine gl 15 Tryd.func32 #[.slice A0 l.length c0, .int .i64 main] ?_; refine (aJ.calls k A0 c0 l main false w HL.out HC.out HLd.out H.out).mono ?_; rintro e w1 ⟨rfl, hb⟩; have HB := aa.mk hb; clear hb; refine ⟨_, rfl, ?_⟩)
 go_ret2
 exact ⟨rfl, HB.out⟩
theorem new_args (hl : Kd.C k46 w A0 l.length l) (hc : l.length ≤ c0) (hLd : Laid w) (k : Nat) (h : aJ.f k l main = some true) (n2 : Nat) (hbad : fuel < 0 ∨ 1048576 < fuel ∨ 1000 < n2) :
  Calls Tryd.prog 12 #[.slice A0 l.length c0, .int .i64 main, .slice A2 n2 c2, .int .i64 fuel] w fun e w' => e = .returned (.tuple #[.pointer none, .int .i64 1]) ∧ Below w.heap.size w w' := by
 have HL := aa.mk hl; have HLd := aa.mk hLd; have H := aa.mk h; have HC := aa.mk hc
 clear hl hLd h hc
 by_cases d1 : fuel < 0
 ·have e1 : decide (fuel < 0) = true := Za d1
  clear hbad d1
  go_enter Tryd.func12, Tryd.ntmps12
  go_wp2_with ((with_reducible refine ah (f := 32) rfl ?_); refine gl 15 Tryd.func32 #[.slice A0 l.length c0, .int .i64 main] ?_; refine (aJ.calls k A0 c0 l main true w HL.out HC.out HLd.out H.out).mono ?_; rintro e w1 ⟨rfl, hb⟩; have HB := aa.mk hb; clear hb; refine ⟨_, rfl, ?_⟩)
  go_ret2
  exact ⟨rfl, HB.out⟩
 have e1 : decide (fuel < 0) = false := Zb d1
 by_cases d2 : 1048576 < fuel
 ·have e2 : decide (1048576 < fuel) = true := Za d2
  clear hbad d1 d2
  go_enter Tryd.func12, Tryd.ntmps12
  go_wp2_with ((with_reducible refine ah (f := 32) rfl ?_); refine gl 15 Tryd.func32 #[.slice A0 l.length c0, .int .i64 main] ?_; refine (aJ.calls k A0 c0 l main true w HL.out HC.out HLd.out H.out).mono ?_; rintro e w1 ⟨rfl, hb⟩; have HB := aa.mk hb; clear hb; refine ⟨_, rfl, ?_⟩)
  go_ret2
  exact ⟨rfl, HB.out⟩
 have e2 : decide (1048576 < fuel) = false := Zb d2
 have e3 : decide (1000 < (n2 : Int)) = true := Za (by omega)
 clear hbad d1 d2
 go_enter Tryd.func12, Tryd.ntmps12
 go_wp2_with ((with_reducible refine ah (f := 32) rfl ?_); refine gl 15 Tryd.func32 #[.slice A0 l.length c0, .int .i64 main] ?_; refine (aJ.calls k A0 c0 l main true w HL.out HC.out HLd.out H.out).mono ?_; rintro e w1 ⟨rfl, hb⟩; have HB := aa.mk hb; clear hb; refine ⟨_, rfl, ?_⟩)
 go_ret2
 exact ⟨rfl, HB.out⟩
theorem rX (hl : Kd.C k46 w A0 l.length l) (hc : l.length ≤ c0) (hLd : Laid w) (k : Nat) (h : aJ.f k l main = some true) (hin : Kd.C (Kd.int .i64) w A2 input.length input) (hc2 : input.length ≤ c2) (hf0 : 0 ≤ fuel) (hf1 : fuel ≤ 1048576) (hi1 : input.length ≤ 1000)
  (hlen : l.length ≤ 40) (hins : ∀ x ∈ l, x.f0.length ≤ 65536) (m0 : 0 ≤ main) (m1 : main < l.length) (hcells : 0 ≤ (au l main).f1 ∧ (au l main).f1 ≤ 65536) :
  Calls Tryd.prog 12 #[.slice A0 l.length c0, .int .i64 main, .slice A2 input.length c2, .int .i64 fuel] w fun e w' => ∃ Rd o, e = .returned (.tuple #[o.ptr, .int .i64 0]) ∧ MOn Rd w' o ((mc0 l input fuel).dZ main []) ∧ (∀ k, Rd k ∨ k ∈ o.own → w.heap.size ≤ k) ∧ Below w.heap.size w w' := by
 have e1 : decide (fuel < 0) = false := Zb (by omega)
 have e2 : decide (1048576 < fuel) = false := Zb (by omega)
 have e3 : decide (1000 < (input.length : Int)) = false := Zb (by omega)
 have HL := aa.mk hl; have HLd := aa.mk hLd; have H := aa.mk h; have HC := aa.mk hc; have HIN := aa.mk hin; have HINS := aa.mk hins; have HCE := aa.mk hcells
 clear hl hLd h hc hin hins hcells
 go_enter Tryd.func12, Tryd.ntmps12
 go_wp2_with (first
  | ((with_reducible refine ah (f := 32) rfl ?_); refine gl 15 Tryd.func32 #[.slice A0 l.length c0, .int .i64 main] ?_; refine (aJ.calls k A0 c0 l main true w HL.out HC.out HLd.out H.out).mono ?_; rintro e w1 ⟨rfl, hb⟩; have HB := aa.mk hb; clear hb; refine ⟨_, rfl, ?_⟩)
  | ((with_reducible refine di (b := .append) (xs := #[.const (.slice none 0 0), .tmp 28]) rfl ?_); at_builtin; refine Kd.gI (Kd.int .i64) (w0 := w) w.heap.size rfl (.const (.slice none 0 0)) (.tmp 28) 23 2 (.int .i64 0) 8 rfl Tryd.underlying23 jd rfl (by decide) (by decide) (.slice none 0 0) ([] : List Int) input _ _ _ (fun _ => True) (fun _ => False) rfl rfl (Kd.kF _ _ _ _ (fun _ => True)) (Kd.dO HIN.out HB.out) (fun _ _ h => h) (fun _ h => h.elim) (fun _ _ => trivial) HB.out (aK HB.out) (by simp; omega) ?_; intro iv w2 ho hb hg hat; have ho : Kd.R (Kd.int .i64) 2 w2 w.heap.size (fun _ => True) iv input := ho; obtain ⟨iA, iC, rfl⟩ := Kd.dh ho; have HI := aa.mk ho; have HB2 := aa.mk hb; clear ho hb hg hat))
 have hwb := HB2.out.size
 obtain ⟨gm, hgm⟩ : ∃ gm, gm = w2.heap.size := ⟨_, rfl⟩
 rw [← hgm]
 have HGM := aa.mk hgm; clear hgm
 have HIV : aa (∀ k, (Value.slice iA input.length iC).ownBlock = some k → w.heap.size ≤ k ∧ k < gm) := ⟨fun k e => ⟨Kd.ed HI.out k e, by rw [HGM.out]; exact Kd.il HI.out k e⟩⟩
 go_loopg [35] l.length (fun gk v35 W => ∃ (x : Nat) (cv : Value), v35 = .int .i64 (x : Int) ∧ aa (gk + x = l.length) ∧ aa (Kd.R k46 46 W w.heap.size (fun k => k ≠ gm ∧ some k ≠ (Value.slice iA input.length iC).ownBlock) cv (l.take x)) ∧ aa (W.heap[gm]? = some (.cells #[cv, .slice none 0 0, .slice iA input.length iC, .int .i64 0, .int .i64 fuel, .int .i64 0, .int .i64 0, .int .i64 0, .int .i64 0, .int .i64 0, .slice none 0 0, .bool false] 67 (0, 0))) ∧ aa (W.ownsRow w.heap.size 2 1 (.slice iA input.length iC) input.length (ints input)) ∧ aa (Below w.heap.size w W))
 case atStart =>
  exact ⟨0, .slice none 0 0, rfl, ⟨rfl⟩, ⟨Kd.kF _ _ _ _ _⟩, ⟨by rw [HGM.out]; exact bW w2 _⟩, ⟨(Kd.iM HI.out).alloc _⟩, ⟨bN HB2.out _⟩⟩
 case round =>
  obtain ⟨x, cv, rfl, A1, A2, A3, A4, A5⟩ := hrel
  obtain ⟨cA, cn, cC, rfl⟩ : ∃ A n c, cv = .slice A n c := by obtain ⟨A, c, e⟩ := Kd.dh A2.out; exact ⟨_, _, _, e⟩
  obtain ⟨T, hT⟩ : ∃ T, T = l.take x := ⟨_, rfl⟩
  rw [← hT] at A2
  have HT := aa.mk hT; clear hT
  by_cases hx : x < l.length
  ·obtain ⟨gk, rfl⟩ : ∃ j, gk = j + 1 := ⟨gk - 1, by have := A1.out; omega⟩
   have hxb : (x : Int) ≤ 40 := by omega
   obtain ⟨ad, B0, d0, rfl, hx0, hx1, hx2, hx3, hl0, hi0⟩ := eZ (Kd.dO HL.out A5.out) (x : Int) (by omega) (by omega)
   simp only [Int.toNat_natCast] at hx0 hx1 hx2 hx3
   obtain ⟨y, hy⟩ : ∃ y, y = au l (x : Int) := ⟨_, rfl⟩
   rw [← hy] at hx0 hx1 hx2 hx3 hl0 hi0
   have HY := aa.mk hy; have HI0 := aa.mk hi0; have HL0 := aa.mk hl0; clear hy hi0 hl0
   have p1 := eq_true (show (0 : Int) ≤ (x : Int) by omega); have p2 := eq_true (show (x : Int) < (l.length : Int) by omega)
   obtain ⟨gb, hgb⟩ : ∃ gb, gb = wr.heap.size := ⟨_, rfl⟩
   have hgl : gm < gb := by rw [hgb]; exact bF A3.out
   have HGB := aa.mk hgb; clear hgb
   go_wp2_with ((with_reducible refine di (b := .append) (xs := #[.const (.slice none 0 0), .tmp 40]) rfl ?_); at_builtin; refine Kd.gI k43 (w0 := w) w.heap.size rfl (.const (.slice none 0 0)) (.tmp 40) 44 43 (.agg #[.int .i64 0, .int .i64 0, .int .i64 0]) 24 rfl Tryd.underlying44 uC rfl (by decide) (by decide) (.slice none 0 0) ([] : List S43) y.f0 _ _ _ (fun k => gb ≤ k) (fun _ => False) rfl rfl (Kd.kF _ _ _ _ _) (Kd.fq HI0.out _) (fun x cs h => by obtain rfl := oD h; exact sS _ _ _ _) (fun _ h => h.elim) (fun k hk => by have := HGB.out; simp at hk; omega) (bN A5.out _) (aK (bN A5.out _)) (by have := HINS.out y (by rw [HY.out]; have hxl := of_eq_true p2; rw [show au l (x : Int) = l[x]'(by omega) by simp [au, List.getD, show x < l.length by omega]]; exact List.getElem_mem _); simp; omega) ?_; intro nv w3 ho hb hg hat; have ho : Kd.R k43 43 w3 w.heap.size (fun k => gb ≤ k) nv y.f0 := ho; obtain ⟨nA, nC, rfl⟩ := Kd.dh ho; have B3 : w3.heap[gb]? = some (.cells #[.slice B0 y.f0.length d0, .int .i64 y.f1, .int .i64 y.f2, .bool y.f3] 46 (0, 0)) := by { rw [HGB.out]; exact cZ (bW wr _) hg (by simp [Value.ownBlock]) }; have G3 := cZ (bv A3.out (.cells #[.slice B0 y.f0.length d0, .int .i64 y.f1, .int .i64 y.f2, .bool y.f3] 46)) hg (by simp [Value.ownBlock]); have b0 : w3.cell? ⟨gb, 0, none⟩ = some (.slice B0 y.f0.length d0) := ae B3 0; have b0f : w3.frozen? ⟨gb, 0, none⟩ = false := ai B3 0; rw [HGB.out] at b0 b0f; have HB3 := aa.mk B3; have HG3 := aa.mk G3; have HN := aa.mk ho; have HBE := aa.mk hb; have HGR := aa.mk hg; clear ho hb hg hat B3 G3)
   rw [← HGB.out]
   obtain ⟨w4, hw4⟩ : ∃ w4, w4 = w3.setCell ⟨gb, 0, none⟩ (.slice nA y.f0.length nC) := ⟨_, rfl⟩
   rw [← hw4]
   have ne1 : gm ≠ gb := Nat.ne_of_lt hgl
   have B4 : w4.heap[gb]? = some (.cells #[.slice nA y.f0.length nC, .int .i64 y.f1, .int .i64 y.f2, .bool y.f3] 46 (0, 0)) := by rw [hw4]; exact dH HB3.out 0 _
   have G4 : w4.heap[gm]? = some (.cells #[.slice cA cn cC, .slice none 0 0, .slice iA input.length iC, .int .i64 0, .int .i64 fuel, .int .i64 0, .int .i64 0, .int .i64 0, .int .i64 0, .int .i64 0, .slice none 0 0, .bool false] 67 (0, 0)) := by rw [hw4]; exact dF HG3.out ne1 _
   have HGB4 : aa (Below w.heap.size w w4) := ⟨by rw [hw4]; exact gV HBE.out (by have := HGB.out; have := A5.out.size; omega)⟩
   have HBW := bN (Below.refl wr.heap.size wr) (.cells #[.slice B0 y.f0.length d0, .int .i64 y.f1, .int .i64 y.f2, .bool y.f3] 46)
   have hne0 : ∀ k, gb ≤ k → k ≠ gm := fun k h => by omega
   have CV4 : aa (Kd.R k46 46 w4 w.heap.size (fun k => k ≠ gm ∧ some k ≠ (Value.slice iA input.length iC).ownBlock) (.slice cA cn cC) T) := ⟨by
    rw [hw4]
    refine Kd.dB (Kd.lJ (p := ⟨gb, 0, none⟩) (Kd.qJ (Kd.eT (Kd.iY A2.out) HBW) HGR.out (fun k _ => by simp [Value.ownBlock])) (fun k hk => ?_) _) (fun k hk => hk.1)
    have := hk.2.2.1; have := HGB.out; show k ≠ gb; omega⟩
   have HOLD : ∀ k, k < gb → w4.heap[k]? = wr.heap[k]? := fun k hk => by
    have h1 : k < wr.heap.size := by have := HGB.out; omega
    rw [hw4, Below.heap_setCell _ _ _ _ (show k ≠ gb by omega), HGR.out.block k (by show k < (wr.heap.push _).size; rw [Array.size_push]; omega) (by simp [Value.ownBlock])]
    exact Below.heap_alloc _ _ _ h1
   have IN4 : aa (w4.ownsRow w.heap.size 2 1 (.slice iA input.length iC) input.length (ints input)) := ⟨bZ A4.out (fun k e => HOLD k (by have := (HIV.out k e).2; omega))⟩
   have NW4 : aa (Kd.R k43 43 w4 w.heap.size (fun k => gb ≤ k) (.slice nA y.f0.length nC) y.f0) := ⟨by
    rw [hw4]
    exact Kd.vv HN.out HB3.out (by simp [k43, Kd.iso, Kd.pair, Kd.int, Kd.scalar]) 0 _⟩
   have z0 : w4.drew.cell? ⟨gm, 0, none⟩ = some (.slice cA cn cC) := ae G4 0
   have z1 : w4.drew.cell? ⟨gb, 0, none⟩ = some (.slice nA y.f0.length nC) := ae B4 0
   have z2 : w4.drew.cell? ⟨gb, 1, none⟩ = some (.int .i64 y.f1) := ae B4 1
   have z3 : w4.drew.cell? ⟨gb, 2, none⟩ = some (.int .i64 y.f2) := ae B4 2
   have z4 : w4.drew.cell? ⟨gb, 3, none⟩ = some (.bool y.f3) := ae B4 3
   have u0 : w4.cell? ⟨gm, 0, none⟩ = some (.slice cA cn cC) := z0
   have u1 : w4.cell? ⟨gb, 0, none⟩ = some (.slice nA y.f0.length nC) := z1
   have u2 : w4.cell? ⟨gb, 1, none⟩ = some (.int .i64 y.f1) := z2
   have u3 : w4.cell? ⟨gb, 2, none⟩ = some (.int .i64 y.f2) := z3
   have u4 : w4.cell? ⟨gb, 3, none⟩ = some (.bool y.f3) := z4
   have u5 : (w4.alloc (.cells #[.slice nA y.f0.length nC, .int .i64 y.f1, .int .i64 y.f2, .bool y.f3] 46)).cell? ⟨gm, 0, none⟩ = some (.slice cA cn cC) := Lib.cell?_alloc_some _ u0
   have HG4 := aa.mk G4; have HB4 := aa.mk B4; have HX := aa.mk hx; have HW4 := aa.mk hw4
   have HOK : aa (∀ k, gb ≤ k → (k ≠ gm ∧ some k ≠ (Value.slice iA input.length iC).ownBlock) ∧ some k ≠ (Value.slice cA cn cC).ownBlock) := ⟨fun k hk => ⟨⟨hne0 k hk, fun e => by have := (HIV.out k e.symm).2; omega⟩, fun e => by have := Kd.il A2.out k e.symm; have := HGB.out; omega⟩⟩
   have HSZ : aa (gb ≤ w4.heap.size) := ⟨Nat.le_of_lt (bF B4)⟩
   have HTL : aa ((T.length + 1) * 48 ≤ 140737488355328) := ⟨by have h1 : T.length ≤ l.length := by { rw [HT.out, List.length_take]; omega }; omega⟩
   clear B4 G4 HBW hne0 hw4 hx
   go_region_law (refine Kd.R_append_step k46 (w0 := w) w.heap.size (by rfl) (.tmp 47) (.tmp 49) 22 46 (.agg #[.slice none 0 0, .int .i64 0, .int .i64 0, .bool false]) 48 rfl Tryd.underlying22 ut rfl (by decide) (by decide) (.slice cA cn cC) T y [.slice nA y.f0.length nC, .int .i64 y.f1, .int .i64 y.f2, .bool y.f3] (fun k => k ≠ gm ∧ some k ≠ (Value.slice iA input.length iC).ownBlock) (fun k => gb ≤ k) rfl rfl (tH _ _ _ _ (Kd.bX NW4.out)) HOK.out (fun k hk => (HOK.out k (Ze HSZ.out hk)).1) (Kd.bX CV4.out) (dm HGB4.out) (aK (dm HGB4.out)) (HTL.out) ?_; intro v1 w5 ho hb hg hat; have HB5 := aa.mk hb; have G5 := cZ (bD HG4.out) hg (Kd.kV CV4.out HG4.out (by decide)); obtain ⟨vA, vn, vC, rfl⟩ : ∃ A n c, v1 = .slice A n c := (by obtain ⟨A, c, e⟩ := Kd.dh ho; exact ⟨_, _, _, e⟩); have t0 := ae G5 0; have t0f := ai G5 0; have HG5 := aa.mk G5; have HGR5 := aa.mk hg; have HO5 := aa.mk ho; clear ho hb hg hat G5)
   all_goals
    go_wp2
    go_roundg gk
    case measure => omega
    case rel =>
     have hx := HX.out
     have ht : l.take (x + 1) = T ++ [y] := by
      rw [HT.out, HY.out, List.take_succ_eq_append_getElem hx]
      simp [au, List.getD, hx]
     have hcg : ∀ k, (Value.slice cA cn cC).ownBlock = some k → k ≠ gm ∧ some k ≠ (Value.slice iA input.length iC).ownBlock := A2.out.1
     refine ⟨x + 1, .slice vA vn vC, by go_num, ⟨by have := A1.out; omega⟩, ⟨?_⟩, ⟨dH HG5.out 0 _⟩, ⟨?_⟩, ⟨gV HB5.out (by have := HGM.out; have := HB2.out.size; omega)⟩⟩
     ·rw [ht]; exact Kd.lJ (p := ⟨gm, 0, none⟩) HO5.out (fun k hk => hk.1) _
     ·refine bZ (bZ IN4.out (w1 := w5) (fun k e => HGR5.out.block k (IN4.out.lt k e).2 (fun e2 => (hcg k e2.symm).2 e.symm))) (fun k e => Below.heap_setCell _ _ _ _ (by have := (HIV.out k e).2; show k ≠ gm; omega))
  ·obtain rfl : T = l := by rw [HT.out]; exact List.take_of_length_le (by omega)
   have HRD : aa (MOn (fun k => k ≠ gm ∧ w.heap.size ≤ k ∧ k < wr.heap.size) wr ⟨gm, .slice cA cn cC, .slice none 0 0, .slice iA input.length iC, .slice none 0 0, []⟩ (mc0 T input fuel)) := ⟨by
    refine ⟨A3.out, ⟨rfl, .inl ⟨rfl, rfl⟩⟩, ⟨rfl, .inl ⟨rfl, rfl⟩⟩, .nil, by simp [MHo.own, Value.ownBlock], fun k hk h => ?_, fun k h => h.2.2, ?_, ?_⟩
    ·have : k = gm := by simpa [MHo.own, Value.ownBlock] using hk
     exact h.1 this
    ·exact Kd.R_V (Kd.dB (Kd.iY A2.out) (fun k hk => ⟨hk.1.1, hk.2.1, hk.2.2.1⟩))
    ·exact Kd.R_V (base := w.heap.size) (Kd.lX A4.out (fun k e => ⟨by have := (HIV.out k e).2; omega, (HIV.out k e).1, (A4.out.lt k e).2⟩))⟩
   have HBG : aa (Calls Tryd.prog 33 #[.pointer (some ⟨gm, 0, none⟩), .int .i64 main, .slice none 0 0] wr _) := ⟨qV HRD.out main m0 m1 (au T main).f1.toNat (by have := HCE.out; show (au T main).f1 = _; omega) (by have := HCE.out; omega) (.slice none 0 0) [] ⟨rfl, .inl ⟨rfl, rfl⟩⟩ (Nat.zero_le _) (by show (0 : Nat) + 1 ≤ 1000; decide)⟩
   go_wp2_with ((with_reducible refine ah (f := 33) rfl ?_); refine gl 56 Tryd.func33 #[.pointer (some ⟨gm, 0, none⟩), .int .i64 main, .slice none 0 0] ?_; refine HBG.out.mono ?_; rintro e w3 ⟨rfl, o3, hsub3, HM3, hmod⟩; have HP := aa.mk (And.intro hsub3 (And.intro HM3 hmod)); clear hsub3 HM3 hmod; refine ⟨_, rfl, ?_⟩)
   go_ret2
   obtain ⟨hsub3, HM3, hmod⟩ := HP.out
   have hsz := A5.out.size
   have hgs : w.heap.size ≤ gm := by rw [HGM.out]; exact HB2.out.size
   have hown : ∀ k ∈ o3.own, w.heap.size ≤ k := fun k hk => by
    rcases hsub3.2 k hk with h | h
    ·have : k = gm := by simpa [MHo.own, Value.ownBlock] using h
     omega
    ·omega
   refine ⟨_, o3, ?_, HM3, fun k hk => ?_, A5.out.trans (hmod.below (a := w) hsz (fun k hk => ?_))⟩
   ·simp [MHo.ptr, hsub3.1]
   ·rcases hk with hk | hk
    ·exact hk.2.1
    ·exact hown k hk
   ·have : k = gm := by simpa [MHo.own, Value.ownBlock] using hk
    omega
end
section
variable (w : World)
end
section
variable {Rd : Nat → Prop} {w : World} {o : MHo} {m : Mc}
theorem nQ (H : MOn Rd w o m) : Calls Tryd.prog 30 #[o.ptr] w fun e w' => e = .returned (.bool m.ended) ∧ Below w.heap.size w w' := by
 have hu24 := Tryd.underlying24
 have c0 : w.cell? ⟨o.g, 11, none⟩ = some (.bool m.ended) := ae H.blk 11
 clear H
 show Calls Tryd.prog 30 #[.pointer (some ⟨o.g, 0, none⟩)] w _
 go_enter Tryd.func30, Tryd.ntmps30
 go_wp2
 go_ret
 exact ⟨rfl, Below.refl _ _⟩
theorem rM (H : MOn Rd w o m) : Calls Tryd.prog 18 #[o.ptr] w fun e w' => e = .returned (.int .i64 m.ticks) ∧ Below w.heap.size w w' := by
 have hu24 := Tryd.underlying24
 have c0 : w.cell? ⟨o.g, 5, none⟩ = some (.int .i64 m.ticks) := ae H.blk 5
 clear H
 show Calls Tryd.prog 18 #[.pointer (some ⟨o.g, 0, none⟩)] w _
 go_enter Tryd.func18, Tryd.ntmps18
 go_wp2
 go_ret
 exact ⟨rfl, Below.refl _ _⟩
theorem iP {w : World} {base e size n : Nat} {v : Value} {xs : List Value} (h : w.ownsRow base e size v n xs) : ∃ A c, v = .slice A n c ∧ n ≤ c ∧ c ≤ 9223372036854775807 ∧ (A = none → n = 0 ∧ c = 0) ∧ ∀ ad, A = some ad → ∀ j u, xs[j]? = some u → w.cell? (ad.add j) = some u := by
 rcases h.2 with ⟨rfl, h0⟩ | ⟨sg, cap, cur, rfl, _, hh, hn, hcap, hsz, htk⟩
 ·exact ⟨none, 0, by rw [h0], by omega, by omega, fun _ => ⟨h0, rfl⟩, fun ad e => by cases e⟩
 ·refine ⟨_, cap, rfl, hn, by simp only [maxLen] at hcap; omega, (fun e => by cases e), fun ad e j u hj => ?_⟩
  cases e
  exact h.cells (g := sg) rfl j u hj
theorem rD (H : MOn Rd w o m) : Calls Tryd.prog 22 #[o.ptr] w fun e w' => e = .returned (.int .i64 (m.events.length : Nat)) ∧ Below w.heap.size w w' := by
 have hu24 := Tryd.underlying24
 obtain ⟨A, c, he, _⟩ := iP H.ev
 have c0 : w.cell? ⟨o.g, 10, none⟩ = some (.slice A m.events.length c) := by rw [ae H.blk 10, ← he]; rfl
 clear H
 show Calls Tryd.prog 22 #[.pointer (some ⟨o.g, 0, none⟩)] w _
 go_enter Tryd.func22, Tryd.ntmps22
 go_wp2
 go_ret
 exact ⟨rfl, Below.refl _ _⟩
theorem qh (H : MOn Rd w o m) : Calls Tryd.prog 20 #[o.ptr] w fun e w' => e = .returned (.int .i64 (m.frames.length : Nat)) ∧ Below w.heap.size w w' := by
 have hu24 := Tryd.underlying24
 obtain ⟨A, c, he, _⟩ := iP H.fr
 have c0 : w.cell? ⟨o.g, 1, none⟩ = some (.slice A m.frames.length c) := by rw [ae H.blk 1, ← he]; rfl
 clear H
 show Calls Tryd.prog 20 #[.pointer (some ⟨o.g, 0, none⟩)] w _
 go_enter Tryd.func20, Tryd.ntmps20
 go_wp2
 go_ret
 exact ⟨rfl, Below.refl _ _⟩
theorem evs_length (l : List (Int × Int)) : (evs l).length = l.length * 2 := by
 induction l with
 | nil => rfl
 | cons a t ih => simp only [evs, List.flatMap_cons, List.length_append, List.length_cons, List.length_nil] at ih ⊢; omega
theorem evs_one (l : List (Int × Int)) : ∀ u ∈ evs l, u.oneCell' = true := by
 intro u hu
 simp only [evs, List.mem_flatMap] at hu
 obtain ⟨p, _, hu⟩ := hu
 simp at hu
 rcases hu with rfl | rfl <;> rfl
theorem mh (H : MOn Rd w o m) (hl : m.events.length ≤ 4398046511104) : Calls Tryd.prog 16 #[o.ptr] w fun e w' => ∃ v1, e = .returned v1 ∧ w'.ownsRow 0 38 2 v1 m.events.length (evs m.events) ∧ (∀ k, v1.ownBlock = some k → w.heap.size ≤ k) ∧ Below w.heap.size w w' := by
 have hu24 := Tryd.underlying24
 obtain ⟨A, c, he, _, _, hnone, hcell⟩ := iP H.ev
 obtain ⟨n, hn⟩ : ∃ n, n = m.events.length := ⟨_, rfl⟩
 rw [← hn] at he hnone hl
 have c0 : w.cell? ⟨o.g, 10, none⟩ = some (.slice A n c) := by rw [ae H.blk 10, ← he]; rfl
 have HNO := aa.mk hnone; have HCE := aa.mk hcell; have HN := aa.mk hn; have HE := aa.mk (show (evs m.events).length = n * 2 by rw [evs_length, hn]); have HL := aa.mk hl
 clear H hnone hcell hn he hl
 show Calls Tryd.prog 16 #[.pointer (some ⟨o.g, 0, none⟩)] w _
 go_enter Tryd.func16, Tryd.ntmps16
 go_wp2_with (at_builtin; refine gX rfl (.const (.slice none 0 0)) (.tmp 8) 35 rfl 38 (.agg #[.int .i64 0, .int .i64 0]) 2 16 Tryd.underlying35 mO rfl (by decide) rfl A n c rfl (evs m.events) HE.out HNO.out HCE.out (evs_one _) (by have := HL.out; omega) (by have := HL.out; omega) ?fresh)
 case fresh =>
  intro v1 w1 hown hg hv1
  have HO := aa.mk hown; have HG := aa.mk hg; have HV := aa.mk hv1; clear hown hg hv1
  go_wp2
  go_ret
  exact ⟨v1, rfl, by rw [← HN.out]; exact HO.out, HV.out, HG.out.os, HG.out.tape, HG.out.output, HG.out.size, fun k hk => HG.out.block k hk (by simp)⟩
theorem pR (H : MOn Rd w o m) (k : Int) (hk : k < 0 ∨ (m.frames.length : Int) ≤ k) : Calls Tryd.prog 27 #[o.ptr, .int .i64 k] w fun e w' => e = .returned (.tuple #[.int .i64 0, .int .i64 0, .slice none 0 0, .bool false]) ∧ Below w.heap.size w w' := by
 have hu24 := Tryd.underlying24
 obtain ⟨A, c, he, _⟩ := iP H.fr
 obtain ⟨n, hn⟩ : ∃ n, n = m.frames.length := ⟨_, rfl⟩
 rw [← hn] at he hk
 have c0 : w.cell? ⟨o.g, 1, none⟩ = some (.slice A n c) := by rw [ae H.blk 1, ← he]; rfl
 clear H hn he
 show Calls Tryd.prog 27 #[.pointer (some ⟨o.g, 0, none⟩), .int .i64 k] w _
 by_cases h1 : k < 0
 ·have d1 : decide (k < 0) = true := Za h1
  clear hk h1
  go_enter Tryd.func27, Tryd.ntmps27
  go_wp2
  exact bodyPost_ret (v := .tuple #[.int .i64 0, .int .i64 0, .slice none 0 0, .bool false]) (by simp [results, Tryd.results27, go_sem]) rfl ⟨rfl, Below.refl _ _⟩
 ·have d1 : decide (k < 0) = false := Zb h1
  have d2 : decide ((n : Int) ≤ k) = true := Za (by omega)
  clear hk h1
  go_enter Tryd.func27, Tryd.ntmps27
  go_wp2
  exact bodyPost_ret (v := .tuple #[.int .i64 0, .int .i64 0, .slice none 0 0, .bool false]) (by simp [results, Tryd.results27, go_sem]) rfl ⟨rfl, Below.refl _ _⟩
theorem tick_on (H : MOn Rd w o m) : Calls Tryd.prog 29 #[o.ptr] w fun e w' => e = .returned (.tuple #[.agg #[.int .i64 m.tick.1, .int .i64 m.tick.2.1, .int .i64 m.tick.2.2.1, .int .i64 m.tick.2.2.2], .bool (decide (0 < m.ticks))]) ∧ Below w.heap.size w w' := by
 have hu24 := Tryd.underlying24
 have c5 : w.cell? ⟨o.g, 5, none⟩ = some (.int .i64 m.ticks) := ae H.blk 5
 have c6 : w.cell? ⟨o.g, 6, none⟩ = some (.int .i64 m.tick.1) := ae H.blk 6
 have c7 : w.cell? ⟨o.g, 7, none⟩ = some (.int .i64 m.tick.2.1) := ae H.blk 7
 have c8 : w.cell? ⟨o.g, 8, none⟩ = some (.int .i64 m.tick.2.2.1) := ae H.blk 8
 have c9 : w.cell? ⟨o.g, 9, none⟩ = some (.int .i64 m.tick.2.2.2) := ae H.blk 9
 have hgl := bF H.blk
 have nb : w.heap.size ≠ o.g := Nat.ne_of_gt hgl
 clear H
 show Calls Tryd.prog 29 #[.pointer (some ⟨o.g, 0, none⟩)] w _
 go_enter Tryd.func29, Tryd.ntmps29
 go_wp2
 have z : ∀ (j : Nat) (v : Value), w.cell? ⟨o.g, j, none⟩ = some v → (w.alloc (.cells #[.int .i64 0, .int .i64 0, .int .i64 0, .int .i64 0] 52)).drew.cell? ⟨o.g, j, none⟩ = some v := fun j v h => Lib.cell?_alloc_some (W := w) _ h
 have z5 := z 5 _ c5; have z6 := z 6 _ c6; have z7 := z 7 _ c7; have z8 := z 8 _ c8; have z9 := z 9 _ c9
 clear z
 go_region_held3 (fun W => W.cell? ⟨o.g, 5, none⟩ = some (.int .i64 m.ticks) ∧ W.cell? ⟨o.g, 6, none⟩ = some (.int .i64 m.tick.1) ∧ W.cell? ⟨o.g, 7, none⟩ = some (.int .i64 m.tick.2.1) ∧ W.cell? ⟨o.g, 8, none⟩ = some (.int .i64 m.tick.2.2.1) ∧ W.cell? ⟨o.g, 9, none⟩ = some (.int .i64 m.tick.2.2.2)) (first | exact ⟨by assumption, by assumption, by assumption, by assumption, by assumption⟩ | go_keep) (skip)
 go_wp2
 exact bodyPost_ret (v := .tuple #[.agg #[.int .i64 m.tick.1, .int .i64 m.tick.2.1, .int .i64 m.tick.2.2.1, .int .i64 m.tick.2.2.2], .bool (decide (0 < m.ticks))]) (by simp [results, Tryd.results29, go_sem]) rfl ⟨rfl, by first | exact dm (bN (Below.refl _ _) _) | exact bN (Below.refl _ _) _⟩
end
structure Fit (m : Mc) : Prop where
 good : GoodS m
 evs : m.ended = false → (m.events.length : Int) ≤ m.ticks * 1048577
theorem qa : ∀ (k : Nat) {m : Mc}, Inv k m → m.ended = false → Fit (m.steps k).1 ∧ (m.steps k).1.codes = m.codes ∧ (m.steps k).1.input = m.input
 | 0, m, I, he => by
  have hev := I.evs he
  have G := I.good
  refine ⟨⟨⟨G.sound, (fun h => by cases h), (fun h => by cases h), (fun h => by cases h), G.fuel, G.read, G.inp, ?_⟩, (fun h => by cases h)⟩, rfl, rfl⟩
  show ((m.events ++ [(5, 0)]).length : Int) ≤ m.ticks * 1048577 + 1048577
  simp
  omega
 | k + 1, m, I, he => by
  obtain ⟨G, h1, h2, h3, h4⟩ := rH I he
  show Fit (if m.one.2 = true then (m.one.1, true) else if m.one.1.ended = true then (m.one.1, false) else Mc.steps k m.one.1).1 ∧ (if m.one.2 = true then (m.one.1, true) else if m.one.1.ended = true then (m.one.1, false) else Mc.steps k m.one.1).1.codes = m.codes ∧ (if m.one.2 = true then (m.one.1, true) else if m.one.1.ended = true then (m.one.1, false) else Mc.steps k m.one.1).1.input = m.input
  by_cases ht : m.one.2 = true
  ·rw [if_pos ht]
   exact ⟨⟨G, h2 ht⟩, h3, h4⟩
  ·rw [if_neg ht]
   by_cases hd : m.one.1.ended = true
   ·rw [if_pos hd]
    exact ⟨⟨G, fun h => by rw [hd] at h; cases h⟩, h3, h4⟩
   ·rw [if_neg hd]
    obtain ⟨a, b, c⟩ := qa k (h1 (Zk ht)) (Zk hd)
    exact ⟨a, b.trans h3, c.trans h4⟩
theorem Fit.inv {m : Mc} (F : Fit m) : Inv 1048576 m := ⟨F.good, fun he => by have := F.evs he; omega⟩
theorem gP {m : Mc} (F : Fit m) : Fit m.step.1 ∧ m.step.1.codes = m.codes ∧ m.step.1.input = m.input := by
 unfold Mc.step
 by_cases he : m.ended = true
 ·rw [if_pos he]; exact ⟨F, rfl, rfl⟩
 ·rw [if_neg he]; exact qa _ F.inv (Zk he)
theorem Fit.evb {m : Mc} (F : Fit m) : m.events.length + 2 ≤ 4398046511104 := by
 have h1 := F.good.evw
 have h2 := F.good.fuel
 have h3 : m.ticks * 1048577 ≤ 1048576 * 1048577 := Int.mul_le_mul_of_nonneg_right (by omega) (by omega)
 omega
section
variable {Rd : Nat → Prop} {w : World} {o : MHo} {m : Mc}
theorem step_ended (H : MOn Rd w o m) (he : m.ended = true) : Calls Tryd.prog 21 #[o.ptr] w (gN Rd w o m (.bool false)) := by
 have hu24 := Tryd.underlying24
 have a8 : w.cell? ⟨o.g, 11, none⟩ = some (.bool true) := by rw [ae H.blk 11, ← he]; rfl
 have HH := aa.mk H
 clear H he
 show Calls Tryd.prog 21 #[.pointer (some ⟨o.g, 0, none⟩)] w _
 go_enter Tryd.func21, Tryd.ntmps21
 go_wp2_with (fail)
 refine dP (fun _ _ _ h_ => h_) ?_
 go_wp2_with ((with_reducible refine wp_label ?_))
 go_ret
 exact ⟨rfl, o, Sub.refl _ _, HH.out, Mod.refl _ _⟩
theorem nL (H : MOn Rd w o m) (F : Fit m) : Calls Tryd.prog 21 #[o.ptr] w (gN Rd w o m.step.1 (.bool m.step.2)) := by
 obtain ⟨N, hN⟩ : ∃ N, N = 1048576 := ⟨_, rfl⟩
 have hi := F.inv
 have e : m.step = if m.ended = true then (m, false) else m.steps N := by rw [hN]; rfl
 rw [← hN] at hi
 rw [e]
 by_cases he : m.ended = true
 ·rw [if_pos he]; exact step_ended H he
 ·rw [if_neg he]; exact step_any road H N hN hi (Zk he)
def Mc.endP : Nat → Mc → Mc × Bool
 | 0, m => (m, false)
 | k + 1, m => if m.step.2 = true then Mc.endP k m.step.1 else (m.step.1, m.step.1.ended)
theorem end_law (H : MOn Rd w o m) (F : Fit m) (most : Nat) (hm : most ≤ 1000000) : Calls Tryd.prog 15 #[o.ptr, .int .i64 most] w (gN Rd w o (m.endP (most + 1)).1 (.bool (m.endP (most + 1)).2)) := by
 have HH := aa.mk H; have HF := aa.mk F
 clear H F
 show Calls Tryd.prog 15 #[.pointer (some ⟨o.g, 0, none⟩), .int .i64 most] w _
 go_enter Tryd.func15, Tryd.ntmps15
 go_wp2
 go_loopg [5] (most + 1) (fun gk v5 W => ∃ (x : Nat) (o1 : MHo) (m1 : Mc), v5 = .int .i64 (x : Int) ∧ aa (gk + x = most + 1) ∧ aa (MOn Rd W o1 m1) ∧ aa (Sub w o o1) ∧ aa (Mod (fun k => k ∈ o.own) w W) ∧ aa (Fit m1) ∧ aa (m.endP (most + 1) = m1.endP gk))
 case atStart => exact ⟨0, o, m, rfl, ⟨rfl⟩, HH, ⟨Sub.refl _ _⟩, ⟨Mod.refl _ _⟩, HF, ⟨rfl⟩⟩
 case round =>
  obtain ⟨x, o1, m1, rfl, A1, A2, A3, A4, A5, A6⟩ := hrel
  rcases Nat.eq_zero_or_pos gk with h0 | h0
  ·have hx : decide (x ≤ most) = false := Zb (by have := A1.out; omega)
   have H0 := aa.mk h0; clear h0
   go_wp2
   go_ret
   have hz := H0.out; subst hz
   rw [A6.out]
   exact ⟨rfl, o1, A3.out, A2.out, A4.out⟩
  ·obtain ⟨gk, rfl⟩ : ∃ j, gk = j + 1 := ⟨gk - 1, by omega⟩
   have hx : x ≤ most := by have := A1.out; omega
   have hxi : (x : Int) ≤ 1000000 := by omega
   have HS : aa (Calls Tryd.prog 21 #[.pointer (some ⟨o.g, 0, none⟩)] wr (gN Rd wr o1 m1.step.1 (.bool m1.step.2))) := ⟨by
    have h := nL A2.out A5.out
    rw [MHo.ptr, A3.out.1] at h
    exact h⟩
   have HST := aa.mk (gP A5.out).1
   have HM : aa (∀ w5, gN Rd wr o1 m1.step.1 (.bool m1.step.2) (.returned (.bool m1.step.2)) w5 → After Rd w o m1.step.1 w5) := ⟨fun w5 h => (After.of A3.out A4.out h).2⟩
   by_cases ht : m1.step.2 = true
   ·rw [ht] at HS HM
    have HT := aa.mk ht; clear ht
    go_wp2_with ((with_reducible refine ah (f := 21) rfl ?_); refine gl 12 Tryd.func21 #[.pointer (some ⟨o.g, 0, none⟩)] ?_; refine HS.out.mono ?_; rintro e w5 hp; obtain rfl := hp.1; have AF := aa.mk (HM.out w5 hp); clear hp; refine ⟨_, rfl, ?_⟩)
    go_roundg gk
    case measure => omega
    case rel =>
     obtain ⟨o2, hs, hM, hm⟩ := AF.out
     exact ⟨x + 1, o2, m1.step.1, by go_num, ⟨by have := A1.out; omega⟩, ⟨hM⟩, ⟨hs⟩, ⟨hm⟩, HST, ⟨by rw [A6.out]; show (if m1.step.2 = true then Mc.endP gk m1.step.1 else (m1.step.1, m1.step.1.ended)) = _; rw [if_pos HT.out]⟩⟩
   ·have ht : m1.step.2 = false := Zk ht
    rw [ht] at HS HM
    have HT := aa.mk ht; clear ht
    have HEN : aa (∀ w5, After Rd w o m1.step.1 w5 → Calls Tryd.prog 30 #[.pointer (some ⟨o.g, 0, none⟩)] w5 (fun e w6 => e = .returned (.bool m1.step.1.ended) ∧ After Rd w o m1.step.1 w6)) := ⟨by
     rintro w5 ⟨o2, hs, hM, hm⟩
     have h := nQ hM
     rw [show o2.ptr = .pointer (some ⟨o.g, 0, none⟩) by rw [MHo.ptr, hs.1]] at h
     refine h.mono ?_
     rintro e w6 ⟨rfl, hb⟩
     exact ⟨rfl, o2, hs, hM.below hb, hm.trans (Mod.of_below hb (fun _ => False)) (fun _ _ h => h.elim)⟩⟩
    go_wp2_with (first
     | ((with_reducible refine ah (f := 21) rfl ?_); refine gl 12 Tryd.func21 #[.pointer (some ⟨o.g, 0, none⟩)] ?_; refine HS.out.mono ?_; rintro e w5 hp; obtain rfl := hp.1; have AF := aa.mk (HM.out w5 hp); clear hp; refine ⟨_, rfl, ?_⟩)
     | ((with_reducible refine ah (f := 30) rfl ?_); refine gl 15 Tryd.func30 #[.pointer (some ⟨o.g, 0, none⟩)] ?_; refine (HEN.out _ AF.out).mono ?_; rintro e w6 ⟨rfl, AF2⟩; have AF2 := aa.mk AF2; refine ⟨_, rfl, ?_⟩))
    go_ret
    rw [A6.out]
    show gN Rd w o (if m1.step.2 = true then Mc.endP gk m1.step.1 else (m1.step.1, m1.step.1.ended)).1 (.bool (if m1.step.2 = true then Mc.endP gk m1.step.1 else (m1.step.1, m1.step.1.ended)).2) _ _
    rw [if_neg (by rw [HT.out]; decide)]
    exact AF2.out.post
end
theorem uW : (Tryd.prog.info? 80).map (fun i => (i.zero, i.size, i.bytes)) = some (some (.agg #[.int .i64 0, .int .i64 0, .int .i64 0, .slice none 0 0, .slice none 0 0]), 5, 72) := by kernel_rfl
section
variable (w : World) (A0 A2 : Option Addr) (c0 c2 : Nat) (l : List S46) (input : List Int) (main fuel : Int)
theorem kE (hl : Kd.C k46 w A0 l.length l) (hc : l.length ≤ c0) (k : Nat) (h : aD.f k l main = some false) (v : Value) :
  Calls Tryd.prog 26 #[.slice A0 l.length c0, .int .i64 main, v, .int .i64 fuel] w fun e w' => e = .returned (.tuple #[.pointer none, .int .i64 60]) ∧ Below w.heap.size w w' := by
 have HL := aa.mk hl; have H := aa.mk h; have HC := aa.mk hc
 clear hl h hc
 go_enter Tryd.func26, Tryd.ntmps26
 go_wp2_with ((with_reducible refine ah (f := 46) rfl ?_); refine gl 13 Tryd.func46 #[.slice A0 l.length c0, .int .i64 main] ?_; refine (aD.calls k A0 c0 l main false w HL.out HC.out H.out).mono ?_; rintro e w1 ⟨rfl, hb⟩; have HB := aa.mk hb; clear hb; refine ⟨_, rfl, ?_⟩)
 go_ret2
 exact ⟨rfl, HB.out⟩
theorem mU (hl : Kd.C k46 w A0 l.length l) (hc : l.length ≤ c0) (k : Nat) (h : aD.f k l main = some true) (n2 : Nat) (hbad : fuel < 0 ∨ 1048576 < fuel ∨ 1000 < n2) :
  Calls Tryd.prog 26 #[.slice A0 l.length c0, .int .i64 main, .slice A2 n2 c2, .int .i64 fuel] w fun e w' => e = .returned (.tuple #[.pointer none, .int .i64 1]) ∧ Below w.heap.size w w' := by
 have HL := aa.mk hl; have H := aa.mk h; have HC := aa.mk hc
 clear hl h hc
 by_cases d1 : fuel < 0
 ·have e1 : decide (fuel < 0) = true := Za d1
  clear hbad d1
  go_enter Tryd.func26, Tryd.ntmps26
  go_wp2_with ((with_reducible refine ah (f := 46) rfl ?_); refine gl 13 Tryd.func46 #[.slice A0 l.length c0, .int .i64 main] ?_; refine (aD.calls k A0 c0 l main true w HL.out HC.out H.out).mono ?_; rintro e w1 ⟨rfl, hb⟩; have HB := aa.mk hb; clear hb; refine ⟨_, rfl, ?_⟩)
  go_ret2
  exact ⟨rfl, HB.out⟩
 have e1 : decide (fuel < 0) = false := Zb d1
 by_cases d2 : 1048576 < fuel
 ·have e2 : decide (1048576 < fuel) = true := Za d2
  clear hbad d1 d2
  go_enter Tryd.func26, Tryd.ntmps26
  go_wp2_with ((with_reducible refine ah (f := 46) rfl ?_); refine gl 13 Tryd.func46 #[.slice A0 l.length c0, .int .i64 main] ?_; refine (aD.calls k A0 c0 l main true w HL.out HC.out H.out).mono ?_; rintro e w1 ⟨rfl, hb⟩; have HB := aa.mk hb; clear hb; refine ⟨_, rfl, ?_⟩)
  go_ret2
  exact ⟨rfl, HB.out⟩
 have e2 : decide (1048576 < fuel) = false := Zb d2
 have e3 : decide (1000 < (n2 : Int)) = true := Za (by omega)
 clear hbad d1 d2
 go_enter Tryd.func26, Tryd.ntmps26
 go_wp2_with ((with_reducible refine ah (f := 46) rfl ?_); refine gl 13 Tryd.func46 #[.slice A0 l.length c0, .int .i64 main] ?_; refine (aD.calls k A0 c0 l main true w HL.out HC.out H.out).mono ?_; rintro e w1 ⟨rfl, hb⟩; have HB := aa.mk hb; clear hb; refine ⟨_, rfl, ?_⟩)
 go_ret2
 exact ⟨rfl, HB.out⟩
end
section
variable {Rd : Nat → Prop} {w : World} {o : RMo} {m : Mc}
theorem ROn.begun (H : ROn Rd w o m) {W w1 : World} {v1 : Value} (hW : Mod (fun _ => False) w W) {h : RHo} {f : Fr} (HFr : RFr W h f) (hnd : h.blocks.Nodup) (hnew : ∀ k ∈ h.blocks, w.heap.size ≤ k) (hgr : W.grownBy w1 o.fv.ownBlock)
  (hown : w1.ownsRow 0 80 5 v1 (m.frames.length + 1) (gM o.hs m.frames ++ eX h f)) (hat : v1.ownBlock = o.fv.ownBlock ∨ ∃ b, v1.ownBlock = some b ∧ W.heap.size ≤ b) (hfr : ∀ k, v1.ownBlock = some k → k ∉ h.blocks) :
  iw Rd w o { m with frames := m.frames ++ [f] } (w1.setCell ⟨o.g, 1, none⟩ v1) := by
 have HMW : ROn Rd W o m := H.mod hW (fun _ _ h => h)
 have ga := gH H
 have hv := jM hat
 have hgl := bF H.blk
 have hsz := hW.size
 have hv1 : v1.ownBlock ≠ some o.g := fun e => by
  rcases hv o.g e with h | h
  ·exact ga.1 h
  ·omega
 have hM1 : Mod (fun k => o.fv.ownBlock = some k) W w1 := (Mod.refl _ W).grown hgr (fun k e _ => e)
 have hM2 : Mod (fun k => k = o.g ∨ o.fv.ownBlock = some k) W (w1.setCell ⟨o.g, 1, none⟩ v1) := (hM1.mono (fun k _ h => .inr h)).setCell (p := ⟨o.g, 1, none⟩) (fun _ => .inl rfl) _
 have hM3 : Mod (fun k => k = o.g ∨ o.fv.ownBlock = some k) w (w1.setCell ⟨o.g, 1, none⟩ v1) := (hW.mono (fun _ _ h => h.elim)).trans hM2 (fun _ _ h => h)
 have hown2 : RMo.own { o with fv := v1, hs := o.hs ++ [h] } = ([o.g] ++ (v1.ownBlock.toList ++ (o.ev.ownBlock.toList ++ o.hs.flatMap RHo.blocks))) ++ h.blocks := by simp [RMo.own]
 have hS : ∀ k, k = o.g ∨ o.fv.ownBlock = some k → k ∈ o.own := fun k h => by
  rcases h with rfl | h
  ·simp [RMo.own]
  ·exact fZ h
 have hn : ∀ k ∈ RMo.own { o with fv := v1, hs := o.hs ++ [h] }, k ∈ o.own ∨ w.heap.size ≤ k := by
  intro k hk
  rw [hown2, Zn] at hk
  rcases hk with hk | hk
  ·simp only [RMo.own, Zn, List.mem_singleton, Option.mem_toList] at hk ⊢
   rcases hk with hk | hk | hk
   ·exact .inl (.inl hk)
   ·rcases hv k hk with q | q
    ·exact .inl (.inr (.inl q))
    ·exact .inr (Ze hsz q)
   ·exact .inl (.inr (.inr hk))
  ·exact .inr (hnew k hk)
 have hlen := H.frs.fB
 refine ⟨{ o with fv := v1, hs := o.hs ++ [h] }, ⟨rfl, hn⟩, H.jy hM3 (fun k _ => hS k) ?_ ?_ ?_ ?_ ?_ hn rfl rfl rfl rfl, hM3.mono (fun k _ => hS k)⟩
 ·exact dH (cZ HMW.blk hgr (Ne.symm ga.1)) 1 v1
 ·show World.ownsRow _ 0 80 5 v1 (m.frames ++ [f]).length (gM (o.hs ++ [h]) (m.frames ++ [f]))
  rw [ll _ _ hlen, show (m.frames ++ [f]).length = m.frames.length + 1 by simp]
  exact dE hown (p := ⟨o.g, 1, none⟩) (fun e => hv1 e.symm) _
 ·refine bZ HMW.ev (fun k q => hM2.block k (HMW.ev.lt k q).2 ?_)
  rintro (rfl | q')
  ·exact ga.2.1 q
  ·exact (jO H k q').1 q
 ·refine pU (jk HMW.frs (fun k q => hM2.block k (kP HMW.frs k q) ?_)) (HFr.kept (fun k hk => hM2.block k (HFr.lt k hk) ?_))
  ·rintro (rfl | q')
   ·exact ga.2.2 q
   ·exact (jO H k q').2 q
  ·have := hnew k hk
   rintro (rfl | q')
   ·omega
   ·have := (H.fr.lt k q').2; omega
 ·rw [hown2]
  have nd := H.nd
  have hN := H.lt
  unfold RMo.own at nd hN
  rw [List.nodup_append]
  refine ⟨ji nd hN (fun k e => (hv k e).imp_right (Ze hsz)), hnd, fun a ha b hb e => ?_⟩
  subst e
  have h1 := hnew a hb
  simp only [Zn, List.mem_singleton, Option.mem_toList] at ha
  rcases ha with rfl | ha | ha
  ·omega
  ·exact hfr a ha hb
  ·have := hN a (by simp only [Zn, List.mem_singleton, Option.mem_toList]; exact .inr (.inr ha)); omega
theorem pG (H : ROn Rd w o m) (k : Int) (k0 : 0 ≤ k) (k1 : k < m.codes.length) (c : Nat) (hc : (au m.codes k).f1 = c) (hc1 : c ≤ 65536) (va : Value) (args : List Int) (hva : w.ownsRow 0 2 1 va args.length (ints args)) (hargs : args.length ≤ c) (hl : m.frames.length + 1 ≤ 1000) :
  Calls Tryd.prog 48 #[o.ptr, .int .i64 k, va] w (fun e w' => e = .returned (.tuple #[]) ∧ iw Rd w o (m.dZ k args) w') := by
 obtain ⟨A0, cc, hcv, hcl, HF⟩ := H.cs
 obtain ⟨ad, A1, c1, e, hx0, hx1, hx2, hx3, hl0, hi0⟩ := eZ (Kd.oL HF) k k0 k1
 subst e
 rw [hc] at hx1
 have b0 : w.cell? ⟨o.g, 0, none⟩ = some (.slice (some ad) m.codes.length cc) := by rw [ae H.blk, ← hcv]; rfl
 have p1 := eq_true k0; have q1 := eq_true k1
 obtain ⟨A, cA, hvv, hcA1, hcA2, hnone, hsome⟩ := iG hva
 obtain ⟨AL, hAL⟩ : ∃ AL, AL = args.length := ⟨_, rfl⟩
 rw [← hAL] at hvv hcA1 hnone
 subst hvv
 have HH := aa.mk H; have HC := aa.mk hc; have HVA := aa.mk hva; have HL := aa.mk hl; have HA := aa.mk hargs; have HAL := aa.mk hAL; have HNO := aa.mk hnone; have HSO := aa.mk hsome; have HCA := aa.mk hcA1; have HCA2 := aa.mk hcA2
 clear H hc hva hl hcv HF hi0 hx0 hx2 hx3 hl0 hcl hargs hAL hnone hsome hcA1 hcA2
 show Calls Tryd.prog 48 #[.pointer (some ⟨o.g, 0, none⟩), .int .i64 k, .slice A AL cA] w _
 go_enter Tryd.func48, Tryd.ntmps48
 obtain ⟨i2, hi2, hz2⟩ := Zo.1 jd
 simp only [Zm] at hz2
 go_wp2_with (first
  | (with_reducible refine wpList_make_row w rfl (.tmp 16) (.tmp 16) 23 rfl 2 i2 (.int .i64 0) Tryd.underlying23 hi2 hz2.1 hz2.2.1 rfl .i64 .i64 c rfl rfl (by rw [hz2.2.2]; omega) (by omega) ?_))
 obtain ⟨ga, hga⟩ : ∃ ga, ga = w.heap.size := ⟨_, rfl⟩
 obtain ⟨gb, hgb⟩ : ∃ gb, gb = w.heap.size + 1 := ⟨_, rfl⟩
 rw [← hgb, ← hga]
 have HGA := aa.mk hga; have HGB := aa.mk hgb; clear hga hgb
 go_loopg [7] AL (fun gk v7 W => ∃ x : Nat, v7 = .int .i64 (x : Int) ∧ aa (gk + x = AL) ∧ aa (W.heap[ga]? = some (.cells (ints (args.take x ++ List.replicate (c - x) 0)).toArray 2 (0, 0))) ∧
  aa (W.heap[gb]? = some (.cells #[.int .i64 k, .int .i64 0, .int .i64 (-1), .slice (some ⟨ga, 0, none⟩) c c, .slice none 0 0] 80 (0, 0))) ∧ aa (Mod (fun _ => False) w W))
 case atStart =>
  refine ⟨0, rfl, ⟨by omega⟩, ⟨?_⟩, ⟨?_⟩, ⟨((Mod.refl _ w).alloc _).alloc _⟩⟩
  ·rw [HGA.out, List.take_zero, List.nil_append, Nat.sub_zero, ← pF]; exact bv (bW w _) _
  ·rw [HGA.out, HGB.out]
   have := bW (w.alloc (.cells (madeCells #[.int .i64 0] c) 2)) (.cells #[.int .i64 k, .int .i64 0, .int .i64 (-1), .slice (some ⟨w.heap.size, 0, none⟩) c c, .slice none 0 0] 80)
   rwa [show (w.alloc (.cells (madeCells #[.int .i64 0] c) 2)).heap.size = w.heap.size + 1 by simp] at this
 case round =>
  obtain ⟨x, rfl, A1, A2, A3, A4⟩ := hrel
  by_cases hx : x < AL
  ·obtain ⟨gk1, hgk⟩ : ∃ g, gk = g + 1 := ⟨gk - 1, by have := A1.out; omega⟩
   subst hgk
   have g1 : decide ((x : Int) < (AL : Int)) = true := Za (by omega)
   have g2 : decide (x < AL) = true := Za hx
   rcases hA0 : A with _ | av
   ·exact absurd (HNO.out hA0).1 (by omega)
   obtain ⟨sg, rfl, hso, hsl, hcell⟩ := HSO.out av hA0
   subst hA0
   have hxl : x < args.length := by rw [← HAL.out]; exact hx
   have hxc : x < c := Zf hxl HA.out
   obtain ⟨X, hX⟩ : ∃ X, X = args[x] := ⟨_, rfl⟩
   have v1 : wr.drew.cell? ⟨sg, x, none⟩ = some (.int .i64 X) := by
    have h1 : wr.drew.heap[sg]? = w.heap[sg]? := A4.out.block sg hsl (fun h => h)
    rw [World.cell?_of_block (a := ⟨sg, x, none⟩) h1]
    exact hcell x X (by rw [hX]; exact Zi hxl)
   have c3 : wr.drew.cell? ⟨gb, 3, none⟩ = some (.slice (some ⟨ga, 0, none⟩) c c) := ae A3.out 3
   have s1 : wr.drew.cell? ⟨ga, x, none⟩ = some (.int .i64 0) := by
    have h1 : wr.drew.cell? ⟨ga, x, none⟩ = _ := ae A2.out x
    rw [h1, List.getElem?_toArray, ints, List.getElem?_map, List.getElem?_append_right (by rw [List.length_take]; omega), List.getElem?_replicate, if_pos (by rw [List.length_take]; omega)]
    rfl
   have s2 : wr.drew.frozen? ⟨ga, x, none⟩ = false := ai A2.out x
   have ex : IntKind.i64.wrap ((x : Int) + 1) = ((x + 1 : Nat) : Int) := by rw [IntWalk.i64_in _ (by omega)]; rfl
   have q1 : (0 : Int) ≤ (x : Int) := by omega
   have q2 : (x : Int) < (AL : Int) := by omega
   have q3 : (x : Int) < (c : Int) := by omega
   have A2' : aa ((wr.drew.setCell ⟨ga, x, none⟩ (.int .i64 X)).heap[ga]? = some (.cells (ints (args.take (x + 1) ++ List.replicate (c - (x + 1)) 0)).toArray 2 (0, 0))) := ⟨by
    have h1 : (wr.drew.setCell ⟨ga, x, none⟩ (.int .i64 X)).heap[ga]? = some (.cells ((ints (args.take x ++ List.replicate (c - x) 0)).toArray.setIfInBounds x (.int .i64 X)) 2 (0, 0)) := dH (w := wr.drew) A2.out x (.int .i64 X)
    rw [h1]
    have h2 : (ints (args.take x ++ List.replicate (c - x) 0)).toArray.setIfInBounds x (.int .i64 X) = (ints (args.take (x + 1) ++ List.replicate (c - (x + 1)) 0)).toArray := by
     apply Array.toList_inj.1
     rw [Array.toList_setIfInBounds]
     show (ints (args.take x ++ List.replicate (c - x) 0)).set x (.int .i64 X) = ints (args.take (x + 1) ++ List.replicate (c - (x + 1)) 0)
     unfold ints
     rw [← List.map_set, List.set_append_right _ _ (by rw [List.length_take]; omega), List.length_take, show x - min x args.length = 0 by omega, show c - x = (c - (x + 1)) + 1 by omega, List.replicate_succ, List.set_cons_zero, hX, List.take_succ_eq_append_getElem hxl]
     simp only [List.map_append, List.map_cons, List.map_nil, List.append_assoc, List.cons_append, List.nil_append]
    rw [h2]⟩
   have A3' : aa ((wr.drew.setCell ⟨ga, x, none⟩ (.int .i64 X)).heap[gb]? = some (.cells #[.int .i64 k, .int .i64 0, .int .i64 (-1), .slice (some ⟨ga, 0, none⟩) c c, .slice none 0 0] 80 (0, 0))) := ⟨(Below.heap_setCell _ _ _ _ (by rw [HGA.out, HGB.out]; show w.heap.size + 1 ≠ w.heap.size; omega)).trans A3.out⟩
   have A4' : aa (Mod (fun _ => False) w (wr.drew.setCell ⟨ga, x, none⟩ (.int .i64 X))) := ⟨A4.out.drew.setCell (p := ⟨ga, x, none⟩) (fun h => by have h2 : ga < w.heap.size := h; rw [HGA.out] at h2; exact absurd h2 (Nat.lt_irrefl _)) _⟩
   clear hX hxl hxc b0 p1 hso hsl hcell
   go_wp2
   refine wp_region_still_tail 8 (by kernel_rfl) (by kernel_rfl) ?_
   change wpStill _ _ wr.drew (fun a' => wpList _ _ _ _ a' wr.drew) _ _
   generalize wr.drew = w8 at *
   simp only [List.take_succ_cons, List.take_zero, List.drop_succ_cons, List.drop_zero]
   repeat still_step
   try refine wpStill_nil ?_
   go_wp2
   go_roundg gk1
   case measure => omega
   case rel => exact ⟨x + 1, by first | rfl | go_num, ⟨by have := A1.out; omega⟩, A2', A3', A4'⟩
  ·have g1 : decide ((x : Int) < (AL : Int)) = false := Zb (by omega)
   have g2 : decide (x < AL) = false := Zb hx
   have hxe : x = args.length := by have := A1.out; have := HAL.out; omega
   have hfb1 : wr.heap[gb]? = some (.cells (eX ⟨.slice (some ⟨ga, 0, none⟩) c c, .slice none 0 0⟩ ⟨k, 0, -1, [], []⟩).toArray 80 (0, 0)) := A3.out
   have A2e : wr.heap[ga]? = some (.cells (ints (args ++ List.replicate (c - args.length) 0)).toArray 2 (0, 0)) := by have h := A2.out; rwa [hxe, List.take_length] at h
   have HRF : aa (RFr wr ⟨.slice (some ⟨ga, 0, none⟩) c c, .slice none 0 0⟩ (iV m.codes k args)) := ⟨by
    have hc0 : (iV m.codes k args).cells = args ++ List.replicate (c - args.length) 0 := by simp [iV, HC.out]
    have hlc : (args ++ List.replicate (c - args.length) 0).length = c := by have := HA.out; simp; omega
    refine ⟨?_, ⟨rfl, .inl ⟨rfl, rfl⟩⟩⟩
    rw [hc0]
    refine ⟨by simp [ints], .inr ⟨ga, c, _, by rw [hlc], Nat.zero_le _, A2e, by rw [hlc]; exact Zd _, by simp only [maxLen]; omega, by simp only [List.size_toArray, ja, hlc, Nat.mul_one], ?_⟩⟩
    rw [hlc, Nat.mul_one]
    exact List.take_of_length_le (by rw [ja, hlc]; exact Zd _)⟩
   obtain ⟨vfA, vfn, vfC, hfv⟩ : ∃ A l c, o.fv = .slice A l c := by rcases HH.out.fr.2 with ⟨h, _⟩ | ⟨_, _, _, h, _⟩ <;> exact ⟨_, _, _, h⟩
   have HM : aa (ROn Rd wr o m) := ⟨HH.out.mod A4.out (fun _ _ h => h)⟩
   have y1 : wr.cell? ⟨o.g, 1, none⟩ = some (.slice vfA vfn vfC) := by rw [← hfv]; exact ae HM.out.blk 1
   have y1d : wr.drew.cell? ⟨o.g, 1, none⟩ = some (.slice vfA vfn vfC) := y1
   have z0 : wr.cell? ⟨gb, 0, none⟩ = some (.int .i64 k) := ae A3.out 0
   have z1 : wr.cell? ⟨gb, 1, none⟩ = some (.int .i64 0) := ae A3.out 1
   have z2 : wr.cell? ⟨gb, 2, none⟩ = some (.int .i64 (-1)) := ae A3.out 2
   have z3 : wr.cell? ⟨gb, 3, none⟩ = some (.slice (some ⟨ga, 0, none⟩) c c) := ae A3.out 3
   have z4 : wr.cell? ⟨gb, 4, none⟩ = some (.slice none 0 0) := ae A3.out 4
   have y1a := Lib.cell?_alloc_some (.cells #[.int .i64 k, .int .i64 0, .int .i64 (-1), .slice (some ⟨ga, 0, none⟩) c c, .slice none 0 0] 80) y1
   have HFV := aa.mk hfv
   have HRO : aa (wr.ownsRow 0 80 5 (.slice vfA vfn vfC) m.frames.length (gM o.hs m.frames)) := ⟨by rw [← hfv]; exact HM.out.fr⟩
   have HGAP : aa ((Value.slice vfA vfn vfC).ownBlock ≠ some o.g) := ⟨by rw [← hfv]; exact (gH HM.out).1⟩
   have HNB : aa (∀ v1 : Value, ((v1.ownBlock = (Value.slice vfA vfn vfC).ownBlock) ∨ ∃ b, v1.ownBlock = some b ∧ wr.heap.size ≤ b) → ∀ i, v1.ownBlock = some i → i ∉ RHo.blocks ⟨.slice (some ⟨ga, 0, none⟩) c c, .slice none 0 0⟩) := ⟨by
    intro v1 hat i hi hin
    have e : i = ga := by simpa [RHo.blocks, Value.ownBlock] using hin
    subst e
    rcases hat with h | ⟨b, h, hb⟩
    ·rw [h] at hi
     rw [← hfv] at hi
     have h2 := HH.out.lt i (fZ hi)
     rw [HGA.out] at h2
     exact Nat.lt_irrefl _ h2
    ·have : b = i := Zg (h.symm.trans hi)
     have h3 := bF A2.out
     omega⟩
   clear hfb1 A2e hfv b0 p1 hx1
   go_wp2
   go_region_law (refine fF 0 (by rfl) (.tmp 37) (.tmp 39) 50 80 (.agg #[.int .i64 0, .int .i64 0, .int .i64 0, .slice none 0 0, .slice none 0 0]) 5 72 rfl Tryd.underlying50 uW rfl (by decide) (by decide) (.slice vfA vfn vfC) m.frames.length (gM o.hs m.frames) [.int .i64 k, .int .i64 0, .int .i64 (-1), .slice (some ⟨ga, 0, none⟩) c c, .slice none 0 0] rfl rfl rfl (by intro u hu; simp at hu; rcases hu with rfl | rfl | rfl | rfl | rfl <;> rfl) HRO.out.drew (Below.refl 0 _) (Nat.zero_le _) (by have := HL.out; omega) ?_; intro v1 w9 hown _ hgrow hat; obtain ⟨vA, vn, vC, hv1⟩ : ∃ A n c, v1 = .slice A n c := (by rcases hown.2 with ⟨h, _⟩ | ⟨_, _, _, h, _⟩ <;> exact ⟨_, _, _, h⟩); subst hv1; have hb := cZ HM.out.drew.blk hgrow (Ne.symm HGAP.out); have k4 : w9.cell? ⟨o.g, 1, none⟩ = some (.slice vfA vfn vfC) := (by rw [← HFV.out]; exact ae hb 1); have f4 : w9.frozen? ⟨o.g, 1, none⟩ = false := ai hb 1; have HBG := aa.mk (HH.out.begun (h := ⟨.slice (some ⟨ga, 0, none⟩) c c, .slice none 0 0⟩) (f := iV m.codes k args) A4.out.drew (HRF.out.kept (w' := wr.drew) (fun _ _ => rfl)) (by simp [RHo.blocks, Value.ownBlock]) (by intro i hi; have e : i = ga := (by simpa [RHo.blocks, Value.ownBlock] using hi); subst e; rw [HGA.out]; exact Zd _) (by rw [HFV.out]; exact hgrow) hown (by rw [HFV.out]; exact hat) (HNB.out _ hat)); clear hown hgrow hat hb)
   all_goals
    go_wp2
    go_end0
    exact ⟨rfl, HBG.out⟩
end
def dL (l : List Int) : Prop := ∀ x ∈ l, In64 x
theorem jC : In64 0 := ⟨by decide, by decide⟩
theorem rY : In64 1 := ⟨by decide, by decide⟩
theorem sV (a : Int) : In64 (wrap64 a) := w64_range a
theorem dL.nil : dL [] := fun x h => by simp at h
theorem dL.app {a b : List Int} (ha : dL a) (hb : dL b) : dL (a ++ b) := fun x h => (Zn.1 h).elim (ha x) (hb x)
theorem dL.one {a : Int} (h : In64 a) : dL [a] := fun x hx => by simp at hx; subst hx; exact h
theorem dL.drop {l : List Int} (h : dL l) (n : Nat) : dL (l.drop n) := fun x hx => h x (List.mem_of_mem_drop hx)
theorem dL.take {l : List Int} (h : dL l) (n : Nat) : dL (l.take n) := fun x hx => h x (List.mem_of_mem_take hx)
theorem dL.dropLast {l : List Int} (h : dL l) : dL l.dropLast := fun x hx => h x (List.dropLast_subset l hx)
theorem dL.last {l : List Int} (h : dL l) : In64 (l.getLastD 0) := by
 rcases List.eq_nil_or_concat l with rfl | ⟨s, x, rfl⟩
 ·exact jC
 ·have : (s ++ [x]).getLastD 0 = x := List.getLastD_concat
  rw [List.concat_eq_append, this]
  exact h x (by simp)
theorem dL.getD {l : List Int} (h : dL l) (n : Nat) : In64 (l.getD n 0) := by
 rw [List.getD_eq_getElem?_getD]
 rcases e : l[n]? with _ | x
 ·exact jC
 ·exact h x (List.mem_of_getElem? e)
theorem dL.set {l : List Int} (h : dL l) (n : Nat) {a : Int} (ha : In64 a) : dL (l.set n a) := fun x hx => (List.mem_or_eq_of_mem_set hx).elim (h x) (fun e => e ▸ ha)
theorem dL.clear : ∀ (m : Nat) {l : List Int} (n : Nat), dL l → dL (fe l n m)
 | 0, l, n, h => h
 | m + 1, l, n, h => dL.clear m (n + 1) (h.set n jC)
theorem dL.rep (n : Nat) : dL (List.replicate n 0) := fun x hx => by rw [(List.mem_replicate.1 hx).2]; exact jC
theorem in_tmod {a b : Int} (ha : In64 a) : In64 (Int.tmod a b) := by
 have h1 := Int.natAbs_tmod a b
 have h2 : (Int.tmod a b).natAbs ≤ a.natAbs := by rw [h1]; exact Nat.mod_le _ _
 unfold In64 at *
 by_cases h : 0 ≤ a
 ·have := Int.tmod_nonneg b h
  omega
 ·have h3 : Int.tmod a b ≤ 0 := by
   have h4 := Int.tmod_nonneg b (show 0 ≤ -a by omega)
   rw [Int.neg_tmod] at h4
   omega
  omega
theorem in_two {op a b : Int} (ha : In64 a) : In64 (iK op a b).1 := by
 unfold iK
 repeat' split
 all_goals first | exact sV _ | exact jC | exact in_tmod ha | (split <;> first | exact rY | exact jC) | exact rY
structure FIn (f : Fr) : Prop where
 st : dL f.stack
 cs : dL f.cells
theorem uf {f : Fr} {i : S43} (H : FIn f) (hi : In64 i.f1) : FIn (cO f i).1 := by
 have s1 := H.st.dropLast; have s2 := s1.dropLast; have a1 := H.st.last; have a2 := s1.last
 unfold cO
 by_cases h1 : i.f0 = 1
 ·rw [if_pos h1]
  exact ⟨H.st.app (dL.one hi), H.cs⟩
 rw [if_neg h1]
 by_cases h2 : i.f0 = 2
 ·rw [if_pos h2]
  exact ⟨H.st.app (dL.one (H.cs.getD _)), H.cs⟩
 rw [if_neg h2]
 by_cases h3 : i.f0 = 3
 ·rw [if_pos h3]
  exact ⟨s1, H.cs.set _ a1⟩
 rw [if_neg h3]
 by_cases h4 : i.f0 = 4
 ·rw [if_pos h4]
  by_cases q : f.stack.getLastD 0 < 0 ∨ i.f2 ≤ f.stack.getLastD 0
  ·rw [if_pos q]; exact ⟨s1, H.cs⟩
  ·rw [if_neg q]; exact ⟨s1.app (dL.one (H.cs.getD _)), H.cs⟩
 rw [if_neg h4]
 by_cases h5 : i.f0 = 5
 ·rw [if_pos h5]
  by_cases q : f.stack.dropLast.getLastD 0 < 0 ∨ i.f2 ≤ f.stack.dropLast.getLastD 0
  ·rw [if_pos q]; exact ⟨s2, H.cs⟩
  ·rw [if_neg q]; exact ⟨s2, H.cs.set _ a1⟩
 rw [if_neg h5]
 by_cases h6 : i.f0 = 6
 ·rw [if_pos h6]
  exact ⟨H.st, H.cs.clear _ _⟩
 rw [if_neg h6]
 by_cases h15 : i.f0 = 15
 ·rw [if_pos h15]
  exact ⟨s1.app (dL.one (by split <;> first | exact rY | exact jC)), H.cs⟩
 rw [if_neg h15]
 by_cases h16 : i.f0 = 16
 ·rw [if_pos h16]
  exact ⟨s1.app (dL.one (sV _)), H.cs⟩
 rw [if_neg h16]
 by_cases h17 : i.f0 = 17
 ·rw [if_pos h17]
  exact ⟨H.st, H.cs⟩
 rw [if_neg h17]
 by_cases h18 : i.f0 = 18
 ·rw [if_pos h18]
  exact ⟨s1, H.cs⟩
 rw [if_neg h18]
 by_cases h23 : i.f0 = 23
 ·rw [if_pos h23]
  exact ⟨s1, H.cs⟩
 rw [if_neg h23]
 by_cases h25 : i.f0 = 25
 ·rw [if_pos h25]
  exact ⟨s1, H.cs⟩
 rw [if_neg h25]
 exact ⟨s2.app (dL.one (in_two a2)), H.cs⟩
structure Rng (m : Mc) : Prop where
 ins : ∀ k a, In64 (az (au m.codes k).f0 a).f1
 inp : dL m.input
 frs : ∀ f ∈ m.frames, FIn f
theorem Rng.put {m : Mc} (R : Rng m) {l : List Fr} (h : ∀ f ∈ l, FIn f) : Rng { m with frames := l } := ⟨R.ins, R.inp, h⟩
theorem ig {r : List Fr} {f : Fr} (h : ∀ g ∈ r, FIn g) (hf : FIn f) : ∀ g ∈ r ++ [f], FIn g := fun g hg => (Zn.1 hg).elim (h g) (fun e => by simp at e; exact e ▸ hf)
theorem does_rng {m : Mc} {r : List Fr} {f : Fr} {i : S43} (R : Rng m) (hr : ∀ g ∈ r, FIn g) (hf : FIn f) (hi : In64 i.f1) : Rng (m.does r f i).1 := by
 unfold Mc.does
 split
 ·have hc : FIn { f with stack := f.stack.take (f.stack.length - i.f2.toNat) } := ⟨hf.st.take _, hf.cs⟩
  split
  ·exact ⟨R.ins, R.inp, ig hr hc⟩
  ·exact ⟨R.ins, R.inp, ig (ig hr hc) ⟨dL.nil, (hf.st.drop _).app (dL.rep _)⟩⟩
 ·split
  ·split
   ·exact ⟨R.ins, R.inp, fun g hg => by simp [Mc.endM] at hg⟩
   ·split
    ·refine ⟨R.ins, R.inp, fun g hg => ?_⟩
     have hg : g ∈ gL r (f.stack.getLastD 0) := hg
     unfold gL at hg
     rcases Zn.1 hg with h | h
     ·exact hr g (List.dropLast_subset r h)
     ·rcases e : r.getLast? with _ | q
      ·rw [e] at h; simp at h
      ·rw [e] at h
       simp at h
       subst h
       have hq := hr q (List.mem_of_getLast? e)
       exact ⟨hq.st.app (dL.one (by have h9 := hf.st.last; rwa [List.getLastD_eq_getLast?] at h9)), hq.cs⟩
    ·exact ⟨R.ins, R.inp, hr⟩
  ·split
   ·exact ⟨R.ins, R.inp, ig hr ⟨hf.st.dropLast, hf.cs⟩⟩
   ·split
    ·split
     ·exact ⟨R.ins, R.inp, ig hr hf⟩
     ·exact ⟨R.ins, R.inp, ig hr ⟨hf.st.app (dL.one (R.inp.getD _)), hf.cs⟩⟩
    ·split
     ·split
      ·exact ⟨R.ins, R.inp, ig hr hf⟩
      ·exact ⟨R.ins, R.inp, ig hr ⟨hf.st, hf.cs⟩⟩
     ·split
      ·exact ⟨R.ins, R.inp, ig hr (uf hf hi)⟩
      ·exact ⟨R.ins, R.inp, ig hr (uf hf hi)⟩
theorem nJ {m : Mc} (R : Rng m) : Rng m.one.1 := by
 unfold Mc.one
 split
 ·exact R
 ·rename_i f hf
  have hm := List.mem_of_getLast? hf
  have h := R.frs f hm
  exact does_rng R (fun g hg => R.frs g (List.dropLast_subset _ hg)) ⟨h.st, h.cs⟩ (R.ins _ _)
theorem end_rng {m : Mc} (R : Rng m) (k n : Int) : Rng (m.endM k n) := ⟨R.ins, R.inp, R.frs⟩
theorem pW : ∀ (k : Nat) {m : Mc}, Rng m → Rng (m.steps k).1
 | 0, m, R => end_rng R 5 0
 | k + 1, m, R => by
  show Rng (if m.one.2 = true then (m.one.1, true) else if m.one.1.ended = true then (m.one.1, false) else Mc.steps k m.one.1).1
  split
  ·exact nJ R
  ·split
   ·exact nJ R
   ·exact pW k (nJ R)
theorem step_rng {m : Mc} (R : Rng m) : Rng m.step.1 := by
 unfold Mc.step
 split
 ·exact R
 ·exact pW _ R
end Go.Proofs.YthckiolgpgplpaaDoor
