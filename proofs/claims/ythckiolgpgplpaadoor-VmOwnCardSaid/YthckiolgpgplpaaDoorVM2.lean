/- The walks of the machine, by hand. -/
import Derived.Test.YthckiolgpgplpaaDoorVRone
import Derived.Test.YthckiolgpgplpaaDoorPx14
set_option linter.unusedVariables false
set_option linter.unusedSimpArgs false
set_option maxRecDepth 1000000
set_option maxHeartbeats 4000000
namespace Go.Proofs.YthckiolgpgplpaaDoor
open Go.RowKit YC YA YB YD YE
section
variable {Rd : Nat → Prop} {w : World} {o : RMo} {m : Mc}
def Way (m : Mc) (N gk : Nat) (m1 : Mc) : Prop := (m1.ended = false ∧ Inv gk m1 ∧ Rng m1 ∧ m.steps N = m1.steps gk) ∨ (m1.ended = true ∧ Sim m1 (m.steps N).1 ∧ (m.steps N).2 = false)
def uJ (Rd : Nat → Prop) (w : World) (o : RMo) (p : Mc × Bool) (e : Ending) (w' : World) : Prop := e = .returned (.bool p.2) ∧ ∃ m', Sim m' p.1 ∧ iw Rd w o m' w'
theorem rsteps_on (H : ROn Rd w o m) (N : Nat) (hN : N = 1048576) (hi : Inv N m) (R : Rng m) (he : m.ended = false) :
  Calls Tryd.prog 24 #[o.ptr, .int .i64 1048576] w (uJ Rd w o (m.steps N)) := by
 have HH := aa.mk H; have HN := aa.mk hN; have HI := aa.mk hi; have HE := aa.mk he; have HR := aa.mk R
 clear H hN hi he R
 show Calls Tryd.prog 24 #[.pointer (some ⟨o.g, 0, none⟩), .int .i64 1048576] w _
 go_enter Tryd.func24, Tryd.ntmps24
 go_wp2
 go_loopg [5] N (fun gk v5 W => ∃ (x : Nat) (o1 : RMo) (m1 : Mc), v5 = .int .i64 (x : Int) ∧ aa (gk + x = N) ∧ aa (ROn Rd W o1 m1) ∧ aa (jK w o o1) ∧ aa (Mod (fun k => k ∈ o.own) w W) ∧ aa (Way m N gk m1))
 case atStart => exact ⟨0, o, m, rfl, ⟨by omega⟩, HH, ⟨jK.refl _ _⟩, ⟨Mod.refl _ _⟩, ⟨.inl ⟨HE.out, HI.out, HR.out, rfl⟩⟩⟩
 case round =>
  obtain ⟨x, o1, m1, rfl, A1, A2, A3, A4, A5⟩ := hrel
  have hg1 : o1.g = o.g := A3.out.1
  have c11 : wr.cell? ⟨o.g, 11, none⟩ = some (.bool m1.ended) := by rw [← hg1]; exact ae A2.out.blk 11
  have HG1 := aa.mk hg1; clear hg1
  rcases A5.out with ⟨hl, hinv, hrng, hst⟩ | ⟨hend, hsim, hfal⟩
  ·rw [hl] at c11
   have HLV := aa.mk hl; have HINV := aa.mk hinv; have HRNG := aa.mk hrng; have HST := aa.mk hst
   clear hl hinv hrng hst A5
   rcases Nat.eq_zero_or_pos gk with h0 | h0
   ·have hx : decide ((x : Int) < 1048576) = false := Zb (by have := A1.out; have := HN.out; omega)
    have HEND : aa (Calls Tryd.prog 44 #[.pointer (some ⟨o.g, 0, none⟩), .int .i64 5, .int .i64 0] wr (fun e w' => e = .returned (.tuple #[]) ∧ iw Rd wr o1 (m1.endM 5 0) w')) := ⟨by
     obtain ⟨r, f, F⟩ := road.fits gk m1 HINV.out HLV.out
     have h := kT A2.out 5 0 (by have := F.events; omega)
     rwa [RMo.ptr, HG1.out] at h⟩
    have H0 := aa.mk h0; clear h0
    go_wp2_with ((with_reducible refine ah (f := 44) rfl ?_); refine gl 31 Tryd.func44 #[.pointer (some ⟨o.g, 0, none⟩), .int .i64 5, .int .i64 0] ?_; refine HEND.out.mono ?_; rintro e w3 ⟨rfl, hA3⟩; have HA3 := aa.mk hA3; clear hA3; refine ⟨_, rfl, ?_⟩)
    go_ret
    have e1 : m.steps N = (m1.endM 5 0, false) := by rw [HST.out, H0.out]; rfl
    rw [e1]
    exact ⟨rfl, _, .inl rfl, iw.then_ A3.out A4.out HA3.out⟩
   ·obtain ⟨g, hgg⟩ : ∃ g, gk = g + 1 := ⟨gk - 1, by omega⟩
    subst hgg
    have hx : decide ((x : Int) < 1048576) = true := Za (by have := A1.out; have := HN.out; omega)
    have ex : IntKind.i64.wrap ((x : Int) + 1) = (x : Int) + 1 := IntWalk.i64_in _ (by have := A1.out; have := HN.out; omega)
    obtain ⟨r, f, F⟩ := road.fits (g + 1) m1 HINV.out HLV.out
    have P := A2.out.putG HG1.out 12 (.int .i64 ((x : Int) + 1)) ((x : Int) + 1) (m' := m1) rfl rfl rfl rfl rfl
    have c12 : wr.cell? ⟨o.g, 12, none⟩ = some (.int .i64 o1.ran) := by rw [← HG1.out]; exact ae A2.out.blk 12
    have c12f : wr.frozen? ⟨o.g, 12, none⟩ = false := by rw [← HG1.out]; exact ai A2.out.blk 12
    obtain ⟨b, hb⟩ : ∃ b, b = m1.rone.2 := ⟨_, rfl⟩
    have HONE : aa (Calls Tryd.prog 43 #[.pointer (some ⟨o.g, 0, none⟩)] (wr.setCell ⟨o.g, 12, none⟩ (.int .i64 ((x : Int) + 1))) (fun e w' => e = .returned (.bool b) ∧ iw Rd (wr.setCell ⟨o.g, 12, none⟩ (.int .i64 ((x : Int) + 1))) { o1 with ran := ((x : Int) + 1) } m1.rone.1 w')) := ⟨by
     have h := rone_on P.1 F (HRNG.out.frs f (by rw [F.fr]; simp)).st
     rw [hb]
     have h2 : ({ o1 with ran := ((x : Int) + 1) } : RMo).ptr = .pointer (some ⟨o.g, 0, none⟩) := by show Value.pointer (some ⟨o1.g, 0, none⟩) = _; rw [HG1.out]
     rw [h2] at h
     exact h⟩
    have hS := rone_sim F
    have HF := aa.mk F; have HP := aa.mk P.2; have HB := aa.mk hb; have HS := aa.mk hS
    clear F P hb hS h0
    cases b
    ·go_wp2_with ((with_reducible refine ah (f := 43) rfl ?_); refine gl 24 Tryd.func43 #[.pointer (some ⟨o.g, 0, none⟩)] ?_; refine HONE.out.mono ?_; rintro e w3 ⟨rfl, hA3⟩; have HA3 := aa.mk hA3; clear hA3 c11 c12 c12f hx; refine ⟨_, rfl, ?_⟩)
     go_roundg g
     case measure => omega
     case rel =>
      obtain ⟨o4, hs4, H4, M4⟩ := HA3.out
      have hsub : jK w o o4 := ⟨hs4.1.trans HG1.out, fun k hk => (hs4.2 k hk).elim (fun h1 => A3.out.2 k h1) (fun h1 => .inr (Ze (A4.out.trans HP.out (fun k _ e => by subst e; simp [RMo.own])).size h1))⟩
      have hO : ∀ k, k < w.heap.size → k ∈ RMo.own { o1 with ran := (x : Int) + 1 } → k ∈ o.own := fun k hk h1 => (A3.out.2 k h1).elim id (fun h2 => by omega)
      have hmod : Mod (fun k => k ∈ o.own) w w3 := (A4.out.trans HP.out (fun k _ e => by subst e; simp [RMo.own])).trans M4 hO
      have hof : m1.one.2 = false := by rw [← HS.out.1]; exact HB.out.symm
      refine ⟨x + 1, o4, m1.rone.1, by go_num, ⟨by have := A1.out; omega⟩, ⟨H4⟩, ⟨hsub⟩, ⟨hmod⟩, ⟨?_⟩⟩
      rcases hend : m1.one.1.ended with _ | _
      ·have e1 := HS.out.2.eq hend
       refine .inl ⟨by rw [e1]; exact hend, by rw [e1]; exact road.next g m1 HINV.out HLV.out hof hend, by rw [e1]; exact nJ HRNG.out, ?_⟩
       rw [HST.out, e1]
       exact iE (by rw [← hof]) hend g
      ·have e1 : m.steps N = (m1.one.1, false) := by rw [HST.out]; exact jh (by rw [← hof]) hend g
       exact .inr ⟨by rw [HS.out.2.alike.ended]; exact hend, by rw [e1]; exact HS.out.2, by rw [e1]⟩
    ·go_wp2_with ((with_reducible refine ah (f := 43) rfl ?_); refine gl 24 Tryd.func43 #[.pointer (some ⟨o.g, 0, none⟩)] ?_; refine HONE.out.mono ?_; rintro e w3 ⟨rfl, hA3⟩; have HA3 := aa.mk hA3; clear hA3 c11 c12 c12f hx; refine ⟨_, rfl, ?_⟩)
     go_ret
     have hot : m1.one.2 = true := by rw [← HS.out.1]; exact HB.out.symm
     have e1 : m.steps N = (m1.one.1, true) := by rw [HST.out]; exact nR (by rw [← hot]) g
     rw [e1]
     have hO : ∀ k, k < w.heap.size → k ∈ RMo.own { o1 with ran := (x : Int) + 1 } → k ∈ o.own := fun k hk h1 => (A3.out.2 k h1).elim id (fun h2 => by omega)
     obtain ⟨o4, hs4, H4, M4⟩ := HA3.out
     exact ⟨rfl, _, HS.out.2, o4, ⟨hs4.1.trans HG1.out, fun k hk => (hs4.2 k hk).elim (fun h1 => A3.out.2 k h1) (fun h1 => .inr (Ze (A4.out.trans HP.out (fun k _ e => by subst e; simp [RMo.own])).size h1))⟩, H4, (A4.out.trans HP.out (fun k _ e => by subst e; simp [RMo.own])).trans M4 hO⟩
  ·rw [hend] at c11
   have HSIM := aa.mk hsim; have HFAL := aa.mk hfal
   clear hend hsim hfal A5
   have fin : uJ Rd w o (m.steps N) (.returned (.bool false)) wr := ⟨by rw [HFAL.out], m1, HSIM.out, o1, A3.out, A2.out, A4.out⟩
   have FIN := aa.mk fin; clear fin
   rcases Nat.eq_zero_or_pos gk with h0 | h0
   ·have hx : decide ((x : Int) < 1048576) = false := Zb (by have := A1.out; have := HN.out; omega)
    clear h0
    go_wp2
    go_ret
    exact FIN.out
   ·have hx : decide ((x : Int) < 1048576) = true := Za (by have := A1.out; have := HN.out; omega)
    clear h0
    go_wp2
    go_ret
    exact FIN.out
theorem rstep_on (H : ROn Rd w o m) (F : Fit m) (R : Rng m) (he : m.ended = false) : Calls Tryd.prog 24 #[o.ptr, .int .i64 1048576] w (uJ Rd w o m.step) := by
 have h := rsteps_on H 1048576 rfl F.inv R he
 have e : m.step = m.steps 1048576 := by unfold Mc.step; rw [if_neg (by simp [he])]
 rw [e]
 exact h
end
theorem step_fresh_ints {W : World} {ops : Array Oper} {o : Oper} {a : Act} {Q : Exit → Act → World → Prop} {K : Act → World → Prop} (hw : Region.wanted o (yielded ops a.tmps) = true) (x : Operand)
  (ho : o.op = .call { callee := .builtin .append, args := #[.const (.slice none 0 0), x], argTypes := #[23, 23] }) (v : Value) (l : List Int) (hx : a.eval x = v) (hv : W.ownsRow 0 2 1 v l.length (ints l)) (hl : l.length ≤ 1000000)
  (h : ∀ v1 w1, w1.ownsRow 0 2 1 v1 l.length (ints l) → Below W.heap.size W w1 → (∀ k, v1.ownBlock = some k → W.heap.size ≤ k) → K (a.put o.dst v1) w1) :
  if Region.wanted o (yielded ops a.tmps) = true then Oper.wp Tryd.prog o a W K Q else K (a.put o.dst undef) W := by
 obtain ⟨i0, hi, hzz⟩ := Zo.1 jd
 simp only [Zm] at hzz
 obtain ⟨hz0, hz1, hz2⟩ := hzz
 obtain ⟨A, c, rfl, _, _, hnone, hsome⟩ := iG hv
 have hown : W.ownsRow 0 2 1 (.slice none 0 0) 0 [] := ⟨by simp, .inl ⟨rfl, rfl⟩⟩
 have hs : a.eval (.const (.slice none 0 0)) = .slice none 0 0 := rfl
 rw [if_pos hw]
 cases A with
 | none =>
  obtain ⟨h0, rfl⟩ := hnone rfl
  obtain rfl : l = [] := List.length_eq_zero_iff.1 h0
  have hr : (Builtin.append_ #[23, 23] o.type #[.slice none 0 0, .slice none ([] : List Int).length 0]).run Tryd.prog W = .ok (.slice none 0 0) W := by
   simp [Builtin.append_, run_underlying Tryd.underlying23, sizeOf, typeInfo, hi, Builtin.lenOf, Builtin.firstCells]
  unfold Oper.wp execOp
  simp only [ho, resolve, invoke, builtin, Sem.run_bind, Sem.run_pure, Result.andThen_ok, List.map_toArray, List.map_cons, List.map_nil, hs, hx, hr]
  exact h _ W hown (Below.refl _ _) (fun k hk => by simp [Value.ownBlock] at hk)
 | some ad =>
  obtain ⟨sg, rfl, _, hsl, hcell⟩ := hsome ad rfl
  obtain ⟨v1, w1, hr, h2, hg, _, hat⟩ := run_append_own_at (P := Tryd.prog) W 0 23 o.type 2 i0 (.int .i64 0) 1 8 Tryd.underlying23 hi hz0 hz1 hz2 rfl (by decide) (.slice none 0 0) 0 [] hown ⟨sg, 0, none⟩ l.length c (ints l) (by rw [ja, Nat.mul_one])
   (fun j u hu => by
    simp only [ints, List.getElem?_map, Zo] at hu
    obtain ⟨y, hy, rfl⟩ := hu
    have := hcell j y hy
    unfold Addr.add
    by_cases hj : j = 0
    ·subst hj; simpa using this
    ·simpa [hj] using this) (fun u hu => by simp only [ints, List.mem_map] at hu; obtain ⟨_, _, rfl⟩ := hu; rfl) (by simp only [maxLen]; omega) (by omega) (Nat.zero_le _)
  unfold Oper.wp execOp
  simp only [ho, resolve, invoke, builtin, Sem.run_bind, Sem.run_pure, Result.andThen_ok, List.map_toArray, List.map_cons, List.map_nil, hs, hx, hr]
  refine h v1 w1 (by simpa using h2) ⟨hg.os, hg.tape, hg.output, hg.size, fun k hk => hg.block k hk (by simp [Value.ownBlock])⟩ (fun k hk => ?_)
  rcases hat with hat | hat
  ·rw [hat] at hk; simp [Value.ownBlock] at hk
  ·have := Zg (hat.symm.trans hk); omega
section
variable {Rd : Nat → Prop} {w : World} {o : MHo} {m : Mc}
theorem rE (H : MOn Rd w o m) (k : Nat) (f : Fr) (hk : m.frames[k]? = some f) (hl : f.cells.length ≤ 1000000) :
  Calls Tryd.prog 27 #[o.ptr, .int .i64 k] w fun e w' => ∃ v, e = .returned (.tuple #[.int .i64 f.pr, .int .i64 f.mark, v, .bool true]) ∧ w'.ownsRow 0 2 1 v f.cells.length (ints f.cells) ∧ (∀ k, v.ownBlock = some k → w.heap.size ≤ k) ∧ Below w.heap.size w w' := by
 have hu24 := Tryd.underlying24
 have hkl := (List.getElem?_eq_some_iff.1 hk).1
 obtain ⟨h, hh, hF⟩ : ∃ h, o.hs[k]? = some h ∧ dn w h f := by
  have hl := H.frs.fB
  have key : ∀ {hs : List Ho} {fs : List Fr}, je (dn w) hs fs → ∀ k : Nat, fs[k]? = some f → ∃ h, hs[k]? = some h ∧ dn w h f := by
   intro hs fs ha
   induction ha with
   | nil => intro k hk; simp at hk
   | cons h1 _ ih =>
    intro k hk
    cases k with
    | zero => exact ⟨_, rfl, by simp at hk; exact hk ▸ h1⟩
    | succ k => exact ih k hk
  exact key H.frs k hk
 obtain ⟨A, c, he, hnc, hcc, hnone, hcell⟩ := iP H.fr
 obtain ⟨n, hn⟩ : ∃ n, n = m.frames.length := ⟨_, rfl⟩
 rw [← hn] at he hkl hnone
 rcases A with _ | fa
 ·have := (hnone rfl).1; omega
 have hpc := hcell fa rfl k h.ptr (by rw [List.getElem?_map, hh]; rfl)
 obtain ⟨g, vc, vs⟩ := h
 obtain ⟨cA, cc, hvc, hcl1, hcl2, _, _⟩ := iG hF.cs
 simp only at hvc
 obtain ⟨CL, hCL⟩ : ∃ CL, CL = f.cells.length := ⟨_, rfl⟩
 rw [← hCL] at hvc
 subst hvc
 have c0 : w.cell? ⟨o.g, 1, none⟩ = some (.slice (some fa) n c) := by rw [ae H.blk 1, ← he]; rfl
 have hpc' : w.cell? (fa.add k) = some (.pointer (some ⟨g, 0, none⟩)) := hpc
 have d0 : decide ((k : Int) < 0) = false := Zb (by omega)
 have d1 : decide ((n : Int) ≤ (k : Int)) = false := Zb (by omega)
 have d1' : decide (n ≤ k) = false := Zb (by omega)
 have q0 : (0 : Int) ≤ (k : Int) := by omega
 have q1 : (k : Int) < (n : Int) := by omega
 have y0 : w.drew.cell? ⟨g, 0, none⟩ = some (.int .i64 f.pr) := ae hF.drew.blk 0
 have y2 : w.drew.cell? ⟨g, 2, none⟩ = some (.int .i64 f.mark) := ae hF.drew.blk 2
 have y3 : w.drew.cell? ⟨g, 3, none⟩ = some (.slice cA CL cc) := ae hF.drew.blk 3
 have z0 : w.cell? ⟨g, 0, none⟩ = some (.int .i64 f.pr) := y0
 have z2 : w.cell? ⟨g, 2, none⟩ = some (.int .i64 f.mark) := y2
 have z3 : w.cell? ⟨g, 3, none⟩ = some (.slice cA CL cc) := y3
 have hgl : g < w.heap.size := bF hF.blk
 have HCS : aa (w.drew.ownsRow 0 2 1 (.slice cA CL cc) f.cells.length (ints f.cells)) := ⟨hF.cs.drew⟩
 have HL := aa.mk hl; have HGL := aa.mk hgl
 clear H hk hkl hh hF he hnone hcell hpc hn hCL hl hgl
 show Calls Tryd.prog 27 #[.pointer (some ⟨o.g, 0, none⟩), .int .i64 k] w _
 go_enter Tryd.func27, Tryd.ntmps27
 go_wp2
 go_region_held3 (fun W => W.cell? ⟨g, 0, none⟩ = some (.int .i64 f.pr) ∧ W.cell? ⟨g, 2, none⟩ = some (.int .i64 f.mark) ∧ W.cell? ⟨g, 3, none⟩ = some (.slice cA CL cc)) (first | exact ⟨y0, y2, y3⟩ | exact ⟨z0, z2, z3⟩ | exact ⟨by assumption, by assumption, by assumption⟩ | go_keep) ((refine step_fresh_ints (by rfl) (.tmp 44) rfl (.slice cA CL cc) f.cells rfl HCS.out HL.out ?_; intro v1 w1 hown hb hv; have bf : ∀ {a : Addr}, w1.heap[a.block]? = w.drew.heap[a.block]? → w1.cell? a = w.drew.cell? a := (fun h => World.cell?_of_block h); have s0 := (bf (a := ⟨g, 0, none⟩) (hb.block g HGL.out)).trans y0; have s2 := (bf (a := ⟨g, 2, none⟩) (hb.block g HGL.out)).trans y2; have s3 := (bf (a := ⟨g, 3, none⟩) (hb.block g HGL.out)).trans y3; have HO := aa.mk hown; have HB := aa.mk hb; have HV := aa.mk hv; clear hown hb hv bf))
 all_goals
  go_wp2
  refine bodyPost_ret (v := .tuple #[.int .i64 f.pr, .int .i64 f.mark, v1, .bool true]) (by simp [results, Tryd.results27, go_sem]) rfl ?_
  exact ⟨v1, rfl, HO.out, HV.out, HB.out.os, HB.out.tape, HB.out.output, HB.out.size, fun k hk => HB.out.block k hk⟩
end
def Solo (g : Nat) (m : Mc) (B : Nat) (w0 w : World) : Prop := ∃ Rd o, o.g = g ∧ MOn Rd w o m ∧ (∀ k, k ∈ o.own → B ≤ k) ∧ Below B w0 w
theorem Solo.below {g : Nat} {m : Mc} {B : Nat} {w0 w w' : World} (S : Solo g m B w0 w) (hB : B ≤ w.heap.size) (hb : Below w.heap.size w w') : Solo g m B w0 w' := by
 obtain ⟨Rd, o, hg, hM, hl, hw⟩ := S
 exact ⟨Rd, o, hg, hM.below hb, hl, hw.trans (hb.mono hB)⟩
theorem Solo.of {g : Nat} {B : Nat} {w0 w w' : World} {Rd : Nat → Prop} {o : MHo} (hg : o.g = g) (hl : ∀ k, k ∈ o.own → B ≤ k) (hw : Below B w0 w) {m' : Mc} {v : Value} {e : Ending} (hB : B ≤ w.heap.size) (hp : gN Rd w o m' v e w') : e = .returned v ∧ Solo g m' B w0 w' := by
 obtain ⟨he, o', hs, hM, hm⟩ := hp
 refine ⟨he, Rd, o', hs.1.trans hg, hM, fun k hk => ?_, hw.trans (hm.below (a := w) hB (fun k hk => hl k hk))⟩
 rcases hs.2 k hk with h | h
 ·exact hl k h
 ·omega
theorem Solo.step {g : Nat} {m : Mc} {B : Nat} {w0 w : World} (S : Solo g m B w0 w) (F : Fit m) (hB : B ≤ w0.heap.size) : Calls Tryd.prog 21 #[.pointer (some ⟨g, 0, none⟩)] w (fun e w' => e = .returned (.bool m.step.2) ∧ Solo g m.step.1 B w0 w') := by
 obtain ⟨Rd, o, hg, hM, hl, hw⟩ := S
 have h := nL hM F
 rw [MHo.ptr, hg] at h
 exact h.mono (fun e w' hp => Solo.of hg hl hw (Ze hB hw.size) hp)
theorem Solo.end_ {g : Nat} {m : Mc} {B : Nat} {w0 w : World} (S : Solo g m B w0 w) (F : Fit m) (hB : B ≤ w0.heap.size) (most : Nat) (hm : most ≤ 1000000) : Calls Tryd.prog 15 #[.pointer (some ⟨g, 0, none⟩), .int .i64 most] w (fun e w' => e = .returned (.bool (m.endP (most + 1)).2) ∧ Solo g (m.endP (most + 1)).1 B w0 w') := by
 obtain ⟨Rd, o, hg, hM, hl, hw⟩ := S
 have h := end_law hM F most hm
 rw [MHo.ptr, hg] at h
 exact h.mono (fun e w' hp => Solo.of hg hl hw (Ze hB hw.size) hp)
def Duo (g1 : Nat) (m1 : Mc) (g2 : Nat) (m2 : Mc) (B : Nat) (w0 w : World) : Prop :=
 ∃ Rd1 o1 Rd2 o2, o1.g = g1 ∧ o2.g = g2 ∧ MOn Rd1 w o1 m1 ∧ MOn Rd2 w o2 m2 ∧ (∀ k, k ∈ o1.own → B ≤ k) ∧ (∀ k, k ∈ o2.own → B ≤ k) ∧ (∀ k, k ∈ o1.own → k ∉ o2.own ∧ ¬ Rd2 k) ∧ (∀ k, k ∈ o2.own → ¬ Rd1 k) ∧ Below B w0 w
section
variable {g1 g2 : Nat} {m1 m2 : Mc} {B : Nat} {w0 w w' : World}
theorem Duo.swap (D : Duo g1 m1 g2 m2 B w0 w) : Duo g2 m2 g1 m1 B w0 w := by
 obtain ⟨Rd1, o1, Rd2, o2, h1, h2, h3, h4, h5, h6, h7, h8, h9⟩ := D
 exact ⟨Rd2, o2, Rd1, o1, h2, h1, h4, h3, h6, h5, fun k hk => ⟨fun h => (h7 k h).1 hk, h8 k hk⟩, fun k hk => (h7 k hk).2, h9⟩
theorem Duo.below (D : Duo g1 m1 g2 m2 B w0 w) (hB : B ≤ w0.heap.size) (hb : Below w.heap.size w w') : Duo g1 m1 g2 m2 B w0 w' := by
 obtain ⟨Rd1, o1, Rd2, o2, h1, h2, h3, h4, h5, h6, h7, h8, h9⟩ := D
 exact ⟨Rd1, o1, Rd2, o2, h1, h2, h3.below hb, h4.below hb, h5, h6, h7, h8, h9.trans (hb.mono (Ze hB h9.size))⟩
theorem Duo.solo (D : Duo g1 m1 g2 m2 B w0 w) : Solo g1 m1 B w0 w := by
 obtain ⟨Rd1, o1, Rd2, o2, h1, h2, h3, h4, h5, h6, h7, h8, h9⟩ := D
 exact ⟨Rd1, o1, h1, h3, h5, h9⟩
theorem Duo.step (D : Duo g1 m1 g2 m2 B w0 w) (F : Fit m1) (hB : B ≤ w0.heap.size) : Calls Tryd.prog 21 #[.pointer (some ⟨g1, 0, none⟩)] w (fun e w' => e = .returned (.bool m1.step.2) ∧ Duo g1 m1.step.1 g2 m2 B w0 w') := by
 obtain ⟨Rd1, o1, Rd2, o2, h1, h2, h3, h4, h5, h6, h7, h8, h9⟩ := D
 have h := nL h3 F
 rw [MHo.ptr, h1] at h
 refine h.mono ?_
 rintro e w' ⟨rfl, o', hs, hM, hm⟩
 have hsz := Ze hB h9.size
 have hnew : ∀ k, k ∈ o'.own → k ∈ o1.own ∨ w.heap.size ≤ k := hs.2
 refine ⟨rfl, Rd1, o', Rd2, o2, hs.1.trans h1, h2, hM, h4.mod hm (fun k hk hk1 => ?_), fun k hk => ?_, h6, fun k hk => ?_, h8, h9.trans (hm.below (a := w) hsz (fun k hk => h5 k hk))⟩
 ·rcases hk with hk | hk
  ·exact (h7 k hk1).1 hk
  ·exact (h7 k hk1).2 hk
 ·rcases hnew k hk with h | h
  ·exact h5 k h
  ·omega
 ·rcases hnew k hk with h | h
  ·exact h7 k h
  ·exact ⟨fun h' => by have := h4.lt k h'; omega, fun h' => by have := h4.low k h'; omega⟩
end
/-! Codes that are written down. -/
def jQ (x : S43) : List Value := [.int .i64 x.f0, .int .i64 x.f1, .int .i64 x.f2]
theorem lg (w : World) : ∀ (l pre : List S43) (cs : List Value), bJ (k43.K w) 3 pre cs → bJ (k43.K w) 3 (pre ++ l) (cs ++ l.flatMap jQ)
 | [], pre, cs, h => by simpa using h
 | x :: l, pre, cs, h => by
  have := lg w l (pre ++ [x]) (cs ++ jQ x) (h.snoc (k43_mk w x) rfl)
  simpa [List.append_assoc] using this
theorem qR (w : World) (l : List S43) : bJ (k43.K w) 3 l (l.flatMap jQ) := lg w l [] [] (bJ.none _ _)
theorem ins_row {w : World} {g : Nat} {t : TypeId} {l : List S43} (h : w.heap[g]? = some (.cells (l.flatMap jQ).toArray t (0, 0))) (hl : l.length ≤ 1000000) : Kd.C k43 w (some ⟨g, 0, none⟩) l.length l := by
 have hlen : (l.flatMap jQ).length = l.length * 3 := (qR w l).1
 have ho : w.ownsRow 0 t 3 (.slice (some ⟨g, 0, none⟩) l.length l.length) l.length (l.flatMap jQ) := ⟨hlen, .inr ⟨g, l.length, _, rfl, Nat.zero_le _, h, Zd _, by simp only [maxLen]; omega, by simpa using hlen, by rw [← hlen]; exact List.take_length⟩⟩
 obtain ⟨A, c, e, hr⟩ := ib ho (qR w l) rfl
 obtain rfl := (Value.slice.inj e).1
 exact hr
theorem cod_row {w : World} {g : Nat} {t : TypeId} {l : List S46} {cs : List Value} (hr : bJ (k46.K w) 4 l cs) (h : w.heap[g]? = some (.cells cs.toArray t (0, 0))) (hl : l.length ≤ 1000000) : Kd.C k46 w (some ⟨g, 0, none⟩) l.length l := by
 have ho : w.ownsRow 0 t 4 (.slice (some ⟨g, 0, none⟩) l.length l.length) l.length cs := ⟨hr.1, .inr ⟨g, l.length, _, rfl, Nat.zero_le _, h, Zd _, by simp only [maxLen]; omega, by simpa using hr.1, by rw [← hr.1]; exact List.take_length⟩⟩
 obtain ⟨A, c, e, hr⟩ := ib ho hr rfl
 obtain rfl := (Value.slice.inj e).1
 exact hr
theorem Solo.weak {g : Nat} {m : Mc} {B b : Nat} {w0 wb w : World} (S : Solo g m B w0 w) (hb : Below b wb w0) (h : b ≤ B) : Solo g m b wb w := by
 obtain ⟨Rd, o, h1, h2, h3, h4⟩ := S
 exact ⟨Rd, o, h1, h2, fun k hk => Ze h (h3 k hk), hb.trans (h4.mono h)⟩
theorem Solo.low {g : Nat} {m : Mc} {B : Nat} {w0 w : World} (S : Solo g m B w0 w) : Below B w0 w := by
 obtain ⟨_, _, _, _, _, h⟩ := S
 exact h
theorem Solo.on {g : Nat} {m : Mc} {w0 w w' : World} (S : Solo g m w0.heap.size w0 w) (hb : Below w.heap.size w w') : Solo g m w0.heap.size w0 w' := S.below S.low.size hb
def mM (l : List (Int × Int)) : List S38 := l.map fun p => ⟨p.1, p.2⟩
theorem kH (l : List (Int × Int)) : (mM l).length = l.length := by simp [mM]
theorem lI (w : World) : ∀ (l : List (Int × Int)) (pre : List S38) (cs : List Value), bJ (k38.K w) 2 pre cs → bJ (k38.K w) 2 (pre ++ mM l) (cs ++ evs l)
 | [], pre, cs, h => by simpa [mM, evs] using h
 | x :: l, pre, cs, h => by
  have := lI w l (pre ++ [⟨x.1, x.2⟩]) (cs ++ [.int .i64 x.1, .int .i64 x.2]) (h.snoc (k38_mk w ⟨x.1, x.2⟩) rfl)
  simpa [mM, evs, List.append_assoc] using this
theorem uq {w : World} {v : Value} {l : List (Int × Int)} (h : w.ownsRow 0 38 2 v l.length (evs l)) : ∃ A c, v = .slice A (mM l).length c ∧ (mM l).length ≤ c ∧ Kd.C k38 w A (mM l).length (mM l) := by
 have hR : bJ (k38.K w) 2 (mM l) (evs l) := by simpa using lI w l [] [] (bJ.none _ _)
 obtain ⟨A, c, e, hr⟩ := ib h hR (kH l)
 subst e
 rw [kH]
 refine ⟨A, c, rfl, ?_, hr⟩
 rcases h.2 with ⟨e, h0⟩ | ⟨k, cap, cur, e, _, _, hc, _⟩
 ·have := (Value.slice.inj e).2.1; omega
 ·have := (Value.slice.inj e).2.2; omega
theorem same_true (l : List S38) (hl : l.length ≤ 1000000000000000) : ∃ k, bH.f k l l = some true := by
 have loop : ∀ (d i : Nat), i + d = l.length → Ev (fun k => bH.l0 k l l i) true := by
  intro d
  induction d with
  | zero =>
   intro i hi
   obtain rfl : i = l.length := by omega
   refine YE.evs ?_
   simp only [bH.l0, ff (Int.lt_irrefl (l.length : Int)), if_false]; exact Ev.now _
  | succ d ih =>
   intro i hi
   have c1 := tt (show (i : Int) < (l.length : Int) by omega)
   have c2 := tt (show (0 : Int) ≤ (i : Int) by omega)
   have e2 : wrap64 ((i : Int) + 1) = ((i + 1 : Nat) : Int) := by rw [w64 (by omega) (by omega)]; rfl
   have e3 : (!(((fw l i).f0) == ((fw l i).f0)) || (!(((fw l i).f1) == ((fw l i).f1)))) = false := by simp
   refine YE.evs ?_
   simp only [bH.l0, c1, c2, if_true, e3, e2]
   exact ih (i + 1) (by omega)
 obtain ⟨k, hk⟩ := loop l.length 0 (by omega)
 refine ⟨k, ?_⟩
 unfold bH.f
 rw [if_pos rfl]
 exact hk k (Zd _)
theorem nums_true (l : List Int) (hl : l.length ≤ 1000000000000000) : ∃ k, bL.f k l l = some true := by
 have loop : ∀ (d i : Nat), i + d = l.length → Ev (fun k => bL.l0 k l l i) true := by
  intro d
  induction d with
  | zero =>
   intro i hi
   obtain rfl : i = l.length := by omega
   refine YE.evs ?_
   simp only [bL.l0, ff (Int.lt_irrefl (l.length : Int)), if_false]; exact Ev.now _
  | succ d ih =>
   intro i hi
   have c1 := tt (show (i : Int) < (l.length : Int) by omega)
   have c2 := tt (show (0 : Int) ≤ (i : Int) by omega)
   have e2 : wrap64 ((i : Int) + 1) = ((i + 1 : Nat) : Int) := by rw [w64 (by omega) (by omega)]; rfl
   refine YE.evs ?_
   simp only [bL.l0, c1, c2, if_true, e2]
   exact ih (i + 1) (by omega)
 obtain ⟨k, hk⟩ := loop l.length 0 (by omega)
 refine ⟨k, ?_⟩
 unfold bL.f
 rw [if_pos rfl]
 exact hk k (Zd _)
theorem same_evs_calls {W : World} {v1 v2 : Value} (l : List (Int × Int)) (h1 : W.ownsRow 0 38 2 v1 l.length (evs l)) (h2 : W.ownsRow 0 38 2 v2 l.length (evs l)) (hl : l.length ≤ 4398046511104) :
  Calls Tryd.prog 19 #[v1, v2] W fun e w' => e = .returned (.bool true) ∧ Below W.heap.size W w' := by
 obtain ⟨A, c, rfl, hc, hA⟩ := uq h1
 obtain ⟨B, d, rfl, hd, hB⟩ := uq h2
 obtain ⟨k, hk⟩ := same_true (mM l) (by rw [kH]; omega)
 refine (bH.calls k A c (mM l) B d (mM l) true W hA hc hB hd hk).mono ?_
 rintro e w' ⟨rfl, n, rfl⟩
 exact ⟨rfl, aW (Below.refl _ _) n⟩
theorem same_nums_calls {W : World} {v1 v2 : Value} (l : List Int) (h1 : W.ownsRow 0 2 1 v1 l.length (ints l)) (h2 : W.ownsRow 0 2 1 v2 l.length (ints l)) (hl : l.length ≤ 1000000) :
  Calls Tryd.prog 42 #[v1, v2] W fun e w' => e = .returned (.bool true) ∧ Below W.heap.size W w' := by
 obtain ⟨A, c, rfl, hc, _, hA⟩ := ko h1
 obtain ⟨B, d, rfl, hd, _, hB⟩ := ko h2
 obtain ⟨k, hk⟩ := nums_true l (by omega)
 refine (bL.calls k A c l B d l true W hA hc hB hd hk).mono ?_
 rintro e w' ⟨rfl, n, rfl⟩
 exact ⟨rfl, aW (Below.refl _ _) n⟩
theorem fvals_at : ∀ {hs : List RHo} {fs : List Fr} {w : World}, je (RFr w) hs fs → ∀ (k : Nat) (f : Fr), fs[k]? = some f → ∃ h, RFr w h f ∧ ∀ j u, (eX h f)[j]? = some u → (gM hs fs)[k * 5 + j]? = some u := by
 intro hs fs w ha
 induction ha with
 | nil => intro k f hk; simp at hk
 | @cons h0 f0 hs fs h1 _ ih =>
  intro k f hk
  cases k with
  | zero =>
   have e : f0 = f := by simpa using hk
   subst e
   refine ⟨h0, h1, fun j u hj => ?_⟩
   show (eX h0 f0 ++ gM hs fs)[0 * 5 + j]? = some u
   rw [List.getElem?_append_left (by have := (List.getElem?_eq_some_iff.1 hj).1; omega), Nat.zero_mul, Nat.zero_add]
   exact hj
  | succ k =>
   obtain ⟨h, h2, h3⟩ := ih k f (by simpa using hk)
   refine ⟨h, h2, fun j u hj => ?_⟩
   show (eX h0 f0 ++ gM hs fs)[(k + 1) * 5 + j]? = some u
   rw [List.getElem?_append_right (by simp [eX]; omega), show (k + 1) * 5 + j - (eX h0 f0).length = k * 5 + j by simp [eX]; omega]
   exact h3 j u hj
section
variable {Rd Rr : Nat → Prop} {w : World} {o : MHo} {m m' : Mc} {ro : RMo}
theorem same_head (H : MOn Rd w o m) (HR : ROn Rr w ro m') (A : Alike m' m) (he : m.events.length ≤ 4398046511104) (hfc : ∀ f ∈ m.frames, f.cells.length ≤ 1000000) (hfn : m.frames.length ≤ 1000) :
  Calls Tryd.prog 23 #[o.ptr, ro.ptr] w fun e w' => e = .returned (.bool true) ∧ Below w.heap.size w w' := by
 obtain ⟨FN, hFN⟩ : ∃ FN, FN = m.frames.length := ⟨_, rfl⟩
 obtain ⟨EN, hEN⟩ : ∃ EN, EN = m.events.length := ⟨_, rfl⟩
 have hfl : m'.frames.length = FN := by have := congrArg List.length A.frames; simp only [List.length_map] at this; rw [this, hFN]
 have hel : m'.events.length = EN := by rw [A.events, hEN]
 obtain ⟨EA, EC, hev, _, _, _, _⟩ := iP HR.ev
 obtain ⟨FA, FC, hfv, _, _, _, _⟩ := iP HR.fr
 rw [hel] at hev
 rw [hfl] at hfv
 have hgr := bF HR.blk
 have fr : ∀ {W : World}, Below w.heap.size w W → W.cell? ⟨ro.g, 11, none⟩ = some (.bool m.ended) ∧ W.cell? ⟨ro.g, 5, none⟩ = some (.int .i64 m.ticks) ∧ W.cell? ⟨ro.g, 6, none⟩ = some (.int .i64 m.tick.1) ∧ W.cell? ⟨ro.g, 7, none⟩ = some (.int .i64 m.tick.2.1) ∧
   W.cell? ⟨ro.g, 8, none⟩ = some (.int .i64 m.tick.2.2.1) ∧ W.cell? ⟨ro.g, 9, none⟩ = some (.int .i64 m.tick.2.2.2) ∧ W.cell? ⟨ro.g, 10, none⟩ = some (.slice EA EN EC) ∧ W.cell? ⟨ro.g, 1, none⟩ = some (.slice FA FN FC) := by
  intro W hb
  have hB := (HR.below hb).blk
  rw [← A.ended, ← A.ticks, ← A.tick, ← hev, ← hfv]
  exact ⟨ae hB 11, ae hB 5, ae hB 6, ae hB 7, ae hB 8, ae hB 9, ae hB 10, ae hB 1⟩
 have HFR := aa.mk (@fr)
 have hTK : aa (Calls Tryd.prog 29 #[.pointer (some ⟨o.g, 0, none⟩)] w _) := ⟨tick_on H⟩
 have HH := aa.mk H; have HHR := aa.mk HR; have HAL := aa.mk A; have HEN := aa.mk hEN; have HFN := aa.mk hFN; have HEV := aa.mk hev; have HFV := aa.mk hfv; have HEL := aa.mk hel; have HFL := aa.mk hfl; have HHE := aa.mk he; have HFC := aa.mk hfc; have HFNL := aa.mk hfn; have HGR := aa.mk hgr
 clear H HR A he hfc hfn hFN hEN hfl hel hev hfv fr hgr
 have hu52 := Tryd.underlying52
 show Calls Tryd.prog 23 #[.pointer (some ⟨o.g, 0, none⟩), .pointer (some ⟨ro.g, 0, none⟩)] w _
 go_enter Tryd.func23, Tryd.ntmps23
 go_wp2_with (first
  | ((with_reducible refine ah (f := 29) rfl ?_); refine gl 18 Tryd.func29 #[.pointer (some ⟨o.g, 0, none⟩)] ?_; refine hTK.out.mono ?_; rintro e w1 ⟨rfl, hb⟩; have HB1 := aa.mk hb; clear hb; refine ⟨_, rfl, ?_⟩))
 obtain ⟨gb, hgb⟩ : ∃ gb, gb = w1.heap.size := ⟨_, rfl⟩
 obtain ⟨w2, hw2⟩ : ∃ w2, w2 = w1.alloc (.cells #[.int .i64 m.tick.1, .int .i64 m.tick.2.1, .int .i64 m.tick.2.2.1, .int .i64 m.tick.2.2.2] 52) := ⟨_, rfl⟩
 have hb2 : w2.heap[gb]? = some (.cells #[.int .i64 m.tick.1, .int .i64 m.tick.2.1, .int .i64 m.tick.2.2.1, .int .i64 m.tick.2.2.2] 52 (0, 0)) := by rw [hw2, hgb]; exact bW w1 _
 have hB2 : Below w.heap.size w w2 := by rw [hw2]; exact bN HB1.out _
 rw [← hgb, ← hw2]
 have mks : ∀ {W : World}, Below w2.heap.size w2 W → (W.cell? ⟨ro.g, 11, none⟩ = some (.bool m.ended) ∧ W.cell? ⟨ro.g, 5, none⟩ = some (.int .i64 m.ticks) ∧ W.cell? ⟨ro.g, 6, none⟩ = some (.int .i64 m.tick.1) ∧ W.cell? ⟨ro.g, 7, none⟩ = some (.int .i64 m.tick.2.1) ∧ W.cell? ⟨ro.g, 8, none⟩ = some (.int .i64 m.tick.2.2.1) ∧ W.cell? ⟨ro.g, 9, none⟩ = some (.int .i64 m.tick.2.2.2) ∧ W.cell? ⟨ro.g, 10, none⟩ = some (.slice EA EN EC) ∧ W.cell? ⟨ro.g, 1, none⟩ = some (.slice FA FN FC) ∧ W.cell? ⟨gb, 0, none⟩ = some (.int .i64 m.tick.1) ∧ W.cell? ⟨gb, 1, none⟩ = some (.int .i64 m.tick.2.1) ∧ W.cell? ⟨gb, 2, none⟩ = some (.int .i64 m.tick.2.2.1) ∧ W.cell? ⟨gb, 3, none⟩ = some (.int .i64 m.tick.2.2.2)) := by
  intro W hb
  obtain ⟨a1, a2, a3, a4, a5, a6, a7, a8⟩ := HFR.out (hB2.trans (hb.mono hB2.size))
  have hg := (hb.block gb (bF hb2)).trans hb2
  exact ⟨a1, a2, a3, a4, a5, a6, a7, a8, ae hg 0, ae hg 1, ae hg 2, ae hg 3⟩
 have MKS := aa.mk (@mks)
 have HBW := aa.mk hB2
 have HC30 : aa (∀ {W : World}, Below w2.heap.size w2 W → Calls Tryd.prog 30 #[.pointer (some ⟨o.g, 0, none⟩)] W (fun e w' => e = .returned (.bool m.ended) ∧ Below W.heap.size W w')) := ⟨fun hb => nQ (HH.out.below (HBW.out.trans (hb.mono HBW.out.size)))⟩
 have HC18 : aa (∀ {W : World}, Below w2.heap.size w2 W → Calls Tryd.prog 18 #[.pointer (some ⟨o.g, 0, none⟩)] W (fun e w' => e = .returned (.int .i64 m.ticks) ∧ Below W.heap.size W w')) := ⟨fun hb => rM (HH.out.below (HBW.out.trans (hb.mono HBW.out.size)))⟩
 have HC22 : aa (∀ {W : World}, Below w2.heap.size w2 W → Calls Tryd.prog 22 #[.pointer (some ⟨o.g, 0, none⟩)] W (fun e w' => e = .returned (.int .i64 (EN : Nat)) ∧ Below W.heap.size W w')) := ⟨fun hb => by rw [HEN.out]; exact rD (HH.out.below (HBW.out.trans (hb.mono HBW.out.size)))⟩
 have HC16 : aa (∀ {W : World}, Below w2.heap.size w2 W → Calls Tryd.prog 16 #[.pointer (some ⟨o.g, 0, none⟩)] W (fun e w' => ∃ v1, e = .returned v1 ∧ w'.ownsRow 0 38 2 v1 m.events.length (evs m.events) ∧ (∀ k, v1.ownBlock = some k → W.heap.size ≤ k) ∧ Below W.heap.size W w')) := ⟨fun hb => mh (HH.out.below (HBW.out.trans (hb.mono HBW.out.size))) HHE.out⟩
 have HC20 : aa (∀ {W : World}, Below w2.heap.size w2 W → Calls Tryd.prog 20 #[.pointer (some ⟨o.g, 0, none⟩)] W (fun e w' => e = .returned (.int .i64 (FN : Nat)) ∧ Below W.heap.size W w')) := ⟨fun hb => by rw [HFN.out]; exact qh (HH.out.below (HBW.out.trans (hb.mono HBW.out.size)))⟩
 have HREV : aa (∀ {W : World}, Below w2.heap.size w2 W → W.ownsRow 0 38 2 (.slice EA EN EC) m.events.length (evs m.events)) := ⟨fun {W} hb => by
  have h := (HHR.out.below (HBW.out.trans (hb.mono HBW.out.size))).ev
  rw [HEV.out, HAL.out.events] at h
  exact h⟩
 have HB2 : aa (Below w2.heap.size w2 w2.drew) := ⟨iF (Below.refl _ _)⟩
 have S2 := mks (Below.refl _ w2)
 have S2d := mks (iF (Below.refl _ w2))
 have q0 : (m.ended != m.ended) = false := by cases m.ended <;> rfl
 have q1 : (m.ticks != m.ticks) = false := by simp
 have q2 : (decide (0 < m.ticks) != decide (0 < m.ticks)) = false := by cases decide (0 < m.ticks) <;> rfl
 clear mks hB2 hw2 hgb hb2
 go_region_held3 (fun W => W.cell? ⟨ro.g, 11, none⟩ = some (.bool m.ended) ∧ W.cell? ⟨ro.g, 5, none⟩ = some (.int .i64 m.ticks) ∧ W.cell? ⟨ro.g, 6, none⟩ = some (.int .i64 m.tick.1) ∧ W.cell? ⟨ro.g, 7, none⟩ = some (.int .i64 m.tick.2.1) ∧ W.cell? ⟨ro.g, 8, none⟩ = some (.int .i64 m.tick.2.2.1) ∧ W.cell? ⟨ro.g, 9, none⟩ = some (.int .i64 m.tick.2.2.2) ∧ W.cell? ⟨ro.g, 10, none⟩ = some (.slice EA EN EC) ∧ W.cell? ⟨ro.g, 1, none⟩ = some (.slice FA FN FC) ∧ W.cell? ⟨gb, 0, none⟩ = some (.int .i64 m.tick.1) ∧ W.cell? ⟨gb, 1, none⟩ = some (.int .i64 m.tick.2.1) ∧ W.cell? ⟨gb, 2, none⟩ = some (.int .i64 m.tick.2.2.1) ∧ W.cell? ⟨gb, 3, none⟩ = some (.int .i64 m.tick.2.2.2)) (first | exact S2d | exact S2 | assumption) (first | ((with_reducible refine (HC30.out HB2.out).mono ?_); rintro e w3 ⟨rfl, hb⟩; have HB3 := aa.mk (HB2.out.trans (hb.mono HB2.out.size)); have S3 := MKS.out HB3.out; clear hb) | ((with_reducible refine (HC18.out HB3.out).mono ?_); rintro e w4 ⟨rfl, hb⟩; have HB4 := aa.mk (HB3.out.trans (hb.mono HB3.out.size)); have S4 := MKS.out HB4.out; clear hb) | ((with_reducible refine (HC22.out HB4.out).mono ?_); rintro e w5 ⟨rfl, hb⟩; have HB5 := aa.mk (HB4.out.trans (hb.mono HB4.out.size)); have S5 := MKS.out HB5.out; clear hb) | ((with_reducible refine (HC16.out HB5.out).mono ?_); rintro e w6 ⟨v6, rfl, ho6, hv6, hb⟩; have HB6 := aa.mk (HB5.out.trans (hb.mono HB5.out.size)); have S6 := MKS.out HB6.out; obtain ⟨vA, vn, vC, he6⟩ : ∃ A n c, v6 = .slice A n c := (by rcases ho6.2 with ⟨h, _⟩ | ⟨_, _, _, h, _⟩ <;> exact ⟨_, _, _, h⟩); subst he6; have HO6 := aa.mk ho6; clear ho6 hv6; clear hb) | ((with_reducible refine (same_evs_calls m.events HO6.out (HREV.out HB6.out) HHE.out).mono ?_); rintro e w7 ⟨rfl, hb⟩; have HB7 := aa.mk (HB6.out.trans (hb.mono HB6.out.size)); have S7 := MKS.out HB7.out; clear hb) | ((with_reducible refine (HC20.out HB7.out).mono ?_); rintro e w8 ⟨rfl, hb⟩; have HB8 := aa.mk (HB7.out.trans (hb.mono HB7.out.size)); have S8 := MKS.out HB8.out; clear hb))
 obtain ⟨wX, hwX⟩ : ∃ wX, wX = w8 := ⟨_, rfl⟩
 have HBX : aa (Below w2.heap.size w2 w8) := HB8
 clear S2 S2d S3 S4 S5 S6 S7 S8 q0 q1 q2 hwX
 go_wp2
 go_loopg [7] FN (fun gk v7 W => ∃ x : Nat, v7 = .int .i64 (x : Int) ∧ aa (gk + x = FN) ∧ aa (Below w2.heap.size w2 W))
 case atStart => exact ⟨0, rfl, ⟨by omega⟩, HBX⟩
 case round =>
  obtain ⟨x, rfl, A1, A2⟩ := hrel
  have c1 : wr.cell? ⟨ro.g, 1, none⟩ = some (.slice FA FN FC) := (MKS.out A2.out).2.2.2.2.2.2.2.1
  by_cases hx : x < FN
  ·obtain ⟨gk1, hgk⟩ : ∃ g, gk = g + 1 := ⟨gk - 1, by have := A1.out; omega⟩
   subst hgk
   have g1 : decide ((x : Int) < (FN : Int)) = true := Za (by omega)
   have g2 : decide (x < FN) = true := Za hx
   have q0 : (0 : Int) ≤ (x : Int) := by omega
   have q1 : (x : Int) < (FN : Int) := by omega
   have hxl : x < m.frames.length := by rw [← HFN.out]; exact hx
   obtain ⟨f, hf⟩ : ∃ f, m.frames[x]? = some f := ⟨_, Zi hxl⟩
   obtain ⟨f', hf', hft⟩ : ∃ f', m'.frames[x]? = some f' ∧ f'.told = f.told := by
    have h1 : (m'.frames.map Fr.told)[x]? = (m.frames.map Fr.told)[x]? := by rw [HAL.out.frames]
    rw [List.getElem?_map, List.getElem?_map, hf] at h1
    rcases h2 : m'.frames[x]? with _ | f'
    ·rw [h2] at h1; cases h1
    ·rw [h2] at h1; exact ⟨f', rfl, Zg h1⟩
   obtain ⟨t1, t2, t3⟩ : f'.pr = f.pr ∧ f'.mark = f.mark ∧ f'.cells = f.cells := by simp only [Fr.told, Zm] at hft; exact hft
   have hfc := HFC.out f (List.mem_of_getElem? hf)
   obtain ⟨fb, hFA⟩ : ∃ fb, FA = some ⟨fb, 0, none⟩ := by
    have h1 := HHR.out.fr
    rw [HFV.out, HFL.out] at h1
    rcases h1.2 with ⟨_, h0⟩ | ⟨fg, _, _, h, _⟩
    ·omega
    ·exact ⟨fg, (Value.slice.inj h).1⟩
   subst hFA
   obtain ⟨K, hK⟩ : ∃ K, K = x * 5 := ⟨_, rfl⟩
   have HC27 : aa (Calls Tryd.prog 27 #[.pointer (some ⟨o.g, 0, none⟩), .int .i64 x] wr _) := ⟨rE (HH.out.below (HBW.out.trans (A2.out.mono HBW.out.size))) x f hf hfc⟩
   have fcl : ∀ {W : World}, Below w2.heap.size w2 W → ∃ h : RHo, RFr W h f' ∧ W.cell? ⟨fb, x * 5, none⟩ = some (.int .i64 f.pr) ∧ W.cell? ⟨fb, x * 5 + 2, none⟩ = some (.int .i64 f.mark) ∧ W.cell? ⟨fb, x * 5 + 3, none⟩ = some h.vc := by
    intro W hb
    have h1 := HHR.out.below (HBW.out.trans (hb.mono HBW.out.size))
    obtain ⟨h, h2, h3⟩ := fvals_at h1.frs x f' hf'
    have h4 := h1.fr
    rw [HFV.out, HFL.out] at h4
    refine ⟨h, h2, ?_, ?_, ?_⟩
    ·rw [← t1]; exact (mq h4 (h3 0 _ rfl)).1
    ·rw [← t2]; exact (mq h4 (h3 2 _ rfl)).1
    ·exact (mq h4 (h3 3 _ rfl)).1
   have FCL := aa.mk (@fcl); have HT3 := aa.mk t3; have HFCL := aa.mk hfc
   have ex : IntKind.i64.wrap ((x : Int) + 1) = (x : Int) + 1 := IntWalk.i64_in _ (by have := HFNL.out; have := HFN.out; omega)
   have n1 : (f.pr != f.pr) = false := by simp
   have n2 : (f.mark != f.mark) = false := by simp
   clear fcl t1 t2 t3 hft hf hf' hfc hxl hK
   go_wp2_with (first
    | ((with_reducible refine ah (f := 27) rfl ?_); refine gl 96 Tryd.func27 #[.pointer (some ⟨o.g, 0, none⟩), .int .i64 x] ?_; refine HC27.out.mono ?_; rintro e w9 ⟨v9, rfl, ho9, hv9, hb9⟩; have hb9' := A2.out.trans (hb9.mono A2.out.size); obtain ⟨hh, hRF, k0, k2, k3⟩ := FCL.out hb9'; have k1 : w9.cell? ⟨ro.g, 1, none⟩ = some (.slice (some ⟨fb, 0, none⟩) FN FC) := (MKS.out hb9').2.2.2.2.2.2.2.1; obtain ⟨vA9, c9, hv9e, _, _, _⟩ := ko ho9; subst hv9e; obtain ⟨vA8, c8, hvc8, _, _, _⟩ := ko hRF.cs; rw [hvc8] at k3; have HRC : aa (w9.ownsRow 0 2 1 (.slice vA8 f'.cells.length c8) f.cells.length (ints f.cells)) := ⟨(by rw [← HT3.out, ← hvc8]; exact hRF.cs)⟩; have HO9 := aa.mk ho9; have HB9 := aa.mk hb9'; obtain ⟨CL, hCL⟩ : ∃ CL, CL = f.cells.length := ⟨_, rfl⟩; obtain ⟨CL2, hCL2⟩ : ∃ CL2, CL2 = f'.cells.length := ⟨_, rfl⟩; rw [← hCL] at HO9 HRC ⊢; rw [← hCL2] at HRC k3; have HC42 : aa (Calls Tryd.prog 42 #[.slice vA9 CL c9, .slice vA8 CL2 c8] w9 _) := ⟨same_nums_calls f.cells (by have h := HO9.out; rw [hCL] at h ⊢; exact h) (by have h := HRC.out; rw [hCL] at h; exact h) HFCL.out⟩; clear ho9 hv9 hb9 hb9' hRF hvc8 hCL hCL2 HO9 HRC; refine ⟨_, rfl, ?_⟩)
    | ((with_reducible refine ah (f := 42) rfl ?_); (try (refine aH (by rfl) ?_; dsimp only)); refine gl 137 Tryd.func42 #[.slice vA9 CL c9, .slice vA8 CL2 c8] ?_; refine HC42.out.mono ?_; rintro e w10 ⟨rfl, hb10⟩; have HB10 := aa.mk (HB9.out.trans (hb10.mono HB9.out.size)); clear hb10; refine ⟨_, rfl, ?_⟩))
   go_roundg gk1
   case measure => omega
   case rel => exact ⟨x + 1, by first | rfl | go_num, ⟨by have := A1.out; omega⟩, HB10⟩
  ·have g1 : decide ((x : Int) < (FN : Int)) = false := Zb (by omega)
   have g2 : decide (x < FN) = false := Zb hx
   have HC27 : aa (Calls Tryd.prog 27 #[.pointer (some ⟨o.g, 0, none⟩), .int .i64 (FN : Nat)] wr _) := ⟨pR (HH.out.below (HBW.out.trans (A2.out.mono HBW.out.size))) (FN : Nat) (.inr (by rw [HFN.out]; exact Int.le_refl _))⟩
   go_wp2_with ((with_reducible refine ah (f := 27) rfl ?_); refine gl 147 Tryd.func27 #[.pointer (some ⟨o.g, 0, none⟩), .int .i64 (FN : Nat)] ?_; refine HC27.out.mono ?_; rintro e w9 ⟨rfl, hb9⟩; have HB9 := aa.mk (A2.out.trans (hb9.mono A2.out.size)); clear hb9; refine ⟨_, rfl, ?_⟩)
   go_ret
   exact ⟨rfl, HBW.out.trans (HB9.out.mono HBW.out.size)⟩
end
section
variable (w : World) (A0 A2 : Option Addr) (c0 c2 : Nat) (l : List S46) (input : List Int) (main fuel : Int)
def uh (R0 : Nat → Prop) (w : World) (l : List S46) (input : List Int) (main fuel : Int) (e : Ending) (w' : World) : Prop :=
 ∃ Rr ro, e = .returned (.tuple #[ro.ptr, .int .i64 0]) ∧ ROn Rr w' ro ((mc0 l input fuel).dZ main []) ∧ (∀ k ∈ ro.own, w.heap.size ≤ k) ∧ (∀ k, Rr k → R0 k ∨ w.heap.size ≤ k) ∧ Below w.heap.size w w'
theorem fresh_on {w : World} {A0 : Option Addr} {c0 : Nat} {l : List S46} {input : List Int} {fuel : Int} {R0 : Nat → Prop} (hF : Kd.F k46 w R0 A0 l.length l) (hc : l.length ≤ c0) (hR0 : ∀ k, R0 k → k < w.heap.size) {w1 w2 : World} (hb : Below w.heap.size w w2) (hsz : w.heap.size ≤ w1.heap.size) {v2 : Value} (ho : Kd.R (Kd.int .i64) 2 w2 w1.heap.size (fun _ => True) v2 ([] ++ input)) :
  ROn (fun k => R0 k ∨ v2.ownBlock = some k) (w2.alloc (.cells #[.slice A0 l.length c0, .slice none 0 0, v2, .int .i64 0, .int .i64 fuel, .int .i64 0, .int .i64 0, .int .i64 0, .int .i64 0, .int .i64 0, .slice none 0 0, .bool false, .int .i64 0] 54)) ⟨w2.heap.size, .slice A0 l.length c0, .slice none 0 0, v2, .slice none 0 0, 0, []⟩ (mc0 l input fuel) := by
 rw [List.nil_append] at ho
 have hri := mG ho
 have hs := hb.size
 have hown : RMo.own ⟨w2.heap.size, .slice A0 l.length c0, .slice none 0 0, v2, .slice none 0 0, 0, []⟩ = [w2.heap.size] := rfl
 refine ⟨bW _ _, ⟨rfl, .inl ⟨rfl, rfl⟩⟩, ⟨rfl, .inl ⟨rfl, rfl⟩⟩, .nil, by rw [hown]; simp, fun k hk => ?_, fun k hk => ?_, ?_, ?_⟩
 ·rw [hown] at hk
  obtain rfl : k = w2.heap.size := by simpa using hk
  rintro (h | h)
  ·have := hR0 _ h; omega
  ·have := (hri.1.lt _ h).2; omega
 ·have e : (w2.alloc (.cells #[.slice A0 l.length c0, .slice none 0 0, v2, .int .i64 0, .int .i64 fuel, .int .i64 0, .int .i64 0, .int .i64 0, .int .i64 0, .int .i64 0, .slice none 0 0, .bool false, .int .i64 0] 54)).heap.size = w2.heap.size + 1 := by simp
  rw [e]
  rcases hk with h | h
  ·have := hR0 _ h; omega
  ·have := (hri.1.lt _ h).2; omega
 ·exact Kd.V_mk hc (Kd.uA (Kd.qx hF (bN hb _)) (fun k h => .inl h))
 ·exact Kd.V_mono (Kd.R_V (Kd.bQ (Kd.R_tight rfl ho) _)) (fun k h => .inr h.symm)
theorem mK {R0 : Nat → Prop} (hR0 : ∀ k, R0 k → k < w.heap.size) (hF : Kd.F k46 w R0 A0 l.length l) (hc : l.length ≤ c0) (k : Nat) (h : aD.f k l main = some true) (hin : Kd.C (Kd.int .i64) w A2 input.length input) (hc2 : input.length ≤ c2) (hf0 : 0 ≤ fuel) (hf1 : fuel ≤ 1048576) (hi1 : input.length ≤ 1000)
  (m0 : 0 ≤ main) (m1 : main < l.length) (hcells : 0 ≤ (au l main).f1 ∧ (au l main).f1 ≤ 65536) :
  Calls Tryd.prog 26 #[.slice A0 l.length c0, .int .i64 main, .slice A2 input.length c2, .int .i64 fuel] w (uh R0 w l input main fuel) := by
 have hl : Kd.C k46 w A0 l.length l := Kd.oL hF
 have e1 : decide (fuel < 0) = false := Zb (by omega)
 have e2 : decide (1048576 < fuel) = false := Zb (by omega)
 have e3 : decide (1000 < (input.length : Int)) = false := Zb (by omega)
 have HO : dR.f input = some ([] ++ input) := by unfold dR.f; rw [if_pos (by simp; omega)]
 have HL := aa.mk hl; have H := aa.mk h; have HC := aa.mk hc; have HIN := aa.mk hin; have HCE := aa.mk hcells; have HO := aa.mk HO; have HC2 := aa.mk hc2; have HF := aa.mk hF; have HR0 := aa.mk hR0
 clear hl h hc hin hcells hc2 hF hR0
 go_enter Tryd.func26, Tryd.ntmps26
 go_wp2_with (first
  | ((with_reducible refine ah (f := 46) rfl ?_); refine gl 13 Tryd.func46 #[.slice A0 l.length c0, .int .i64 main] ?_; refine (aD.calls k A0 c0 l main true w HL.out HC.out H.out).mono ?_; rintro e w1 ⟨rfl, hb⟩; have HB := aa.mk hb; clear hb; refine ⟨_, rfl, ?_⟩)
  | ((with_reducible refine ah (f := 47) rfl ?_); refine gl 28 Tryd.func47 #[.slice A2 input.length c2] ?_; refine (dR.calls A2 c2 input _ _ (Kd.dO HIN.out HB.out) HC2.out HO.out).mono ?_; rintro e w2 ⟨v2, rfl, ho, hb⟩; obtain ⟨vA, vn, vC, rfl⟩ : ∃ A n c, v2 = .slice A n c := (by obtain ⟨A, c, e⟩ := Kd.dh ho; exact ⟨_, _, _, e⟩); have HOW := aa.mk ho; clear ho; have HB2 := aa.mk (HB.out.trans (hb.mono HB.out.size)); have HSZ := aa.mk HB.out.size; clear hb; refine ⟨_, rfl, ?_⟩)
  | ((with_reducible refine ah (f := 48) rfl ?_); refine gl 34 Tryd.func48 #[.pointer (some ⟨w2.heap.size, 0, none⟩), .int .i64 main, .slice none 0 0] ?_; have HRO : aa (ROn (fun k => R0 k ∨ (Value.slice vA vn vC).ownBlock = some k) (w2.alloc (.cells #[.slice A0 l.length c0, .slice none 0 0, .slice vA vn vC, .int .i64 0, .int .i64 fuel, .int .i64 0, .int .i64 0, .int .i64 0, .int .i64 0, .int .i64 0, .slice none 0 0, .bool false, .int .i64 0] 54)) ⟨w2.heap.size, .slice A0 l.length c0, .slice none 0 0, .slice vA vn vC, .slice none 0 0, 0, []⟩ (mc0 l input fuel)) := ⟨fresh_on HF.out HC.out HR0.out HB2.out HSZ.out HOW.out⟩; refine (pG HRO.out main m0 m1 (au l main).f1.toNat (by show (au l main).f1 = _; have := HCE.out; omega) (by have := HCE.out; omega) (.slice none 0 0) [] ⟨rfl, .inl ⟨rfl, rfl⟩⟩ (Nat.zero_le _) (by show 0 + 1 ≤ 1000; omega)).mono ?_; rintro e w3 ⟨rfl, hA3⟩; have HA3 := aa.mk hA3; clear hA3; refine ⟨_, rfl, ?_⟩))
 go_ret2
 obtain ⟨o', hs, hR, hM⟩ := HA3.out
 have hsz : w.heap.size ≤ w2.heap.size := HB2.out.size
 have hsz1 : (w2.alloc (.cells #[.slice A0 l.length c0, .slice none 0 0, .slice vA vn vC, .int .i64 0, .int .i64 fuel, .int .i64 0, .int .i64 0, .int .i64 0, .int .i64 0, .int .i64 0, .slice none 0 0, .bool false, .int .i64 0] 54)).heap.size = w2.heap.size + 1 := by simp
 refine ⟨_, o', by rw [RMo.ptr, hs.1]; rfl, hR, fun k hk => ?_, fun k hk => ?_, ?_⟩
 ·rcases hs.2 k hk with h1 | h1
  ·have : k = w2.heap.size := by simpa [RMo.own, Value.ownBlock] using h1
   omega
  ·omega
 ·rcases hk with h1 | h1
  ·exact .inl h1
  ·have h2 := (mG HOW.out).2 k h1
   have := HSZ.out
   exact .inr (by omega)
 ·refine (bN HB2.out _).trans (Mod.below (a := w) hM (by omega) (fun k h => ?_))
  have : k = w2.heap.size := by simpa [RMo.own, Value.ownBlock] using h
  omega
end
structure qU (m : Mc) (p : Mc × Bool) : Prop where
 sum : p.1.ticks + p.1.fuel = m.ticks + m.fuel
 ticks : p.1.ticks = m.ticks + (if p.2 = true then 1 else 0)
 goes : p.2 = true → p.1.ended = false
 last : p.1.ended = true → ∃ l x, p.1.events = l ++ [x] ∧ (∀ e ∈ l, e.1 < 3) ∧ 3 ≤ x.1
 evs : p.1.ended = false → ∀ e ∈ p.1.events, e.1 < 3
theorem qU.end_ {m m' : Mc} (k n : Int) (hk : 3 ≤ k) (h1 : m'.ticks = m.ticks) (h2 : m'.fuel = m.fuel) (he : m'.events = m.events) (hv : ∀ e ∈ m.events, e.1 < 3) : qU m (m'.endM k n, false) := by
 refine ⟨by show m'.ticks + m'.fuel = _; omega, by show m'.ticks = _; simp [h1], (fun h => by cases h), fun _ => ⟨m.events, (k, n), by show m'.events ++ [(k, n)] = _; rw [he], hv, hk⟩, fun h => by cases h⟩
theorem qU.on {m m' : Mc} (h1 : m'.ticks = m.ticks) (h2 : m'.fuel = m.fuel) (hd : m'.ended = false) (he : ∀ e ∈ m'.events, e.1 < 3) : qU m (m', false) :=
 ⟨by show m'.ticks + m'.fuel = _; omega, by simp [h1], (fun h => by cases h), (fun h => by rw [show m'.ended = true from h] at hd; cases hd), fun _ => he⟩
theorem tO {l : List (Int × Int)} {k n : Int} (h : ∀ e ∈ l, e.1 < 3) (hk : k < 3) : ∀ e ∈ l ++ [(k, n)], e.1 < 3 := by
 intro e he
 rcases Zn.1 he with h1 | h1
 ·exact h e h1
 ·obtain rfl := List.mem_singleton.1 h1; exact hk
theorem does_fate {m : Mc} (hd : m.ended = false) (hv : ∀ e ∈ m.events, e.1 < 3) (r : List Fr) (f : Fr) (i : S43) : qU m (m.does r f i) := by
 unfold Mc.does
 split
 ·split
  ·exact .end_ 4 4 (by decide) rfl rfl rfl hv
  ·exact .on rfl rfl hd hv
 split
 ·split
  ·exact .end_ 3 0 (by decide) rfl rfl rfl hv
  split
  ·exact .on rfl rfl hd hv
  ·exact .on rfl rfl hd hv
 split
 ·exact .on rfl rfl hd (tO hv (by decide))
 split
 ·split
  ·exact .end_ 4 5 (by decide) rfl rfl rfl hv
  ·exact .on rfl rfl hd (tO hv (by decide))
 split
 ·split
  ·exact .end_ 5 0 (by decide) rfl rfl rfl hv
  ·refine ⟨?_, ?_, fun _ => hd, (fun h => by rw [show m.ended = true from h] at hd; cases hd), fun _ => hv⟩
   ·show m.ticks + 1 + (m.fuel - 1) = _; omega
   ·rfl
 split
 ·exact .on rfl rfl hd hv
 ·exact .end_ 4 _ (by decide) rfl rfl rfl hv
theorem one_fate {m : Mc} (hd : m.ended = false) (hv : ∀ e ∈ m.events, e.1 < 3) : qU m m.one := by
 unfold Mc.one
 cases m.frames.getLast? with
 | none => exact .on rfl rfl hd hv
 | some f => exact does_fate hd hv _ _ _
theorem oK : ∀ (k : Nat) {m : Mc}, m.ended = false → (∀ e ∈ m.events, e.1 < 3) → qU m (m.steps k) ∧ ((m.steps k).2 = false → (m.steps k).1.ended = true)
 | 0, m, hd, hv => ⟨.end_ 5 0 (by decide) rfl rfl rfl hv, fun _ => rfl⟩
 | k + 1, m, hd, hv => by
  have F := one_fate hd hv
  show qU m (if m.one.2 = true then (m.one.1, true) else if m.one.1.ended = true then (m.one.1, false) else Mc.steps k m.one.1) ∧ ((if m.one.2 = true then (m.one.1, true) else if m.one.1.ended = true then (m.one.1, false) else Mc.steps k m.one.1).2 = false → (if m.one.2 = true then (m.one.1, true) else if m.one.1.ended = true then (m.one.1, false) else Mc.steps k m.one.1).1.ended = true)
  by_cases ht : m.one.2 = true
  ·rw [if_pos ht]
   have e : (m.one.1, true) = m.one := by rw [← ht]
   rw [e]
   exact ⟨F, fun h => by rw [ht] at h; cases h⟩
  ·rw [if_neg ht]
   have ht := Zk ht
   have hs := F.ticks
   rw [ht, if_neg (by decide)] at hs
   by_cases hd : m.one.1.ended = true
   ·rw [if_pos hd]
    have e : (m.one.1, false) = m.one := by rw [← ht]
    rw [e]
    exact ⟨F, fun _ => hd⟩
   ·rw [if_neg hd]
    have hd := Zk hd
    obtain ⟨G, g⟩ := oK k hd (F.evs hd)
    exact ⟨⟨G.sum.trans F.sum, by rw [G.ticks]; omega, G.goes, G.last, G.evs⟩, g⟩
structure Told (m : Mc) : Prop where
 last : m.ended = true → ∃ l x, m.events = l ++ [x] ∧ (∀ e ∈ l, e.1 < 3) ∧ 3 ≤ x.1
 evs : m.ended = false → ∀ e ∈ m.events, e.1 < 3
theorem pE {m : Mc} (T : Told m) : Told m.step.1 ∧ m.step.1.ticks + m.step.1.fuel = m.ticks + m.fuel ∧ m.step.1.ticks = m.ticks + (if m.step.2 = true then 1 else 0) ∧ (m.step.2 = false → m.step.1.ended = true) := by
 unfold Mc.step
 by_cases he : m.ended = true
 ·rw [if_pos he]
  exact ⟨T, rfl, by simp, fun _ => he⟩
 ·rw [if_neg he]
  have he := Zk he
  obtain ⟨F, h⟩ := oK 1048576 he (T.evs he)
  exact ⟨⟨F.last, F.evs⟩, F.sum, F.ticks, h⟩
theorem told_new (l : List S46) (input : List Int) (main fuel : Int) : Told ((mc0 l input fuel).dZ main []) :=
 ⟨(fun h => by cases h), fun _ e he => by cases he⟩
theorem sw : Kd.Heap k46 := by
 unfold k46
 repeat (first | apply Kd.heap_iso | apply Kd.heap_pair | apply Kd.heap_slice | apply Kd.heap_int | apply Kd.heap_bool | unfold k43)
def iJ (g : Nat) (m : Mc) (gr : Nat) (mr : Mc) (B : Nat) (w0 w : World) : Prop := ∃ Rd o Rr ro, o.g = g ∧ ro.g = gr ∧ MOn Rd w o m ∧ ROn Rr w ro mr ∧ (∀ k ∈ o.own, B ≤ k) ∧ (∀ k ∈ ro.own, B ≤ k) ∧ (∀ k ∈ o.own, k ∉ ro.own ∧ ¬ Rr k) ∧ (∀ k ∈ ro.own, ¬ Rd k) ∧ Below B w0 w
section
variable {g gr : Nat} {m mr : Mc} {B : Nat} {w0 w w' : World}
theorem iJ.low (P : iJ g m gr mr B w0 w) : Below B w0 w := by
 obtain ⟨_, _, _, _, _, _, _, _, _, _, _, _, h⟩ := P; exact h
theorem iJ.on (P : iJ g m gr mr B w0 w) (hB : B ≤ w0.heap.size) (hb : Below w.heap.size w w') : iJ g m gr mr B w0 w' := by
 obtain ⟨Rd, o, Rr, ro, h1, h2, H, HR, h3, h4, h5, h6, h7⟩ := P
 exact ⟨Rd, o, Rr, ro, h1, h2, H.below hb, HR.below hb, h3, h4, h5, h6, h7.trans (hb.mono (Ze hB h7.size))⟩
theorem iJ.step (P : iJ g m gr mr B w0 w) (F : Fit m) (hB : B ≤ w0.heap.size) : Calls Tryd.prog 21 #[.pointer (some ⟨g, 0, none⟩)] w (fun e w' => e = .returned (.bool m.step.2) ∧ iJ g m.step.1 gr mr B w0 w') := by
 obtain ⟨Rd, o, Rr, ro, rfl, h2, H, HR, h3, h4, h5, h6, h7⟩ := P
 refine (nL H F).mono ?_
 rintro e w' ⟨rfl, o', hs, hM, hm⟩
 have hsz := h7.size
 refine ⟨rfl, Rd, o', Rr, ro, hs.1, h2, hM, HR.mod hm (fun k hk hko => hk.elim (fun h => (h5 k hko).1 h) (fun h => (h5 k hko).2 h)), fun k hk => (hs.2 k hk).elim (h3 k) (fun h => by omega), h4, fun k hk => ?_, h6, h7.trans (Mod.below (a := w) hm (by omega) h3)⟩
 rcases hs.2 k hk with h | h
 ·exact h5 k h
 ·exact ⟨fun h' => by have := HR.lt k h'; omega, fun h' => by have := HR.low k h'; omega⟩
theorem iJ.rstep (P : iJ g m gr mr B w0 w) (F : Fit mr) (R : Rng mr) (he : mr.ended = false) (hB : B ≤ w0.heap.size) :
  Calls Tryd.prog 24 #[.pointer (some ⟨gr, 0, none⟩), .int .i64 1048576] w (fun e w' => e = .returned (.bool mr.step.2) ∧ ∃ mr', Sim mr' mr.step.1 ∧ iJ g m gr mr' B w0 w') := by
 obtain ⟨Rd, o, Rr, ro, h1, rfl, H, HR, h3, h4, h5, h6, h7⟩ := P
 refine (rstep_on HR F R he).mono ?_
 rintro e w' ⟨rfl, mr', hsim, ro', hs, hR, hm⟩
 have hsz := h7.size
 refine ⟨rfl, mr', hsim, Rd, o, Rr, ro', h1, hs.1, H.mod hm (fun k hk hko => hk.elim (fun h => (h5 k h).1 hko) (fun h => h6 k hko h)), hR, h3, fun k hk => (hs.2 k hk).elim (h4 k) (fun h => by omega), fun k hk => ⟨fun h' => ?_, (h5 k hk).2⟩, fun k hk h' => ?_, h7.trans (Mod.below (a := w) hm (by omega) h4)⟩
 ·rcases hs.2 k h' with h | h
  ·exact (h5 k hk).1 h
  ·have := H.lt k hk; omega
 ·rcases hs.2 k hk with h | h
  ·exact h6 k h h'
  ·have := H.low k h'; omega
structure Small (m : Mc) : Prop where
 evs : m.events.length ≤ 4398046511104
 cells : ∀ f ∈ m.frames, f.cells.length ≤ 1000000
 frames : m.frames.length ≤ 1000
theorem iJ.same (P : iJ g m gr mr B w0 w) (A : Alike mr m) (S : Small m) (hB : B ≤ w0.heap.size) :
  Calls Tryd.prog 23 #[.pointer (some ⟨g, 0, none⟩), .pointer (some ⟨gr, 0, none⟩)] w (fun e w' => e = .returned (.bool true) ∧ iJ g m gr mr B w0 w') := by
 have P0 := P
 obtain ⟨Rd, o, Rr, ro, rfl, rfl, H, HR, h3, h4, h5, h6, h7⟩ := P
 refine (same_head H HR A S.evs S.cells S.frames).mono ?_
 rintro e w' ⟨rfl, hb⟩
 exact ⟨rfl, P0.on hB hb⟩
theorem iJ.ended (P : iJ g m gr mr B w0 w) : w.cell? ⟨gr, 11, none⟩ = some (.bool mr.ended) := by
 obtain ⟨Rd, o, Rr, ro, rfl, rfl, H, HR, h3, h4, h5, h6, h7⟩ := P
 exact ae HR.blk 11
theorem Solo.pair {w1 : World} {l : List S46} {input : List Int} {main fuel : Int} {w2 : World} {e : Ending} (S : Solo g m w0.heap.size w0 w1) (h : uh (fun k => k < w0.heap.size) w1 l input main fuel e w2) :
  ∃ gr, e = .returned (.tuple #[.pointer (some ⟨gr, 0, none⟩), .int .i64 0]) ∧ iJ g m gr ((mc0 l input fuel).dZ main []) w0.heap.size w0 w2 := by
 obtain ⟨Rd, o, rfl, H, h3, h7⟩ := S
 obtain ⟨Rr, ro, rfl, HR, h4, h5, hb⟩ := h
 have hsz := h7.size
 refine ⟨ro.g, rfl, Rd, o, Rr, ro, rfl, rfl, H.below hb, HR, h3, fun k hk => Ze hsz (h4 k hk), fun k hk => ⟨fun h' => ?_, fun h' => ?_⟩, fun k hk h' => ?_, h7.trans (hb.mono hsz)⟩
 ·have := H.lt k hk; have := h4 k h'; omega
 ·have := H.lt k hk; have := h3 k hk; rcases h5 k h' with q | q <;> omega
 ·have := h4 k hk; have := H.low k h'; omega
end
def SoloR (g : Nat) (m : Mc) (B : Nat) (w0 w : World) : Prop := ∃ Rd o, o.g = g ∧ MOn Rd w o m ∧ (∀ k, Rd k ∨ k ∈ o.own → B ≤ k) ∧ Below B w0 w
section
variable {g : Nat} {m : Mc} {b B : Nat} {w0 wb w w' : World}
theorem SoloR.weak (S : SoloR g m B w0 w) (hb : Below b wb w0) (h : b ≤ B) : SoloR g m b wb w := by
 obtain ⟨Rd, o, h1, h2, h3, h4⟩ := S
 exact ⟨Rd, o, h1, h2, fun k hk => Ze h (h3 k hk), hb.trans (h4.mono h)⟩
theorem SoloR.low (S : SoloR g m B w0 w) : Below B w0 w := by
 obtain ⟨_, _, _, _, _, h⟩ := S
 exact h
theorem SoloR.on (S : SoloR g m w0.heap.size w0 w) (hb : Below w.heap.size w w') : SoloR g m w0.heap.size w0 w' := by
 obtain ⟨Rd, o, hg, hM, hl, hw⟩ := S
 exact ⟨Rd, o, hg, hM.below hb, hl, hw.trans (hb.mono hw.size)⟩
def Twin (b B g : Nat) (m : Mc) (gr : Nat) (mr : Mc) (w : World) : Prop := ∃ Rd o Rr ro, o.g = g ∧ ro.g = gr ∧ MOn Rd w o m ∧ ROn Rr w ro mr ∧ (∀ k, Rd k ∨ k ∈ o.own → B ≤ k) ∧ (∀ k ∈ ro.own, B ≤ k) ∧ (∀ k, Rr k → k < b ∨ B ≤ k) ∧ (∀ k ∈ o.own, k ∉ ro.own ∧ ¬ Rr k) ∧ (∀ k ∈ ro.own, ¬ Rd k)
theorem Twin.pair {gr : Nat} {mr : Mc} (T : Twin b B g m gr mr w) (hm : Mod (fun k => b ≤ k ∧ k < B) w w') (hB : B ≤ w.heap.size) (hbB : b ≤ B) : iJ g m gr mr B w' w' := by
 obtain ⟨Rd, o, Rr, ro, h1, h2, H, HR, h3, h4, h5, h6, h7⟩ := T
 refine ⟨Rd, o, Rr, ro, h1, h2, H.mod hm (fun k hk hs => ?_), HR.mod hm (fun k hk hs => ?_), fun k hk => h3 k (.inr hk), h4, h6, h7, (Below.refl w'.heap.size w').mono (Ze hB hm.size)⟩
 ·have := h3 k hk.symm; omega
 ·rcases hk with hk | hk
  ·have := h4 k hk; omega
  ·have := h5 k hk; omega
theorem SoloR.twin {W w1 : World} {l : List S46} {input : List Int} {main fuel : Int} {w2 : World} {e : Ending} (S : SoloR g m W.heap.size W w1) (hb : b ≤ W.heap.size) (h : uh (fun k => k < b) w1 l input main fuel e w2) :
  ∃ gr, e = .returned (.tuple #[.pointer (some ⟨gr, 0, none⟩), .int .i64 0]) ∧ Twin b W.heap.size g m gr ((mc0 l input fuel).dZ main []) w2 ∧ Below w1.heap.size w1 w2 := by
 obtain ⟨Rd, o, rfl, H, h3, h7⟩ := S
 obtain ⟨Rr, ro, rfl, HR, h4, h5, hbl⟩ := h
 have hsz := h7.size
 refine ⟨ro.g, rfl, ⟨Rd, o, Rr, ro, rfl, rfl, H.below hbl, HR, h3, fun k hk => Ze hsz (h4 k hk), fun k hk => ?_, fun k hk => ⟨fun h' => ?_, fun h' => ?_⟩, fun k hk h' => ?_⟩, hbl⟩
 ·rcases h5 k hk with q | q
  ·exact .inl q
  ·exact .inr (by omega)
 ·have := H.lt k hk; have := h4 k h'; omega
 ·have := H.lt k hk; have := h3 k (.inr hk); rcases h5 k h' with q | q <;> omega
 ·have := h4 k hk; have := H.low k h'; omega
theorem Twin.below {gr : Nat} {mr : Mc} (T : Twin b B g m gr mr w) (hb : Below w.heap.size w w') : Twin b B g m gr mr w' := by
 obtain ⟨Rd, o, Rr, ro, h1, h2, H, HR, h3, h4, h5, h6, h7⟩ := T
 exact ⟨Rd, o, Rr, ro, h1, h2, H.below hb, HR.below hb, h3, h4, h5, h6, h7⟩
end
def kY (w : World) (b B g : Nat) (l : List S46) : Prop := ∀ (i : Nat) (x : S46), l[i]? = some x → ∃ A c, w.cell? ⟨g, i * 4, none⟩ = some (.slice A x.f0.length c) ∧ (0 < x.f0.length → ∃ gi cs, A = some ⟨gi, 0, none⟩ ∧ gi ≠ g ∧ b ≤ gi ∧ gi < B ∧ w.heap[gi]? = some (.cells cs 43 (0, 0)) ∧ x.f0.length * 3 ≤ cs.size)
theorem kY.set {w : World} {b B g : Nat} {l : List S46} (S : kY w b B g l) {gi j : Nat} (hne : g ≠ gi) (u : Value) : kY (w.setCell ⟨gi, j, none⟩ u) b B g l := by
 intro i x hx
 obtain ⟨A, c, h1, h2⟩ := S i x hx
 refine ⟨A, c, (cell_far (p := ⟨gi, j, none⟩) hne u).trans h1, fun hp => ?_⟩
 obtain ⟨g2, cs, e1, e2, e3, e4, e5, e6⟩ := h2 hp
 by_cases hg : g2 = gi
 ·subst hg
  exact ⟨g2, _, e1, e2, e3, e4, dH e5 j u, by rw [Array.size_setIfInBounds]; exact e6⟩
 ·exact ⟨g2, cs, e1, e2, e3, e4, dF e5 (p := ⟨gi, j, none⟩) hg u, e6⟩
theorem kY.below {w w' : World} {b B g : Nat} {l : List S46} (S : kY w b B g l) (hg : g < w.heap.size) (hb : Below w.heap.size w w') : kY w' b B g l := by
 intro i x hx
 obtain ⟨A, c, h1, h2⟩ := S i x hx
 refine ⟨A, c, gZ hb h1, fun hp => ?_⟩
 obtain ⟨g2, cs, e1, e2, e3, e4, e5, e6⟩ := h2 hp
 exact ⟨g2, cs, e1, e2, e3, e4, (hb.block g2 (bF e5)).trans e5, e6⟩
theorem slots_of {w : World} {b g n c : Nat} {l : List S46} (h : Kd.R k46 46 w b (fun _ => True) (.slice (some ⟨g, 0, none⟩) n c) l) : kY w b w.heap.size g l := by
 have hn : n = l.length := (Kd.aU h).1
 intro i x hx
 have hi := (List.getElem?_eq_some_iff.1 hx).1
 obtain ⟨cs, hcl, hM, hc⟩ := Kd.R_get h ⟨[], 0, 0, false⟩ (i : Int) (by omega) (by omega)
 have e : l.getD (i : Int).toNat ⟨[], 0, 0, false⟩ = x := by simp [List.getD, hx]
 rw [e] at hM
 obtain ⟨v0, rfl, hR⟩ := k46_openM hM
 obtain ⟨A, c0, rfl⟩ := Kd.dh hR
 have h0 := hc 0 _ rfl
 rw [fT, Nat.zero_add, Int.toNat_natCast] at h0
 refine ⟨A, c0, h0, fun hp => ?_⟩
 obtain ⟨inner, ho⟩ := Kd.sO hR
 rcases ho.2 with ⟨_, hz⟩ | ⟨g2, cap, cur, hv, hb, hg, hnc, _, hcs, _⟩
 ·omega
 ·obtain ⟨rfl, _, rfl⟩ := Value.slice.inj hv
  refine ⟨g2, cur, rfl, fun e => ?_, hb, bF hg, hg, ?_⟩
  ·subst e
   exact (hR.1 g2 rfl).2 rfl
  ·rw [hcs]; exact Nat.mul_le_mul_right _ hnc
def Room (w : World) (b B t s : Nat) (A : Option Addr) (n : Nat) : Prop := 0 < n → ∃ gi cs, A = some ⟨gi, 0, none⟩ ∧ b ≤ gi ∧ gi < B ∧ w.heap[gi]? = some (.cells cs t (0, 0)) ∧ n * s ≤ cs.size
theorem Room.set {w : World} {b B t s : Nat} {A : Option Addr} {n : Nat} (R : Room w b B t s A n) (gi j : Nat) (u : Value) : Room (w.setCell ⟨gi, j, none⟩ u) b B t s A n := by
 intro hp
 obtain ⟨g2, cs, e1, e2, e3, e4, e5⟩ := R hp
 by_cases hg : g2 = gi
 ·subst hg
  exact ⟨g2, _, e1, e2, e3, dH e4 j u, by rw [Array.size_setIfInBounds]; exact e5⟩
 ·exact ⟨g2, cs, e1, e2, e3, dF e4 (p := ⟨gi, j, none⟩) hg u, e5⟩
theorem Room.below {w w' : World} {b B t s : Nat} {A : Option Addr} {n : Nat} (R : Room w b B t s A n) (hb : Below w.heap.size w w') : Room w' b B t s A n := by
 intro hp
 obtain ⟨g2, cs, e1, e2, e3, e4, e5⟩ := R hp
 exact ⟨g2, cs, e1, e2, e3, (hb.block g2 (bF e4)).trans e4, e5⟩
theorem nT {w : World} {b t s : Nat} {A : Option Addr} {n c : Nat} {xs : List Value} (h : w.ownsRow 0 t s (.slice A n c) n xs) (hb : ∀ k, (Value.slice A n c).ownBlock = some k → b ≤ k) : Room w b w.heap.size t s A n := by
 intro hp
 rcases h.2 with ⟨_, hz⟩ | ⟨g2, cap, cur, hv, _, hg, hnc, _, hcs, _⟩
 ·omega
 ·obtain ⟨rfl, _, rfl⟩ := Value.slice.inj hv
  exact ⟨g2, cur, rfl, hb g2 rfl, bF hg, hg, by rw [hcs]; exact Nat.mul_le_mul_right _ hnc⟩
theorem tV {b B : Nat} {w0 w w' : World} (h : Below b w0 w) (hb : b ≤ w0.heap.size) (hm : Mod (fun k => b ≤ k ∧ k < B) w w') : Below b w0 w' := h.trans (Mod.below (a := w) hm (Ze hb h.size) (fun k hk => hk.1))
section
variable {g gr : Nat} {m mr : Mc} {B : Nat} {w0 w : World}
theorem iJ.events (P : iJ g m gr mr B w0 w) (hl : m.events.length ≤ 4398046511104) : Calls Tryd.prog 16 #[.pointer (some ⟨g, 0, none⟩)] w fun e w' => ∃ A c, e = .returned (.slice A m.events.length c) ∧ Room w' w.heap.size w'.heap.size 38 2 A m.events.length ∧ Below w.heap.size w w' := by
 obtain ⟨Rd, o, Rr, ro, rfl, h2, H, HR, h3, h4, h5, h6, h7⟩ := P
 refine (mh H hl).mono ?_
 rintro e w' ⟨v1, rfl, ho, hk, hb⟩
 obtain ⟨A, c, rfl, _, _, _, _⟩ := iP ho
 exact ⟨A, c, rfl, nT ho hk, hb⟩
theorem iJ.iV (P : iJ g m gr mr B w0 w) (hc : ∀ f ∈ m.frames, f.cells.length ≤ 1000000) : Calls Tryd.prog 27 #[.pointer (some ⟨g, 0, none⟩), .int .i64 0] w fun e w' => ∃ p mk A n c b, e = .returned (.tuple #[.int .i64 p, .int .i64 mk, .slice A n c, .bool b]) ∧ n ≤ 1000000 ∧ Room w' w.heap.size w'.heap.size 2 1 A n ∧ Below w.heap.size w w' := by
 obtain ⟨Rd, o, Rr, ro, rfl, h2, H, HR, h3, h4, h5, h6, h7⟩ := P
 rcases hm : m.frames with _ | ⟨f, r⟩
 ·refine (pR H 0 (.inr (by rw [hm]; exact Int.le_refl _))).mono ?_
  rintro e w' ⟨rfl, hb⟩
  exact ⟨0, 0, none, 0, 0, false, rfl, Nat.zero_le _, fun h => absurd h (Nat.lt_irrefl _), hb⟩
 ·refine (rE H 0 f (by rw [hm]; rfl) (hc f (by rw [hm]; simp))).mono ?_
  rintro e w' ⟨v, rfl, ho, hk, hb⟩
  obtain ⟨A, c, rfl, _, _, _, _⟩ := iP ho
  exact ⟨_, _, A, _, c, true, rfl, hc f (by rw [hm]; simp), nT ho hk, hb⟩
end
def ui (x : S46) : Prop := x.f0.length ≤ 65536 ∧ ∀ j : Int, 0 ≤ j → j < x.f0.length → (az x.f0 j).f0 = 17 ∨ (az x.f0 j).f0 = 18 → 0 ≤ (az x.f0 j).f1 ∧ (az x.f0 j).f1 < x.f0.length
theorem slow_calls (w : World) (A0 : Option Addr) (c0 : Nat) (l : List S46) (hl : Kd.C k46 w A0 l.length l) (hc : l.length ≤ c0) (hn : l.length ≤ 1000) (hT : ∀ i : Int, 0 ≤ i → i < l.length → ui (au l i)) :
  Calls Tryd.prog 31 #[.slice A0 l.length c0] w fun e w' => ∃ b, e = .returned (.bool b) ∧ Below w.heap.size w w' := by
 have hu43 := Tryd.underlying43
 have HL := aa.mk hl; have HC := aa.mk hc; have HT := aa.mk hT
 clear hl hc hT
 go_enter Tryd.func31, Tryd.ntmps31
 go_wp2
 go_loopg [3] l.length (fun gk v3 W => ∃ (x : Nat), v3 = .int .i64 (x : Int) ∧ aa (gk + x = l.length) ∧ aa (Below w.heap.size w W))
 case atStart => exact ⟨0, rfl, ⟨rfl⟩, ⟨Below.refl _ _⟩⟩
 case round =>
  obtain ⟨x, rfl, A1, A2⟩ := hrel
  rcases Nat.eq_zero_or_pos gk with h0 | h0
  ·have hx : decide (x < l.length) = false := Zb (by have := A1.out; omega)
   clear h0
   go_wp2
   repeat (go_quiet (fail); try go_wp2)
   go_ret
   exact ⟨_, rfl, A2.out⟩
  ·obtain ⟨gO, rfl⟩ : ∃ j, gk = j + 1 := ⟨gk - 1, by omega⟩
   have hx : decide (x < l.length) = true := Za (by have := A1.out; omega)
   have hxb : (x : Int) ≤ 1000 := by have := A1.out; omega
   obtain ⟨y, hy⟩ : ∃ y, y = au l (x : Int) := ⟨_, rfl⟩
   have hLy : ui y := by rw [hy]; exact HT.out _ (by omega) (by have := A1.out; omega)
   have HLY := aa.mk hLy; have HY := aa.mk hy
   have hyl : (y.f0.length : Int) ≤ 65536 := by have := hLy.1; omega
   clear hLy hy
   go_wp2
   repeat (go_quiet (fail); try go_wp2)
   go_loopg [4] y.f0.length (fun gj v4 W => ∃ (z : Nat), v4 = .int .i64 (z : Int) ∧ aa (gj + z = y.f0.length) ∧ aa (Below w.heap.size w W))
   case atStart => exact ⟨0, rfl, ⟨rfl⟩, A2⟩
   case round =>
    clear A2
    obtain ⟨z, rfl, A3, A2⟩ := hrel
    obtain ⟨ad, B0, d0, hA0, hx0, _, _, _, hl0, hi0⟩ := eZ (Kd.dO HL.out A2.out) (x : Int) (by omega) (by have := A1.out; omega)
    subst hA0
    simp only [Int.toNat_natCast] at hx0
    rw [← HY.out] at hx0 hl0 hi0
    have p1 := eq_true (show (0 : Int) ≤ (x : Int) by omega); have p2 := eq_true (show (x : Int) < (l.length : Int) by have := A1.out; omega)
    have HL0 := aa.mk hl0; have HI0 := aa.mk hi0
    clear hl0 hi0
    rcases Nat.eq_zero_or_pos gk with h1 | h1
    ·have hz : decide (z < y.f0.length) = false := Zb (by have := A3.out; omega)
     clear h1
     go_wp2
     repeat (go_quiet (fail); try go_wp2)
     go_roundg gO
     case measure => omega
     case rel => exact ⟨x + 1, by go_num, ⟨by have := A1.out; omega⟩, A2⟩
    ·obtain ⟨gk, rfl⟩ : ∃ j, gk = j + 1 := ⟨gk - 1, by omega⟩
     have hz : decide (z < y.f0.length) = true := Za (by have := A3.out; omega)
     have hzb : (z : Int) ≤ 65536 := by have := A3.out; omega
     obtain ⟨ad1, hB0, hz0, hz1, hz2⟩ := jW HI0.out (z : Int) (by omega) (by have := A3.out; omega)
     subst hB0
     simp only [Int.toNat_natCast] at hz0 hz1 hz2
     obtain ⟨i, hi⟩ : ∃ i, i = az y.f0 (z : Int) := ⟨_, rfl⟩
     rw [← hi] at hz0 hz1 hz2
     have HI := aa.mk hi
     have p3 := eq_true (show (0 : Int) ≤ (z : Int) by omega); have p4 := eq_true (show (z : Int) < (y.f0.length : Int) by have := A3.out; omega)
     have HD : aa (i.f0 = 17 ∨ i.f0 = 18 → 0 ≤ i.f1 ∧ i.f1 < y.f0.length) := ⟨fun h => by rw [HI.out] at h ⊢; exact HLY.out.2 z (by omega) (of_eq_true p4) h⟩
     clear h1 hi HI
     obtain ⟨F0, F1, F2⟩ := i
     simp only at hz0 hz1 hz2
     by_cases k1 : F0 = 17
     ·subst k1
      have HDT := aa.mk (HD.out (Or.inl rfl)); clear HD
      have HBX := aa.mk (bW wr (.cells #[.int .i64 17, .int .i64 F1, .int .i64 F2] 43))
      have q0 : (wr.alloc (.cells #[.int .i64 17, .int .i64 F1, .int .i64 F2] 43)).cell? ⟨wr.heap.size, 0, none⟩ = some (.int .i64 17) := ae HBX.out 0
      have q1 : (wr.alloc (.cells #[.int .i64 17, .int .i64 F1, .int .i64 F2] 43)).cell? ⟨wr.heap.size, 1, none⟩ = some (.int .i64 F1) := ae HBX.out 1
      have q2 := Lib.cell?_alloc_some (.cells #[.int .i64 17, .int .i64 F1, .int .i64 F2] 43) hx0
      by_cases k3 : F1 ≤ (z : Int)
      ·have e3 : decide (F1 ≤ (z : Int)) = true := Za k3
       have t0 : 0 ≤ F1 := HDT.out.1; have t1 : F1 < y.f0.length := HDT.out.2
       obtain ⟨ad2, hB2, hu0, hu1, hu2⟩ := jW HI0.out F1 t0 t1
       obtain rfl : ad1 = ad2 := Zg hB2
       generalize (az y.f0 F1).f0 = u at hu0
       have p5 := eq_true t0; have p6 := eq_true t1
       have q3 := Lib.cell?_alloc_some (.cells #[.int .i64 17, .int .i64 F1, .int .i64 F2] 43) hu0
       clear hB2 hu0 hu1 hu2 t0 t1 k3
       by_cases k4 : u = 24
       ·subst k4
        go_wp2
        repeat (go_quiet (fail); try go_wp2)
        go_roundg gk
        case measure => omega
        case rel => exact ⟨z + 1, by go_num, ⟨by have := A3.out; omega⟩, ⟨by repeat (first | apply bN | apply aW | apply dm | exact A2.out)⟩⟩
       ·have e4 : (u != 24) = true := bne_iff_ne.2 k4
        clear k4
        go_wp2
        repeat (go_quiet (fail); try go_wp2)
        go_ret
        exact ⟨_, rfl, by repeat (first | apply bN | apply aW | apply dm | exact A2.out)⟩
      ·have e3 : decide (F1 ≤ (z : Int)) = false := Zb k3
       clear k3
       go_wp2
       repeat (go_quiet (fail); try go_wp2)
       go_roundg gk
       case measure => omega
       case rel => exact ⟨z + 1, by go_num, ⟨by have := A3.out; omega⟩, ⟨by repeat (first | apply bN | apply aW | apply dm | exact A2.out)⟩⟩
     by_cases k2 : F0 = 18
     ·subst k2
      have HDT := aa.mk (HD.out (Or.inr rfl)); clear HD
      have HBX := aa.mk (bW wr (.cells #[.int .i64 18, .int .i64 F1, .int .i64 F2] 43))
      have q0 : (wr.alloc (.cells #[.int .i64 18, .int .i64 F1, .int .i64 F2] 43)).cell? ⟨wr.heap.size, 0, none⟩ = some (.int .i64 18) := ae HBX.out 0
      have q1 : (wr.alloc (.cells #[.int .i64 18, .int .i64 F1, .int .i64 F2] 43)).cell? ⟨wr.heap.size, 1, none⟩ = some (.int .i64 F1) := ae HBX.out 1
      have q2 := Lib.cell?_alloc_some (.cells #[.int .i64 18, .int .i64 F1, .int .i64 F2] 43) hx0
      by_cases k3 : F1 ≤ (z : Int)
      ·have e3 : decide (F1 ≤ (z : Int)) = true := Za k3
       have t0 : 0 ≤ F1 := HDT.out.1; have t1 : F1 < y.f0.length := HDT.out.2
       obtain ⟨ad2, hB2, hu0, hu1, hu2⟩ := jW HI0.out F1 t0 t1
       obtain rfl : ad1 = ad2 := Zg hB2
       generalize (az y.f0 F1).f0 = u at hu0
       have p5 := eq_true t0; have p6 := eq_true t1
       have q3 := Lib.cell?_alloc_some (.cells #[.int .i64 18, .int .i64 F1, .int .i64 F2] 43) hu0
       clear hB2 hu0 hu1 hu2 t0 t1 k3
       by_cases k4 : u = 24
       ·subst k4
        go_wp2
        repeat (go_quiet (fail); try go_wp2)
        go_roundg gk
        case measure => omega
        case rel => exact ⟨z + 1, by go_num, ⟨by have := A3.out; omega⟩, ⟨by repeat (first | apply bN | apply aW | apply dm | exact A2.out)⟩⟩
       ·have e4 : (u != 24) = true := bne_iff_ne.2 k4
        clear k4
        go_wp2
        repeat (go_quiet (fail); try go_wp2)
        go_ret
        exact ⟨_, rfl, by repeat (first | apply bN | apply aW | apply dm | exact A2.out)⟩
      ·have e3 : decide (F1 ≤ (z : Int)) = false := Zb k3
       clear k3
       go_wp2
       repeat (go_quiet (fail); try go_wp2)
       go_roundg gk
       case measure => omega
       case rel => exact ⟨z + 1, by go_num, ⟨by have := A3.out; omega⟩, ⟨by repeat (first | apply bN | apply aW | apply dm | exact A2.out)⟩⟩
     have e1 : (F0 == 17) = false := beq_eq_false_iff_ne.2 k1
     have e2 : (F0 == 18) = false := beq_eq_false_iff_ne.2 k2
     have HBX := aa.mk (bW wr (.cells #[.int .i64 F0, .int .i64 F1, .int .i64 F2] 43))
     have q0 : (wr.alloc (.cells #[.int .i64 F0, .int .i64 F1, .int .i64 F2] 43)).cell? ⟨wr.heap.size, 0, none⟩ = some (.int .i64 F0) := ae HBX.out 0
     have q1 : (wr.alloc (.cells #[.int .i64 F0, .int .i64 F1, .int .i64 F2] 43)).cell? ⟨wr.heap.size, 1, none⟩ = some (.int .i64 F1) := ae HBX.out 1
     have q2 := Lib.cell?_alloc_some (.cells #[.int .i64 F0, .int .i64 F1, .int .i64 F2] 43) hx0
     clear k1 k2
     go_wp2
     repeat (go_quiet (fail); try go_wp2)
     go_roundg gk
     case measure => omega
     case rel => exact ⟨z + 1, by go_num, ⟨by have := A3.out; omega⟩, ⟨by repeat (first | apply bN | apply aW | apply dm | exact A2.out)⟩⟩
theorem lM {l : List S46} (hf : jB l) {main : Int} {k : Nat} (h : aJ.f k l main = some true) : gJ l main := by
 obtain ⟨r, hr, hi⟩ := Sound_ok l hf main
 obtain ⟨K, hK⟩ := hr
 have h1 := hK (max K k) (Nat.le_max_left _ _)
 have h2 := pg (g := fun k => aJ.f k l main) (fun k => aJ.mono l main k) (Nat.le_max_right K k) h
 have : r = true := by
  have := h1.symm.trans h2
  exact Zg this
 exact hi.1 this
theorem sQ {l : List S46} {main : Int} (hS : gJ l main) {input : List Int} (hi : input.length ≤ 1000) {fuel : Int} (h0 : 0 ≤ fuel) (h1 : fuel ≤ 1048576) : Fit ((mc0 l input fuel).dZ main []) := by
 have a := hS.1
 have hz := fO hS a.2.2.1 a.2.2.2.1
 obtain ⟨hs, _⟩ := hz
 obtain ⟨t1, t2, t3, t4, t5, t6, t7⟩ := hs.1
 refine ⟨⟨⟨main, hS⟩, fun _ => ⟨⟨a.2.2.1, a.2.2.2.1, ?_, 0, rfl, fO hS a.2.2.1 a.2.2.2.1⟩, trivial⟩, (fun _ h => by cases h), fun _ => by show (1 : Nat) ≤ 50; decide, ⟨h0, Int.le_refl _, by show fuel + 0 ≤ 1048576; omega⟩, Nat.zero_le _, hi, by show ((0 : Nat) : Int) ≤ 0 * 1048577 + 1048577; decide⟩, fun _ => by show ((0 : Nat) : Int) ≤ 0 * 1048577; decide⟩
 show ((([] : List Int) ++ List.replicate ((rdC l main).f1.toNat - ([] : List Int).length) 0).length : Int) = (rdC l main).f1
 simp
 omega
section
variable (w : World) (A0 A2 : Option Addr) (c0 c2 : Nat) (l : List S46) (input : List Int) (main fuel : Int)
theorem new_solo (hl : Kd.C k46 w A0 l.length l) (hc : l.length ≤ c0) (hLd : Laid w) (k : Nat) (h : aJ.f k l main = some true) (hf : jB l) (hin : Kd.C (Kd.int .i64) w A2 input.length input) (hc2 : input.length ≤ c2) (hf0 : 0 ≤ fuel) (hf1 : fuel ≤ 1048576) (hi1 : input.length ≤ 1000) :
  Calls Tryd.prog 12 #[.slice A0 l.length c0, .int .i64 main, .slice A2 input.length c2, .int .i64 fuel] w fun e w' => ∃ g, e = .returned (.tuple #[.pointer (some ⟨g, 0, none⟩), .int .i64 0]) ∧ Solo g ((mc0 l input fuel).dZ main []) w.heap.size w w' := by
 have hS := lM hf h
 have a := hS.1
 obtain ⟨hs, _⟩ := fO hS a.2.2.1 a.2.2.2.1
 obtain ⟨t1, t2, t3, t4, t5, t6, t7⟩ := hs.1
 have hins : ∀ x ∈ l, x.f0.length ≤ 65536 := fun x hx => by
  obtain ⟨i, hi, rfl⟩ := List.getElem_of_mem hx
  obtain ⟨hs, _⟩ := fO hS (k := (i : Int)) (by omega) (by omega)
  have := hs.1.2.1
  rw [ol l i hi] at this
  exact this
 refine (rX w A0 A2 c0 c2 l input main fuel hl hc hLd k h hin hc2 hf0 hf1 hi1 a.2.1 hins a.2.2.1 a.2.2.2.1 ⟨t3, t4⟩).mono ?_
 rintro e w' ⟨Rd, o, rfl, hM, hlow, hb⟩
 exact ⟨o.g, rfl, Rd, o, rfl, hM, fun k hk => hlow k (.inr hk), hb⟩
theorem new_duo {g1 : Nat} {m1 : Mc} {B : Nat} {w0 : World} (S : Solo g1 m1 B w0 w) (hB : B ≤ w0.heap.size) (hl : Kd.C k46 w A0 l.length l) (hc : l.length ≤ c0) (hLd : Laid w) (k : Nat) (h : aJ.f k l main = some true) (hf : jB l) (hin : Kd.C (Kd.int .i64) w A2 input.length input) (hc2 : input.length ≤ c2) (hf0 : 0 ≤ fuel) (hf1 : fuel ≤ 1048576) (hi1 : input.length ≤ 1000) :
  Calls Tryd.prog 12 #[.slice A0 l.length c0, .int .i64 main, .slice A2 input.length c2, .int .i64 fuel] w fun e w' => ∃ g, e = .returned (.tuple #[.pointer (some ⟨g, 0, none⟩), .int .i64 0]) ∧ Duo g1 m1 g ((mc0 l input fuel).dZ main []) B w0 w' := by
 have hS := lM hf h
 have a := hS.1
 obtain ⟨hs, _⟩ := fO hS a.2.2.1 a.2.2.2.1
 obtain ⟨t1, t2, t3, t4, t5, t6, t7⟩ := hs.1
 have hins : ∀ x ∈ l, x.f0.length ≤ 65536 := fun x hx => by
  obtain ⟨i, hi, rfl⟩ := List.getElem_of_mem hx
  obtain ⟨hs, _⟩ := fO hS (k := (i : Int)) (by omega) (by omega)
  have := hs.1.2.1
  rw [ol l i hi] at this
  exact this
 refine (rX w A0 A2 c0 c2 l input main fuel hl hc hLd k h hin hc2 hf0 hf1 hi1 a.2.1 hins a.2.2.1 a.2.2.2.1 ⟨t3, t4⟩).mono ?_
 rintro e w' ⟨Rd, o, rfl, hM, hlow, hb⟩
 obtain ⟨Rd1, o1, hg1, hM1, hl1, hw1⟩ := S
 have hBw := Ze hB hw1.size
 exact ⟨o.g, rfl, Rd1, o1, Rd, o, hg1, rfl, hM1.below hb, hM, hl1, fun k hk => Ze hBw (hlow k (.inr hk)),
  fun k hk => ⟨fun h => by have := hM1.lt k hk; have := hlow k (.inr h); omega, fun h => by have := hM1.lt k hk; have := hlow k (.inl h); omega⟩, fun k hk h => by have := hM1.low k h; have := hlow k (.inr hk); omega, hw1.trans (hb.mono hBw)⟩
end
def qo : List S43 := [⟨24, 0, 1⟩, ⟨1, 5, 0⟩, ⟨21, 0, 0⟩, ⟨24, 1, 3⟩, ⟨20, 0, 0⟩]
def qC : List S46 := [⟨qo, 0, 0, false⟩]
theorem rR : aJ.f 60 qC 0 = some true := by kernel_rfl
def km (fuel : Int) : Mc := (mc0 qC [] fuel).dZ 0 []
theorem km9 : (km 9).step.2 = true ∧ (km 9).step.1.step.2 = true ∧ (km 9).step.1.step.1.step.2 = false ∧ (km 9).step.1.step.1.step.1.ticks = 2 ∧ (km 9).step.1.step.1.step.1.events = [(1, 5), (3, 0)] ∧ (km 9).step.1.step.1.step.1.ended = true ∧ (km 9).step.1.step.1.step.1.frames.length = 0 := by
 refine ⟨?_, ?_, ?_, ?_, ?_, ?_, ?_⟩ <;> kernel_rfl
theorem km1 : (km 1).step.2 = true ∧ (km 1).step.1.step.2 = false ∧ (km 1).step.1.step.1.events = [(1, 5), (5, 0)] ∧ (km 1).step.1.step.1.frames.length = 1 := by
 refine ⟨?_, ?_, ?_, ?_⟩ <;> kernel_rfl
theorem leads_of {l : List S46} {main : Int} (hS : gJ l main) (i : Int) (h0 : 0 ≤ i) (h1 : i < l.length) : ui (au l i) := by
 obtain ⟨hs, _⟩ := fO hS h0 h1
 obtain ⟨t1, t2, t3, t4, t5, t6, t7⟩ := hs.1
 refine ⟨t2, fun j j0 j1 hj => ?_⟩
 have hm := (hs.2 (az (au l i).f0 j) (by
  rw [show az (au l i).f0 j = (au l i).f0[j.toNat]'(by omega) by simp [az, List.getD, show j.toNat < (au l i).f0.length by omega]]
  exact List.getElem_mem _)).2
 unfold dX at hm
 rw [if_neg (by omega), if_neg (by omega), if_pos hj] at hm
 exact Zc hm
theorem ru (l : List S46) (hl : l.length ≤ 10000000000000) (hb : ∀ x ∈ l, x.f0.length ≤ 1000000000000000) : ∃ k r, aC.f k l = some r := by
 have loop : ∀ (d i : Nat), i + d = l.length → ∃ r, Ev (fun k => aC.l0 k l i) r := by
  intro d
  induction d with
  | zero =>
   intro i hi
   obtain rfl : i = l.length := by omega
   refine ⟨false, YE.evs ?_⟩
   simp only [aC.l0, ff (Int.lt_irrefl (l.length : Int)), if_false]; exact Ev.now _
  | succ d ih =>
   intro i hi
   have c1 := tt (show (i : Int) < (l.length : Int) by omega)
   have c2 := tt (show (0 : Int) ≤ (i : Int) by omega)
   have e2 : wrap64 ((i : Int) + 1) = ((i + 1 : Nat) : Int) := by rw [w64 (by omega) (by omega)]; rfl
   obtain ⟨r, hr⟩ := ih (i + 1) (by omega)
   by_cases h1 : (au l (i : Int)).f1 > 300
   ·by_cases h2 : (au l (i : Int)).f1 ≤ 65536
    ·refine ⟨true, YE.evs ?_⟩
     simp only [aC.l0, c1, c2, tt h1, tt h2, if_true]; exact Ev.now _
    ·refine ⟨r, YE.evs ?_⟩
     simp only [aC.l0, c1, c2, tt h1, ff h2, if_true, if_false, e2]; exact hr
   ·refine ⟨r, YE.evs ?_⟩
    simp only [aC.l0, c1, c2, ff h1, if_true, if_false, e2]; exact hr
 have j : ∀ b, ∃ r, Ev (fun k => aC.j0 k l b) r := by
  intro b
  by_cases h : b = true
  ·refine ⟨true, YE.evs ?_⟩
   simp only [aC.j0, tt h, if_true]; exact Ev.now _
  ·obtain ⟨r, hr⟩ := loop l.length 0 (by omega)
   refine ⟨r, YE.evs ?_⟩
   simp only [aC.j0, ff h, if_false]; exact hr
 have all : ∃ r, Ev (fun k => aC.f k l) r := by
  unfold aC.f
  by_cases h : (l.length : Int) > 50
  ·simp only [tt h, if_true]; exact j true
  ·obtain ⟨t, ht⟩ := Size_ok l hl hb 1000 (by decide)
   obtain ⟨r, hr⟩ := j (decide (t > 1000))
   refine ⟨r, ?_⟩
   simp only [ff h, if_false]
   exact Ev.bind ht hr
 obtain ⟨r, k, hk⟩ := all
 exact ⟨k, r, hk k (Zd _)⟩
def fo (fuel : Int) : Int := if fuel > 200 then (if fuel ≤ 1048576 then 200 else fuel) else fuel
theorem oI (fuel : Int) : dx.f fuel = some (fo fuel) := by
 unfold dx.f fo
 split
 ·split <;> rfl
 ·rfl
theorem few_range {fuel : Int} (h0 : 0 ≤ fo fuel) (h1 : fo fuel ≤ 1048576) : fo fuel ≤ 200 := by
 unfold fo at *
 split at * <;> (try split at *) <;> omega
theorem rz {R0 : Nat → Prop} {w w' : World} {l : List S46} {input : List Int} {main fuel : Int} {e : Ending} (h : uh R0 w l input main fuel e w') : ∃ gr, e = .returned (.tuple #[.pointer (some ⟨gr, 0, none⟩), .int .i64 0]) ∧ Below w.heap.size w w' := by
 obtain ⟨Rr, ro, rfl, _, _, _, hb⟩ := h
 exact ⟨ro.g, rfl, hb⟩
section
variable (w : World) (A0 A2 : Option Addr) (c0 c2 : Nat) (l : List S46) (input : List Int) (main fuel : Int)
theorem new_soloR (hl : Kd.C k46 w A0 l.length l) (hc : l.length ≤ c0) (hLd : Laid w) (k : Nat) (h : aJ.f k l main = some true) (hf : jB l) (hin : Kd.C (Kd.int .i64) w A2 input.length input) (hc2 : input.length ≤ c2) (hf0 : 0 ≤ fuel) (hf1 : fuel ≤ 1048576) (hi1 : input.length ≤ 1000) :
  Calls Tryd.prog 12 #[.slice A0 l.length c0, .int .i64 main, .slice A2 input.length c2, .int .i64 fuel] w fun e w' => ∃ g, e = .returned (.tuple #[.pointer (some ⟨g, 0, none⟩), .int .i64 0]) ∧ SoloR g ((mc0 l input fuel).dZ main []) w.heap.size w w' := by
 have hS := lM hf h
 have a := hS.1
 obtain ⟨hs, _⟩ := fO hS a.2.2.1 a.2.2.2.1
 obtain ⟨t1, t2, t3, t4, t5, t6, t7⟩ := hs.1
 have hins : ∀ x ∈ l, x.f0.length ≤ 65536 := fun x hx => by
  obtain ⟨i, hi, rfl⟩ := List.getElem_of_mem hx
  obtain ⟨hs, _⟩ := fO hS (k := (i : Int)) (by omega) (by omega)
  have := hs.1.2.1
  rw [ol l i hi] at this
  exact this
 refine (rX w A0 A2 c0 c2 l input main fuel hl hc hLd k h hin hc2 hf0 hf1 hi1 a.2.1 hins a.2.2.1 a.2.2.2.1 ⟨t3, t4⟩).mono ?_
 rintro e w' ⟨Rd, o, rfl, hM, hlow, hb⟩
 exact ⟨o.g, rfl, Rd, o, rfl, hM, hlow, hb⟩
end
def mg (l : List S46) (input : List Int) (main fuel : Int) (w : World) (e : Ending) (w' : World) : Prop :=
 Below w.heap.size w w' ∧ (e = .returned (.tuple #[.pointer none, .pointer none, .bool false, .bool true]) ∨
  ∃ g gr b, e = .returned (.tuple #[.pointer (some ⟨g, 0, none⟩), .pointer (some ⟨gr, 0, none⟩), .bool b, .bool true]) ∧ SoloR g ((mc0 l input (fo fuel)).dZ main []) w.heap.size w w' ∧ gJ l main ∧ 0 ≤ fo fuel ∧ fo fuel ≤ 200 ∧ input.length ≤ 200)
theorem oboth_great (w : World) (A0 A2 : Option Addr) (c0 c2 : Nat) (l : List S46) (input : List Int) (main fuel : Int) (hl : Kd.C k46 w A0 l.length l) (hc : l.length ≤ c0) (hLd : Laid w) (hf : jB l) (hin : Kd.C (Kd.int .i64) w A2 input.length input) (hc2 : input.length ≤ c2) (kg : Nat) (hg : aC.f kg l = some true) : Calls Tryd.prog 10 #[.slice A0 l.length c0, .int .i64 main, .slice A2 input.length c2, .int .i64 fuel] w (mg l input main fuel w) := by
 have HL := aa.mk hl; have HC := aa.mk hc; have HG := aa.mk hg
 clear hl hc hg hLd hf hin
 go_enter Tryd.func10, Tryd.ntmps10
 go_wp2_with (first
  | ((with_reducible refine ah (f := 25) rfl ?_); (try (refine aH (by rfl) ?_; dsimp only)); refine gl 17 Tryd.func25 #[.slice A0 l.length c0] ?_; (with_reducible refine (aC.calls kg A0 c0 l true w HL.out HC.out HG.out).mono ?_); rintro e w0 ⟨rfl, nd, rfl⟩; have HB := aa.mk (aW (Below.refl w.heap.size w) nd); refine ⟨_, rfl, ?_⟩))
 exact bodyPost_ret (v := .tuple #[.pointer none, .pointer none, .bool false, .bool true]) (by simp [results, Tryd.results10, go_sem]) rfl ⟨HB.out, .inl rfl⟩
theorem oboth_long (w : World) (A0 A2 : Option Addr) (c0 c2 : Nat) (l : List S46) (input : List Int) (main fuel : Int) (hl : Kd.C k46 w A0 l.length l) (hc : l.length ≤ c0) (hLd : Laid w) (hf : jB l) (hin : Kd.C (Kd.int .i64) w A2 input.length input) (hc2 : input.length ≤ c2) (kg : Nat) (hg : aC.f kg l = some false) (h1 : 200 < input.length) (h2 : input.length ≤ 1000) : Calls Tryd.prog 10 #[.slice A0 l.length c0, .int .i64 main, .slice A2 input.length c2, .int .i64 fuel] w (mg l input main fuel w) := by
 have HL := aa.mk hl; have HC := aa.mk hc; have HG := aa.mk hg
 have e1 : decide (200 < (input.length : Int)) = true := Za (by omega)
 have e2 : decide ((input.length : Int) ≤ 1000) = true := Za (by omega)
 clear hl hc hg hLd hf hin h1 h2
 go_enter Tryd.func10, Tryd.ntmps10
 go_wp2_with (first
  | ((with_reducible refine ah (f := 25) rfl ?_); (try (refine aH (by rfl) ?_; dsimp only)); refine gl 17 Tryd.func25 #[.slice A0 l.length c0] ?_; (with_reducible refine (aC.calls kg A0 c0 l false w HL.out HC.out HG.out).mono ?_); rintro e w0 ⟨rfl, nd, rfl⟩; have HB := aa.mk (aW (Below.refl w.heap.size w) nd); refine ⟨_, rfl, ?_⟩))
 exact bodyPost_ret (v := .tuple #[.pointer none, .pointer none, .bool false, .bool true]) (by simp [results, Tryd.results10, go_sem]) rfl ⟨HB.out, .inl rfl⟩
theorem lc (w : World) (A0 A2 : Option Addr) (c0 c2 : Nat) (l : List S46) (input : List Int) (main fuel : Int) (hl : Kd.C k46 w A0 l.length l) (hc : l.length ≤ c0) (hLd : Laid w) (hf : jB l) (hin : Kd.C (Kd.int .i64) w A2 input.length input) (hc2 : input.length ≤ c2) (kg : Nat) (hg : aC.f kg l = some false) (h1 : ¬ (200 < input.length ∧ input.length ≤ 1000)) (er : Int) (h0 : er = 1 ∨ er = 60)
  (HN : ∀ W, Below w.heap.size w W → Calls Tryd.prog 12 #[.slice A0 l.length c0, .int .i64 main, .slice A2 input.length c2, .int .i64 (fo fuel)] W fun e w' => e = .returned (.tuple #[.pointer none, .int .i64 er]) ∧ Below W.heap.size W w')
  (HR : ∀ W, Below w.heap.size w W → Calls Tryd.prog 26 #[.slice A0 l.length c0, .int .i64 main, .slice A2 input.length c2, .int .i64 (fo fuel)] W fun e w' => e = .returned (.tuple #[.pointer none, .int .i64 er]) ∧ Below W.heap.size W w') :
  Calls Tryd.prog 10 #[.slice A0 l.length c0, .int .i64 main, .slice A2 input.length c2, .int .i64 fuel] w (mg l input main fuel w) := by
 have HL := aa.mk hl; have HC := aa.mk hc; have HG := aa.mk hg; have HN := aa.mk HN; have HR := aa.mk HR
 clear hl hc hg hLd hf hin
 by_cases h2 : 200 < input.length
 ·have e1 : decide (200 < (input.length : Int)) = true := Za (by omega)
  have e2 : decide ((input.length : Int) ≤ 1000) = false := Zb (by omega)
  clear h1 h2
  rcases h0 with rfl | rfl
  all_goals
   go_enter Tryd.func10, Tryd.ntmps10
   go_wp2_with (first
    | ((with_reducible refine ah (f := 25) rfl ?_); (try (refine aH (by rfl) ?_; dsimp only)); refine gl 17 Tryd.func25 #[.slice A0 l.length c0] ?_; (with_reducible refine (aC.calls kg A0 c0 l false w HL.out HC.out HG.out).mono ?_); rintro e w0 ⟨rfl, nd, rfl⟩; have HB := aa.mk (aW (Below.refl w.heap.size w) nd); refine ⟨_, rfl, ?_⟩)
    | ((with_reducible refine ah (f := 13) rfl ?_); (try (refine aH (by rfl) ?_; dsimp only)); refine gl 33 Tryd.func13 #[.int .i64 fuel] ?_; (with_reducible refine (dx.calls fuel _ _ (oI fuel)).mono ?_); rintro e w1 ⟨rfl, ndw1, rfl⟩; have HB := aa.mk (aW HB.out ndw1); refine ⟨_, rfl, ?_⟩)
    | ((with_reducible refine ah (f := 12) rfl ?_); (try (refine aH (by rfl) ?_; dsimp only)); refine gl 34 Tryd.func12 #[.slice A0 l.length c0, .int .i64 main, .slice A2 input.length c2, .int .i64 (fo fuel)] ?_; (with_reducible refine (HN.out _ HB.out).mono ?_); rintro e w2 ⟨rfl, hb⟩; have HB := aa.mk (HB.out.trans (hb.mono HB.out.size)); clear hb; refine ⟨_, rfl, ?_⟩)
    | ((with_reducible refine ah (f := 13) rfl ?_); (try (refine aH (by rfl) ?_; dsimp only)); refine gl 42 Tryd.func13 #[.int .i64 fuel] ?_; (with_reducible refine (dx.calls fuel _ _ (oI fuel)).mono ?_); rintro e w3 ⟨rfl, ndw3, rfl⟩; have HB := aa.mk (aW HB.out ndw3); refine ⟨_, rfl, ?_⟩)
    | ((with_reducible refine ah (f := 26) rfl ?_); (try (refine aH (by rfl) ?_; dsimp only)); refine gl 43 Tryd.func26 #[.slice A0 l.length c0, .int .i64 main, .slice A2 input.length c2, .int .i64 (fo fuel)] ?_; (with_reducible refine (HR.out _ HB.out).mono ?_); rintro e w4 ⟨rfl, hb⟩; have HB := aa.mk (HB.out.trans (hb.mono HB.out.size)); clear hb; refine ⟨_, rfl, ?_⟩))
   exact bodyPost_ret (v := .tuple #[.pointer none, .pointer none, .bool false, .bool true]) (by simp [results, Tryd.results10, go_sem]) rfl ⟨HB.out, .inl rfl⟩
 ·have e1 : decide (200 < (input.length : Int)) = false := Zb (by omega)
  clear h1 h2
  rcases h0 with rfl | rfl
  all_goals
   go_enter Tryd.func10, Tryd.ntmps10
   go_wp2_with (first
    | ((with_reducible refine ah (f := 25) rfl ?_); (try (refine aH (by rfl) ?_; dsimp only)); refine gl 17 Tryd.func25 #[.slice A0 l.length c0] ?_; (with_reducible refine (aC.calls kg A0 c0 l false w HL.out HC.out HG.out).mono ?_); rintro e w0 ⟨rfl, nd, rfl⟩; have HB := aa.mk (aW (Below.refl w.heap.size w) nd); refine ⟨_, rfl, ?_⟩)
    | ((with_reducible refine ah (f := 13) rfl ?_); (try (refine aH (by rfl) ?_; dsimp only)); refine gl 33 Tryd.func13 #[.int .i64 fuel] ?_; (with_reducible refine (dx.calls fuel _ _ (oI fuel)).mono ?_); rintro e w1 ⟨rfl, ndw1, rfl⟩; have HB := aa.mk (aW HB.out ndw1); refine ⟨_, rfl, ?_⟩)
    | ((with_reducible refine ah (f := 12) rfl ?_); (try (refine aH (by rfl) ?_; dsimp only)); refine gl 34 Tryd.func12 #[.slice A0 l.length c0, .int .i64 main, .slice A2 input.length c2, .int .i64 (fo fuel)] ?_; (with_reducible refine (HN.out _ HB.out).mono ?_); rintro e w2 ⟨rfl, hb⟩; have HB := aa.mk (HB.out.trans (hb.mono HB.out.size)); clear hb; refine ⟨_, rfl, ?_⟩)
    | ((with_reducible refine ah (f := 13) rfl ?_); (try (refine aH (by rfl) ?_; dsimp only)); refine gl 42 Tryd.func13 #[.int .i64 fuel] ?_; (with_reducible refine (dx.calls fuel _ _ (oI fuel)).mono ?_); rintro e w3 ⟨rfl, ndw3, rfl⟩; have HB := aa.mk (aW HB.out ndw3); refine ⟨_, rfl, ?_⟩)
    | ((with_reducible refine ah (f := 26) rfl ?_); (try (refine aH (by rfl) ?_; dsimp only)); refine gl 43 Tryd.func26 #[.slice A0 l.length c0, .int .i64 main, .slice A2 input.length c2, .int .i64 (fo fuel)] ?_; (with_reducible refine (HR.out _ HB.out).mono ?_); rintro e w4 ⟨rfl, hb⟩; have HB := aa.mk (HB.out.trans (hb.mono HB.out.size)); clear hb; refine ⟨_, rfl, ?_⟩))
   exact bodyPost_ret (v := .tuple #[.pointer none, .pointer none, .bool false, .bool true]) (by simp [results, Tryd.results10, go_sem]) rfl ⟨HB.out, .inl rfl⟩
theorem oboth_there (w : World) (A0 A2 : Option Addr) (c0 c2 : Nat) (l : List S46) (input : List Int) (main fuel : Int) (hl : Kd.C k46 w A0 l.length l) (hc : l.length ≤ c0) (hLd : Laid w) (hf : jB l) (hin : Kd.C (Kd.int .i64) w A2 input.length input) (hc2 : input.length ≤ c2) (kg : Nat) (hg : aC.f kg l = some false) (h1 : input.length ≤ 200) (hS : gJ l main) (hf0 : 0 ≤ fo fuel) (hf1 : fo fuel ≤ 200)
  (HN : ∀ W, Below w.heap.size w W → Calls Tryd.prog 12 #[.slice A0 l.length c0, .int .i64 main, .slice A2 input.length c2, .int .i64 (fo fuel)] W fun e w' => ∃ g, e = .returned (.tuple #[.pointer (some ⟨g, 0, none⟩), .int .i64 0]) ∧ SoloR g ((mc0 l input (fo fuel)).dZ main []) W.heap.size W w')
  (HR : ∀ W, Below w.heap.size w W → Calls Tryd.prog 26 #[.slice A0 l.length c0, .int .i64 main, .slice A2 input.length c2, .int .i64 (fo fuel)] W (uh (fun k => k < w.heap.size) W l input main (fo fuel)))
  (HS : ∀ W, Below w.heap.size w W → Calls Tryd.prog 31 #[.slice A0 l.length c0] W fun e w' => ∃ b, e = .returned (.bool b) ∧ Below W.heap.size W w') :
  Calls Tryd.prog 10 #[.slice A0 l.length c0, .int .i64 main, .slice A2 input.length c2, .int .i64 fuel] w (mg l input main fuel w) := by
 have HL := aa.mk hl; have HC := aa.mk hc; have HG := aa.mk hg; have HN := aa.mk HN; have HR := aa.mk HR; have HS := aa.mk HS
 have HALL : aa (gJ l main ∧ 0 ≤ fo fuel ∧ fo fuel ≤ 200 ∧ input.length ≤ 200) := ⟨hS, hf0, hf1, h1⟩
 have e1 : decide (200 < (input.length : Int)) = false := Zb (by omega)
 clear hl hc hg hLd hf hin h1 hS hf0 hf1
 go_enter Tryd.func10, Tryd.ntmps10
 go_wp2_with (first
  | ((with_reducible refine ah (f := 25) rfl ?_); (try (refine aH (by rfl) ?_; dsimp only)); refine gl 17 Tryd.func25 #[.slice A0 l.length c0] ?_; (with_reducible refine (aC.calls kg A0 c0 l false w HL.out HC.out HG.out).mono ?_); rintro e w0 ⟨rfl, nd, rfl⟩; have HB := aa.mk (aW (Below.refl w.heap.size w) nd); refine ⟨_, rfl, ?_⟩)
  | ((with_reducible refine ah (f := 13) rfl ?_); (try (refine aH (by rfl) ?_; dsimp only)); refine gl 33 Tryd.func13 #[.int .i64 fuel] ?_; (with_reducible refine (dx.calls fuel _ _ (oI fuel)).mono ?_); rintro e w1 ⟨rfl, ndw1, rfl⟩; have HB := aa.mk (aW HB.out ndw1); refine ⟨_, rfl, ?_⟩)
  | ((with_reducible refine ah (f := 12) rfl ?_); (try (refine aH (by rfl) ?_; dsimp only)); refine gl 34 Tryd.func12 #[.slice A0 l.length c0, .int .i64 main, .slice A2 input.length c2, .int .i64 (fo fuel)] ?_; (with_reducible refine (HN.out _ HB.out).mono ?_); rintro e w2 ⟨gm, rfl, S0⟩; have S1 := aa.mk (S0.weak HB.out HB.out.size); clear S0; refine ⟨_, rfl, ?_⟩)
  | ((with_reducible refine ah (f := 13) rfl ?_); (try (refine aH (by rfl) ?_; dsimp only)); refine gl 42 Tryd.func13 #[.int .i64 fuel] ?_; (with_reducible refine (dx.calls fuel _ _ (oI fuel)).mono ?_); rintro e w3 ⟨rfl, nd3, rfl⟩; have S1 := aa.mk (S1.out.on (aW (Below.refl _ _) nd3)); refine ⟨_, rfl, ?_⟩)
  | ((with_reducible refine ah (f := 26) rfl ?_); (try (refine aH (by rfl) ?_; dsimp only)); refine gl 43 Tryd.func26 #[.slice A0 l.length c0, .int .i64 main, .slice A2 input.length c2, .int .i64 (fo fuel)] ?_; (with_reducible refine (HR.out _ S1.out.low).mono ?_); rintro e w4 hrn; obtain ⟨gr, rfl, hb⟩ := rz hrn; have S2 := aa.mk (S1.out.on hb); clear hrn hb; refine ⟨_, rfl, ?_⟩)
  | ((with_reducible refine ah (f := 31) rfl ?_); (try (refine aH (by rfl) ?_; dsimp only)); refine gl 58 Tryd.func31 #[.slice A0 l.length c0] ?_; (with_reducible refine (HS.out _ S2.out.low).mono ?_); rintro e w5 ⟨bs, rfl, hb⟩; have S3 := aa.mk (S2.out.on hb); clear hb; refine ⟨_, rfl, ?_⟩))
 exact bodyPost_ret (v := .tuple #[.pointer (some ⟨gm, 0, none⟩), .pointer (some ⟨gr, 0, none⟩), .bool (!bs), .bool true]) (by simp [results, Tryd.results10, go_sem]) rfl ⟨S3.out.low, .inr ⟨gm, gr, !bs, rfl, S3.out, HALL.out⟩⟩
theorem oboth_law (w : World) (A0 A2 : Option Addr) (c0 c2 : Nat) (l : List S46) (input : List Int) (main fuel : Int) (hl : Kd.C k46 w A0 l.length l) (hc : l.length ≤ c0) (hLd : Laid w) (hf : jB l) (hin : Kd.C (Kd.int .i64) w A2 input.length input) (hc2 : input.length ≤ c2) (hn : l.length ≤ 10000000000000) (hb : ∀ x ∈ l, x.f0.length ≤ 1000000000000000) :
  Calls Tryd.prog 10 #[.slice A0 l.length c0, .int .i64 main, .slice A2 input.length c2, .int .i64 fuel] w (mg l input main fuel w) := by
 obtain ⟨kg, r, hg⟩ := ru l hn hb
 cases r with
 | true => exact oboth_great w A0 A2 c0 c2 l input main fuel hl hc hLd hf hin hc2 kg hg
 | false =>
  by_cases h1 : 200 < input.length ∧ input.length ≤ 1000
  ·exact oboth_long w A0 A2 c0 c2 l input main fuel hl hc hLd hf hin hc2 kg hg h1.1 h1.2
  obtain ⟨r, ⟨K1, e1⟩, ⟨K2, e2⟩, hi⟩ := lq l hf main
  have e1 := e1 K1 (Zd _)
  have e2 := e2 K2 (Zd _)
  cases r with
  | false =>
   refine lc w A0 A2 c0 c2 l input main fuel hl hc hLd hf hin hc2 kg hg h1 60 (.inr rfl) (fun W hW => ?_) (fun W hW => ?_)
   ·exact new_unsound W A0 c0 l main (fo fuel) (Kd.dO hl hW) hc (hLd.below hW) K1 e1 _
   ·exact kE W A0 c0 l main (fo fuel) (Kd.dO hl hW) hc K2 e2 _
  | true =>
   have hS := hi.1 rfl
   by_cases hbad : fo fuel < 0 ∨ 1048576 < fo fuel ∨ 1000 < input.length
   ·refine lc w A0 A2 c0 c2 l input main fuel hl hc hLd hf hin hc2 kg hg h1 1 (.inl rfl) (fun W hW => ?_) (fun W hW => ?_)
    ·exact new_args W A0 A2 c0 c2 l main (fo fuel) (Kd.dO hl hW) hc (hLd.below hW) K1 e1 _ hbad
    ·exact mU W A0 A2 c0 c2 l main (fo fuel) (Kd.dO hl hW) hc K2 e2 _ hbad
   ·have f0 : 0 ≤ fo fuel := by omega
    have f1 : fo fuel ≤ 200 := few_range f0 (by omega)
    have a := hS.1
    obtain ⟨hs, _⟩ := fO hS a.2.2.1 a.2.2.2.1
    obtain ⟨t1, t2, t3, t4, t5, t6, t7⟩ := hs.1
    refine oboth_there w A0 A2 c0 c2 l input main fuel hl hc hLd hf hin hc2 kg hg (by omega) hS f0 f1 (fun W hW => ?_) (fun W hW => ?_) (fun W hW => ?_)
    ·exact new_soloR W A0 A2 c0 c2 l input main (fo fuel) (Kd.dO hl hW) hc (hLd.below hW) K1 e1 hf (Kd.dO hin hW) hc2 f0 (by omega) (by omega)
    ·exact mK W A0 A2 c0 c2 l input main (fo fuel) (fun k hk => Zf hk hW.size) (Kd.qx (Kd.C_F sw hl) hW) hc K2 e2 (Kd.dO hin hW) hc2 f0 (by omega) (by omega) a.2.2.1 a.2.2.2.1 ⟨t3, t4⟩
    ·exact slow_calls W A0 c0 l (Kd.dO hl hW) hc (by have := a.2.1; omega) (leads_of hS)
def lC (m : Mc) : Prop := ∀ f ∈ m.frames, f.cells.length ≤ 65536
theorem rO (f : Fr) (i : S43) : (cO f i).1.cells.length = f.cells.length := by
 unfold cO
 by_cases h1 : i.f0 = 1
 ·rw [if_pos h1]
 rw [if_neg h1]
 by_cases h2 : i.f0 = 2
 ·rw [if_pos h2]
 rw [if_neg h2]
 by_cases h3 : i.f0 = 3
 ·rw [if_pos h3]; simp
 rw [if_neg h3]
 by_cases h4 : i.f0 = 4
 ·rw [if_pos h4]; split <;> rfl
 rw [if_neg h4]
 by_cases h5 : i.f0 = 5
 ·rw [if_pos h5]; split <;> simp
 rw [if_neg h5]
 by_cases h6 : i.f0 = 6
 ·rw [if_pos h6]; exact iq _ _ _
 rw [if_neg h6]
 by_cases h15 : i.f0 = 15
 ·rw [if_pos h15]
 rw [if_neg h15]
 by_cases h16 : i.f0 = 16
 ·rw [if_pos h16]
 rw [if_neg h16]
 by_cases h17 : i.f0 = 17
 ·rw [if_pos h17]
 rw [if_neg h17]
 by_cases h18 : i.f0 = 18
 ·rw [if_pos h18]
 rw [if_neg h18]
 by_cases h23 : i.f0 = 23
 ·rw [if_pos h23]
 rw [if_neg h23]
 by_cases h25 : i.f0 = 25
 ·rw [if_pos h25]
 rw [if_neg h25]
theorem nW (l : List S46) (k : Int) (args : List Int) : (iV l k args).cells.length = args.length + ((au l k).f1.toNat - args.length) := by
 simp [iV]
theorem fI {r : List Fr} {f : Fr} (h : ∀ g ∈ r, g.cells.length ≤ 65536) (hf : f.cells.length ≤ 65536) : ∀ g ∈ r ++ [f], g.cells.length ≤ 65536 := fun g hg => (Zn.1 hg).elim (h g) (fun e => by simp at e; exact e ▸ hf)
theorem one_cells {m : Mc} {r : List Fr} {f : Fr} (F : Fits m r f) (C : lC m) : lC m.one.1 ∧ m.one.1.frames.length ≤ 51 := by
 have hr : ∀ g ∈ r, g.cells.length ≤ 65536 := fun g hg => C g (by rw [F.fr]; simp [hg])
 have hf : f.cells.length ≤ 65536 := C f (by rw [F.fr]; simp)
 have hd := F.deep
 have hcall := F.call
 rw [iI F.fr]
 generalize m.ins f = i at *
 unfold Mc.does lC
 split
 ·rename_i h19
  obtain ⟨a0, a1, a2, a3, a4, a5⟩ := hcall h19
  split
  ·exact ⟨fI hr hf, by simp [Mc.endM]; omega⟩
  ·refine ⟨fI (fI hr hf) ?_, by simp [Mc.dZ]; omega⟩
   refine Ze (Nat.le_of_eq (nW _ _ _)) ?_
   show (f.stack.drop (f.stack.length - i.f2.toNat)).length + ((au m.codes i.f1).f1.toNat - (f.stack.drop (f.stack.length - i.f2.toNat)).length) ≤ 65536
   rw [List.length_drop]
   omega
 ·split
  ·split
   ·exact ⟨fun g hg => by simp [Mc.endM] at hg, by simp [Mc.endM]⟩
   ·split
    ·refine ⟨fun g hg => ?_, ?_⟩
     ·have hg : g ∈ gL r (({ f with at_ := f.at_ + 1 } : Fr).stack.getLastD 0) := hg
      unfold gL at hg
      rcases Zn.1 hg with h | h
      ·exact hr g (List.dropLast_subset r h)
      ·rcases e : r.getLast? with _ | q
       ·rw [e] at h; simp at h
       ·rw [e] at h
        simp at h
        subst h
        exact hr q (List.mem_of_getLast? e)
     ·show (gL r _).length ≤ 51
      unfold gL
      rw [List.length_append, List.length_dropLast]
      split <;> simp <;> omega
    ·exact ⟨hr, by show r.length ≤ 51; omega⟩
  ·split
   ·exact ⟨fI hr hf, by simp; omega⟩
   ·split
    ·split
     ·exact ⟨fI hr hf, by simp [Mc.endM]; omega⟩
     ·exact ⟨fI hr hf, by simp; omega⟩
    ·split
     ·split
      ·exact ⟨fI hr hf, by simp [Mc.endM]; omega⟩
      ·exact ⟨fI hr hf, by simp; omega⟩
     ·split
      ·exact ⟨fI hr (by rw [rO]; exact hf), by simp; omega⟩
      ·exact ⟨fI hr (by rw [rO]; exact hf), by simp [Mc.endM]; omega⟩
theorem mZ : ∀ (k : Nat) {m : Mc}, Inv k m → m.ended = false → lC m → lC (m.steps k).1 ∧ (m.steps k).1.frames.length ≤ 51
 | 0, m, I, he, C => by
  obtain ⟨r, f, F⟩ := road.fits 0 m I he
  exact ⟨C, by show m.frames.length ≤ 51; rw [F.fr]; have := F.deep; simp; omega⟩
 | k + 1, m, I, he, C => by
  obtain ⟨r, f, F⟩ := road.fits (k + 1) m I he
  have h := one_cells F C
  show lC (if m.one.2 = true then (m.one.1, true) else if m.one.1.ended = true then (m.one.1, false) else Mc.steps k m.one.1).1 ∧ (if m.one.2 = true then (m.one.1, true) else if m.one.1.ended = true then (m.one.1, false) else Mc.steps k m.one.1).1.frames.length ≤ 51
  by_cases ht : m.one.2 = true
  ·rw [if_pos ht]; exact h
  ·rw [if_neg ht]
   by_cases hd : m.one.1.ended = true
   ·rw [if_pos hd]; exact h
   ·rw [if_neg hd]
    have hd' := Zk hd
    exact mZ k (road.next k m I he (Zk ht) hd') hd' h.1
structure Reach (m : Mc) : Prop where
 fit : Fit m
 told : Told m
 rng : Rng m
 cells : lC m
 frames : m.frames.length ≤ 51
theorem Reach.small {m : Mc} (R : Reach m) : Small m := ⟨by have := R.fit.evb; omega, fun f hf => by have := R.cells f hf; omega, by have := R.frames; omega⟩
theorem Reach.step {m : Mc} (R : Reach m) : Reach m.step.1 := by
 refine ⟨(gP R.fit).1, (pE R.told).1, step_rng R.rng, ?_, ?_⟩ <;>
 ·unfold Mc.step
  by_cases he : m.ended = true
  ·rw [if_pos he]; first | exact R.cells | exact R.frames
  ·rw [if_neg he]
   have h := mZ 1048576 R.fit.inv (Zk he) R.cells
   first | exact h.1 | exact h.2
theorem reach_new {l : List S46} {main : Int} (hS : gJ l main) (hf : jB l) {input : List Int} (hi : input.length ≤ 1000) (hin : ∀ x ∈ input, (Lit.int .i64 x).wf = true) {fuel : Int} (h0 : 0 ≤ fuel) (h1 : fuel ≤ 1048576) : Reach ((mc0 l input fuel).dZ main []) := by
 have a := hS.1
 obtain ⟨hs, _⟩ := fO hS a.2.2.1 a.2.2.2.1
 obtain ⟨t1, t2, t3, t4, t5, t6, t7⟩ := hs.1
 have hc : ((mc0 l input fuel).dZ main []).frames = [iV l main []] := rfl
 refine ⟨sQ hS hi h0 h1, told_new l input main fuel, ⟨fun k p => ?_, fun x hx => qW (hin x hx), fun f hf' => ?_⟩, fun f hf' => ?_, by rw [hc]; exact Nat.le_of_lt (show 1 < 51 by decide)⟩
 ·show In64 (az (au l k).f0 p).f1
  have h1 : ∀ y ∈ (au l k).f0, In64 y.f1 := by
   intro y hy
   unfold au at hy
   rw [List.getD_eq_getElem?_getD] at hy
   rcases e : l[k.toNat]? with _ | q
   ·rw [e] at hy; cases hy
   ·rw [e] at hy
    exact qW (hf q (List.mem_of_getElem? e) y hy).2.1
  unfold az
  rw [List.getD_eq_getElem?_getD]
  rcases e : (au l k).f0[p.toNat]? with _ | q
  ·exact jC
  ·exact h1 q (List.mem_of_getElem? e)
 ·rw [hc] at hf'
  obtain rfl : f = iV l main [] := by simpa using hf'
  exact ⟨dL.nil, dL.app dL.nil (dL.rep _)⟩
 ·rw [hc] at hf'
  obtain rfl : f = iV l main [] := by simpa using hf'
  refine Ze (Nat.le_of_eq (nW _ _ _)) ?_
  have e1 : (au l main).f1 ≤ 65536 := t4
  show 0 + ((au l main).f1.toNat - 0) ≤ 65536
  omega
section
variable {g g1 g2 : Nat} {m m1 m2 : Mc} {B : Nat} {w0 w w' : World}
theorem Solo.ticks (S : Solo g m B w0 w) : Calls Tryd.prog 18 #[.pointer (some ⟨g, 0, none⟩)] w fun e w' => e = .returned (.int .i64 m.ticks) ∧ Below w.heap.size w w' := by
 obtain ⟨Rd, o, hg, hM, _⟩ := S
 have h := rM hM; rw [MHo.ptr, hg] at h; exact h
theorem Solo.ended (S : Solo g m B w0 w) : Calls Tryd.prog 30 #[.pointer (some ⟨g, 0, none⟩)] w fun e w' => e = .returned (.bool m.ended) ∧ Below w.heap.size w w' := by
 obtain ⟨Rd, o, hg, hM, _⟩ := S
 have h := nQ hM; rw [MHo.ptr, hg] at h; exact h
theorem Solo.frames (S : Solo g m B w0 w) : Calls Tryd.prog 20 #[.pointer (some ⟨g, 0, none⟩)] w fun e w' => e = .returned (.int .i64 (m.frames.length : Nat)) ∧ Below w.heap.size w w' := by
 obtain ⟨Rd, o, hg, hM, _⟩ := S
 have h := qh hM; rw [MHo.ptr, hg] at h; exact h
theorem Solo.count (S : Solo g m B w0 w) : Calls Tryd.prog 22 #[.pointer (some ⟨g, 0, none⟩)] w fun e w' => e = .returned (.int .i64 (m.events.length : Nat)) ∧ Below w.heap.size w w' := by
 obtain ⟨Rd, o, hg, hM, _⟩ := S
 have h := rD hM; rw [MHo.ptr, hg] at h; exact h
theorem Solo.events (S : Solo g m B w0 w) (hl : m.events.length ≤ 4398046511104) : Calls Tryd.prog 16 #[.pointer (some ⟨g, 0, none⟩)] w fun e w' => ∃ v1, e = .returned v1 ∧ w'.ownsRow 0 38 2 v1 m.events.length (evs m.events) ∧ Below w.heap.size w w' := by
 obtain ⟨Rd, o, hg, hM, _⟩ := S
 have h := mh hM hl; rw [MHo.ptr, hg] at h
 exact h.mono (fun e w' ⟨v1, a, b, _, c⟩ => ⟨v1, a, b, c⟩)
end
theorem nN {w : World} {v : Value} {a b c d : Int} (h : w.ownsRow 0 38 2 v 2 (evs [(a, b), (c, d)])) : ∃ k cap, v = .slice (some ⟨k, 0, none⟩) 2 cap ∧ k < w.heap.size ∧ w.cell? ⟨k, 0, none⟩ = some (.int .i64 a) ∧ w.cell? ⟨k, 1, none⟩ = some (.int .i64 b) ∧ w.cell? ⟨k, 2, none⟩ = some (.int .i64 c) ∧ w.cell? ⟨k, 3, none⟩ = some (.int .i64 d) := by
 rcases h.2 with ⟨_, h0⟩ | ⟨k, cap, cur, rfl, _, hh, _⟩
 ·cases h0
 ·refine ⟨k, cap, rfl, bF hh, ?_, ?_, ?_, ?_⟩
  ·simpa [Addr.add] using h.cells (g := k) rfl 0 (.int .i64 a) rfl
  ·simpa [Addr.add] using h.cells (g := k) rfl 1 (.int .i64 b) rfl
  ·simpa [Addr.add] using h.cells (g := k) rfl 2 (.int .i64 c) rfl
  ·simpa [Addr.add] using h.cells (g := k) rfl 3 (.int .i64 d) rfl
theorem sG (fuel : Int) (h0 : 0 ≤ fuel) (h1 : fuel ≤ 1048576) : Fit (km fuel) := sQ (lM (by
 intro x hx y hy
 have : x = ⟨qo, 0, 0, false⟩ := by simpa [qC] using hx
 subst this
 have : ∀ y ∈ qo, (Lit.int .i64 y.f0).wf = true ∧ ((Lit.int .i64 y.f1).wf = true ∧ (Lit.int .i64 y.f2).wf = true) := by decide
 exact this y hy) rR) (by simp) h0 h1
theorem vG : jB qC := by
 intro x hx y hy
 have : x = ⟨qo, 0, 0, false⟩ := by simpa [qC] using hx
 subst this
 have : ∀ y ∈ qo, (Lit.int .i64 y.f0).wf = true ∧ ((Lit.int .i64 y.f1).wf = true ∧ (Lit.int .i64 y.f2).wf = true) := by decide
 exact this y hy
theorem kR (w : World) (hLd : Laid w) : Calls Tryd.prog 11 #[] w fun e w' => e = .returned (.bool true) ∧ Below w.heap.size w w' := by
 obtain ⟨W, hW⟩ : ∃ W, W = (w.alloc (.cells #[.int .i64 24, .int .i64 0, .int .i64 1, .int .i64 1, .int .i64 5, .int .i64 0, .int .i64 21, .int .i64 0, .int .i64 0, .int .i64 24, .int .i64 1, .int .i64 3, .int .i64 20, .int .i64 0, .int .i64 0] 43)).alloc (.cells #[.slice (some ⟨w.heap.size, 0, none⟩) 5 5, .int .i64 0, .int .i64 0, .bool false] 46) := ⟨_, rfl⟩
 have hbW : Below w.heap.size w W := by rw [hW]; exact bN (bN (Below.refl _ _) _) _
 have hr : Kd.C k43 W (some ⟨w.heap.size, 0, none⟩) qo.length qo := ins_row (t := 43) (by rw [hW]; exact bv (bW w _) _) (by decide)
 have hC : Kd.C k46 W (some ⟨w.heap.size + 1, 0, none⟩) qC.length qC := by
  refine cod_row (t := 46) (cs := [.slice (some ⟨w.heap.size, 0, none⟩) 5 5, .int .i64 0, .int .i64 0, .bool false]) ((bJ.none _ _).snoc (p := (⟨qo, 0, 0, false⟩ : S46)) (k46_mk W ⟨qo, 0, 0, false⟩ (c0 := 5) (by decide) hr) rfl) ?_ (by decide)
  rw [hW]
  have := bW (w.alloc (.cells #[.int .i64 24, .int .i64 0, .int .i64 1, .int .i64 1, .int .i64 5, .int .i64 0, .int .i64 21, .int .i64 0, .int .i64 0, .int .i64 24, .int .i64 1, .int .i64 3, .int .i64 20, .int .i64 0, .int .i64 0] 43)) (.cells #[.slice (some ⟨w.heap.size, 0, none⟩) 5 5, .int .i64 0, .int .i64 0, .bool false] 46)
  rwa [show (w.alloc (.cells #[.int .i64 24, .int .i64 0, .int .i64 1, .int .i64 1, .int .i64 5, .int .i64 0, .int .i64 21, .int .i64 0, .int .i64 0, .int .i64 24, .int .i64 1, .int .i64 3, .int .i64 20, .int .i64 0, .int .i64 0] 43)).heap.size = w.heap.size + 1 by simp] at this
 have hLW := hLd.below hbW
 have hnil : ∀ X : World, Kd.C (Kd.int .i64) X none ([] : List Int).length [] := fun X => Kd.vJ _ X
 have HN1 : aa (Calls Tryd.prog 12 #[.slice (some ⟨w.heap.size + 1, 0, none⟩) 1 1, .int .i64 0, .slice none 0 0, .int .i64 9] W (fun e w1 => ∃ g, e = .returned (.tuple #[.pointer (some ⟨g, 0, none⟩), .int .i64 0]) ∧ Solo g (km 9) W.heap.size W w1)) := ⟨new_solo W _ none 1 0 qC [] 0 9 hC (Zd _) hLW 60 rR vG (hnil W) (Zd _) (by decide) (by decide) (by decide)⟩
 have HN2 : aa (∀ w1 g, Solo g (km 9) W.heap.size W w1 → Calls Tryd.prog 12 #[.slice (some ⟨w.heap.size + 1, 0, none⟩) 1 1, .int .i64 0, .slice none 0 0, .int .i64 1] w1 (fun e w2 => ∃ g2, e = .returned (.tuple #[.pointer (some ⟨g2, 0, none⟩), .int .i64 0]) ∧ Duo g (km 9) g2 (km 1) W.heap.size W w2)) := ⟨fun w1 g S => by
  obtain ⟨_, _, _, _, _, hb⟩ := id S
  exact new_duo w1 _ none 1 0 qC [] 0 1 S (Zd _) (Kd.dO hC hb) (Zd _) (hLW.below hb) 60 rR vG (hnil w1) (Zd _) (by decide) (by decide) (by decide)⟩
 have HBW := aa.mk hbW
 have HN1 : aa (Calls Tryd.prog 12 #[.slice (some ⟨w.heap.size + 1, 0, none⟩) 1 1, .int .i64 0, .slice none 0 0, .int .i64 9] ((w.alloc (.cells #[.int .i64 24, .int .i64 0, .int .i64 1, .int .i64 1, .int .i64 5, .int .i64 0, .int .i64 21, .int .i64 0, .int .i64 0, .int .i64 24, .int .i64 1, .int .i64 3, .int .i64 20, .int .i64 0, .int .i64 0] 43)).alloc (.cells #[.slice (some ⟨w.heap.size, 0, none⟩) 5 5, .int .i64 0, .int .i64 0, .bool false] 46)) (fun e w1 => ∃ g, e = .returned (.tuple #[.pointer (some ⟨g, 0, none⟩), .int .i64 0]) ∧ Solo g (km 9) W.heap.size W w1)) := ⟨by rw [← hW]; exact HN1.out⟩
 clear hLd hbW hr hC hLW hnil
 have HWW := aa.mk hW; clear hW
 go_enter Tryd.func11, Tryd.ntmps11
 go_wp2_with (first
  | ((with_reducible refine ah (f := 12) rfl ?_); (try (refine aH (by rfl) ?_; dsimp only)); refine gl 18 Tryd.func12 #[.slice (some ⟨w.heap.size + 1, 0, none⟩) 1 1, .int .i64 0, .slice none 0 0, .int .i64 9] ?_; (with_reducible refine (HN1.out).mono ?_); rintro e w1 ⟨gm, rfl, S1⟩; have HN2 := aa.mk (HN2.out w1 gm S1); clear S1; refine ⟨_, rfl, ?_⟩)
  | ((with_reducible refine ah (f := 12) rfl ?_); (try (refine aH (by rfl) ?_; dsimp only)); refine gl 23 Tryd.func12 #[.slice (some ⟨w.heap.size + 1, 0, none⟩) 1 1, .int .i64 0, .slice none 0 0, .int .i64 1] ?_; (with_reducible refine (HN2.out).mono ?_); rintro e w2 ⟨gn, rfl, D0⟩; have H1 : aa (Calls Tryd.prog 21 #[.pointer (some ⟨gm, 0, none⟩)] _ (fun e w' => e = .returned (.bool true) ∧ Duo gm (km 9).step.1 gn (km 1) W.heap.size W w')) := ⟨by have h := D0.step (sG 9 (by decide) (by decide)) (Zd _); rw [km9.1] at h; exact h⟩; clear D0; refine ⟨_, rfl, ?_⟩)
  | ((with_reducible refine ah (f := 21) rfl ?_); (try (refine aH (by rfl) ?_; dsimp only)); refine gl 34 Tryd.func21 #[.pointer (some ⟨gm, 0, none⟩)] ?_; (with_reducible refine (H1.out).mono ?_); rintro e w3 ⟨rfl, D1⟩; have H2 : aa (Calls Tryd.prog 21 #[.pointer (some ⟨gm, 0, none⟩)] _ (fun e w' => e = .returned (.bool true) ∧ Duo gm (km 9).step.1.step.1 gn (km 1) W.heap.size W w')) := ⟨by have h := D1.step (gP (sG 9 (by decide) (by decide))).1 (Zd _); rw [km9.2.1] at h; exact h⟩; clear D1; refine ⟨_, rfl, ?_⟩)
  | ((with_reducible refine ah (f := 21) rfl ?_); (try (refine aH (by rfl) ?_; dsimp only)); refine gl 39 Tryd.func21 #[.pointer (some ⟨gm, 0, none⟩)] ?_; (with_reducible refine (H2.out).mono ?_); rintro e w4 ⟨rfl, D2⟩; have H3 : aa (Calls Tryd.prog 21 #[.pointer (some ⟨gm, 0, none⟩)] _ (fun e w' => e = .returned (.bool false) ∧ Duo gm (km 9).step.1.step.1.step.1 gn (km 1) W.heap.size W w')) := ⟨by have h := D2.step (gP (gP (sG 9 (by decide) (by decide))).1).1 (Zd _); rw [km9.2.2.1] at h; exact h⟩; clear D2; refine ⟨_, rfl, ?_⟩)
  | ((with_reducible refine ah (f := 21) rfl ?_); (try (refine aH (by rfl) ?_; dsimp only)); refine gl 44 Tryd.func21 #[.pointer (some ⟨gm, 0, none⟩)] ?_; (with_reducible refine (H3.out).mono ?_); rintro e w5 ⟨rfl, D3⟩; have H4 : aa (Calls Tryd.prog 21 #[.pointer (some ⟨gn, 0, none⟩)] _ (fun e w' => e = .returned (.bool true) ∧ Duo gn (km 1).step.1 gm (km 9).step.1.step.1.step.1 W.heap.size W w')) := ⟨by have h := D3.swap.step (sG 1 (by decide) (by decide)) (Zd _); rw [km1.1] at h; exact h⟩; clear D3; refine ⟨_, rfl, ?_⟩)
  | ((with_reducible refine ah (f := 21) rfl ?_); (try (refine aH (by rfl) ?_; dsimp only)); refine gl 48 Tryd.func21 #[.pointer (some ⟨gn, 0, none⟩)] ?_; (with_reducible refine (H4.out).mono ?_); rintro e w6 ⟨rfl, D4⟩; have H5 : aa (Calls Tryd.prog 21 #[.pointer (some ⟨gn, 0, none⟩)] _ (fun e w' => e = .returned (.bool false) ∧ Duo gn (km 1).step.1.step.1 gm (km 9).step.1.step.1.step.1 W.heap.size W w')) := ⟨by have h := D4.step (gP (sG 1 (by decide) (by decide))).1 (Zd _); rw [km1.2.1] at h; exact h⟩; clear D4; refine ⟨_, rfl, ?_⟩)
  | ((with_reducible refine ah (f := 21) rfl ?_); (try (refine aH (by rfl) ?_; dsimp only)); refine gl 53 Tryd.func21 #[.pointer (some ⟨gn, 0, none⟩)] ?_; (with_reducible refine (H5.out).mono ?_); rintro e w7 ⟨rfl, D5⟩; have H6 := aa.mk (D5.swap.solo.events (Nat.le_of_succ_le (Nat.le_of_succ_le (gP (gP (gP (sG 9 (by decide) (by decide))).1).1).1.evb))); have D5 := aa.mk D5; refine ⟨_, rfl, ?_⟩)
  | ((with_reducible refine ah (f := 16) rfl ?_); (try (refine aH (by rfl) ?_; dsimp only)); refine gl 56 Tryd.func16 #[.pointer (some ⟨gm, 0, none⟩)] ?_; (with_reducible refine (H6.out).mono ?_); rintro e w8 ⟨va, rfl, ha, hb⟩; have D6 := aa.mk (D5.out.below (Zd _) hb); rw [show ((km 9).step.1.step.1.step.1).events = [(1, 5), (3, 0)] from km9.2.2.2.2.1] at ha; obtain ⟨ka, ca, rfl, hka, xa0, xa1, xa2, xa3⟩ := nN ha; have H7 := aa.mk (D6.out.solo.events (Nat.le_of_succ_le (Nat.le_of_succ_le (gP (gP (sG 1 (by decide) (by decide))).1).1.evb))); clear ha hb; refine ⟨_, rfl, ?_⟩)
  | ((with_reducible refine ah (f := 16) rfl ?_); (try (refine aH (by rfl) ?_; dsimp only)); refine gl 58 Tryd.func16 #[.pointer (some ⟨gn, 0, none⟩)] ?_; (with_reducible refine (H7.out).mono ?_); rintro e w9 ⟨vb, rfl, ha, hb⟩; have D7 := aa.mk (D6.out.below (Zd _) hb); rw [show ((km 1).step.1.step.1).events = [(1, 5), (5, 0)] from km1.2.2.1] at ha; obtain ⟨kb, cb, rfl, hkb, xb0, xb1, xb2, xb3⟩ := nN ha; have XA := aa.mk (And.intro ((hb.cell hka).trans xa0) (And.intro ((hb.cell hka).trans xa1) (And.intro ((hb.cell hka).trans xa2) (Zf hka hb.size)))); have XB := aa.mk (And.intro xb2 hkb); clear xa0 xa1 xa2 xa3 xb0 xb1 xb2 xb3 ha hb hka hkb; have H8 : aa (Calls Tryd.prog 18 #[.pointer (some ⟨gm, 0, none⟩)] w9 (fun e w' => e = .returned (.int .i64 2) ∧ Below w9.heap.size w9 w')) := ⟨by have h := D7.out.swap.solo.ticks; rw [km9.2.2.2.1] at h; exact h⟩; refine ⟨_, rfl, ?_⟩)
  | ((with_reducible refine ah (f := 18) rfl ?_); (try (refine aH (by rfl) ?_; dsimp only)); refine gl 60 Tryd.func18 #[.pointer (some ⟨gm, 0, none⟩)] ?_; (with_reducible refine (H8.out).mono ?_); rintro e w10 ⟨rfl, hb⟩; have D8 := aa.mk (D7.out.below (Zd _) hb); have xa0 := (hb.cell XA.out.2.2.2).trans XA.out.1; have xa1 := (hb.cell XA.out.2.2.2).trans XA.out.2.1; have xa2 := (hb.cell XA.out.2.2.2).trans XA.out.2.2.1; have xb2 := (hb.cell XB.out.2).trans XB.out.1; clear hb; have H9 : aa (Calls Tryd.prog 30 #[.pointer (some ⟨gm, 0, none⟩)] w10 (fun e w' => e = .returned (.bool true) ∧ Below w10.heap.size w10 w')) := ⟨by have h := D8.out.swap.solo.ended; rw [km9.2.2.2.2.2.1] at h; exact h⟩; refine ⟨_, rfl, ?_⟩)
  | ((with_reducible refine ah (f := 30) rfl ?_); (try (refine aH (by rfl) ?_; dsimp only)); refine gl 95 Tryd.func30 #[.pointer (some ⟨gm, 0, none⟩)] ?_; (with_reducible refine (H9.out).mono ?_); rintro e w11 ⟨rfl, hb⟩; have D9 := aa.mk (D8.out.below (Zd _) hb); clear hb; have H10 : aa (Calls Tryd.prog 20 #[.pointer (some ⟨gm, 0, none⟩)] w11 (fun e w' => e = .returned (.int .i64 0) ∧ Below w11.heap.size w11 w')) := ⟨by have h := D9.out.swap.solo.frames; rw [km9.2.2.2.2.2.2] at h; exact h⟩; refine ⟨_, rfl, ?_⟩)
  | ((with_reducible refine ah (f := 20) rfl ?_); (try (refine aH (by rfl) ?_; dsimp only)); refine gl 99 Tryd.func20 #[.pointer (some ⟨gm, 0, none⟩)] ?_; (with_reducible refine (H10.out).mono ?_); rintro e w12 ⟨rfl, hb⟩; have D10 := aa.mk (D9.out.below (Zd _) hb); clear hb; have H11 : aa (Calls Tryd.prog 20 #[.pointer (some ⟨gn, 0, none⟩)] w12 (fun e w' => e = .returned (.int .i64 1) ∧ Below w12.heap.size w12 w')) := ⟨by have h := D10.out.solo.frames; rw [km1.2.2.2] at h; exact h⟩; refine ⟨_, rfl, ?_⟩)
  | ((with_reducible refine ah (f := 20) rfl ?_); (try (refine aH (by rfl) ?_; dsimp only)); refine gl 104 Tryd.func20 #[.pointer (some ⟨gn, 0, none⟩)] ?_; (with_reducible refine (H11.out).mono ?_); rintro e w13 ⟨rfl, hb⟩; have HF : aa (Below w.heap.size w w13) := ⟨by obtain ⟨_, _, _, _, _, _, _, _, _, _, _, _, h9⟩ := D10.out; exact HBW.out.trans ((h9.trans (hb.mono h9.size)).mono HBW.out.size)⟩; clear hb; refine ⟨_, rfl, ?_⟩))
 go_ret
 exact ⟨rfl, HF.out⟩
section
variable (w : World) (A0 A2 : Option Addr) (c0 c2 : Nat) (l : List S46) (input : List Int) (main fuel : Int)
theorem vmOwn_great (hl : Kd.C k46 w A0 l.length l) (hc : l.length ≤ c0) (hLd : Laid w) (kg : Nat) (hg : aC.f kg l = some true) :
  Calls Tryd.prog 7 #[.slice A0 l.length c0, .int .i64 main, .slice A2 input.length c2, .int .i64 fuel] w fun e w' => e = .returned (.bool true) ∧ Below w.heap.size w w' := by
 have HL := aa.mk hl; have HC := aa.mk hc; have HG := aa.mk hg; have HLD := aa.mk hLd
 clear hl hc hg hLd
 go_enter Tryd.func7, Tryd.ntmps7
 go_wp2_with (first
  | ((with_reducible refine ah (f := 25) rfl ?_); (try (refine aH (by rfl) ?_; dsimp only)); refine gl 31 Tryd.func25 #[.slice A0 l.length c0] ?_; (with_reducible refine (aC.calls kg A0 c0 l true w HL.out HC.out HG.out).mono ?_); rintro e w0 ⟨rfl, nd, rfl⟩; have HB := aa.mk (aW (Below.refl w.heap.size w) nd); refine ⟨_, rfl, ?_⟩)
  | ((with_reducible refine ah (f := 11) rfl ?_); (try (refine aH (by rfl) ?_; dsimp only)); refine gl 37 Tryd.func11 #[] ?_; (with_reducible refine (kR _ (HLD.out.below HB.out)).mono ?_); rintro e w9 ⟨rfl, hb⟩; have HZ : aa (Below w.heap.size w w9) := ⟨(HB.out).trans (hb.mono (HB.out).size)⟩; clear hb; refine ⟨_, rfl, ?_⟩))
 go_ret
 exact ⟨rfl, HZ.out⟩
theorem vmOwn_long (hl : Kd.C k46 w A0 l.length l) (hc : l.length ≤ c0) (hLd : Laid w) (kg : Nat) (hg : aC.f kg l = some false) (hi : 200 < input.length) :
  Calls Tryd.prog 7 #[.slice A0 l.length c0, .int .i64 main, .slice A2 input.length c2, .int .i64 fuel] w fun e w' => e = .returned (.bool true) ∧ Below w.heap.size w w' := by
 have HL := aa.mk hl; have HC := aa.mk hc; have HG := aa.mk hg; have HLD := aa.mk hLd
 have e1 : decide (200 < (input.length : Int)) = true := Za (by omega)
 clear hl hc hg hLd
 go_enter Tryd.func7, Tryd.ntmps7
 go_wp2_with (first
  | ((with_reducible refine ah (f := 25) rfl ?_); (try (refine aH (by rfl) ?_; dsimp only)); refine gl 31 Tryd.func25 #[.slice A0 l.length c0] ?_; (with_reducible refine (aC.calls kg A0 c0 l false w HL.out HC.out HG.out).mono ?_); rintro e w0 ⟨rfl, nd, rfl⟩; have HB := aa.mk (aW (Below.refl w.heap.size w) nd); refine ⟨_, rfl, ?_⟩)
  | ((with_reducible refine ah (f := 11) rfl ?_); (try (refine aH (by rfl) ?_; dsimp only)); refine gl 37 Tryd.func11 #[] ?_; (with_reducible refine (kR _ (HLD.out.below HB.out)).mono ?_); rintro e w9 ⟨rfl, hb⟩; have HZ : aa (Below w.heap.size w w9) := ⟨(HB.out).trans (hb.mono (HB.out).size)⟩; clear hb; refine ⟨_, rfl, ?_⟩))
 go_ret
 exact ⟨rfl, HZ.out⟩
theorem hold_ {P : Prop} (h : aa P) : P := h.out
theorem vmOwn_goes (hl : Kd.C k46 w A0 l.length l) (hc : l.length ≤ c0) (hLd : Laid w) (hf : jB l) (hin : Kd.C (Kd.int .i64) w A2 input.length input) (hc2 : input.length ≤ c2) (hln : l.length * 48 ≤ 140737488351232) (hls : ∀ x ∈ l, x.f0.length * 24 ≤ 140737488351232) (hwf : ∀ x ∈ input, (Lit.int .i64 x).wf = true) (kg : Nat) (hg : aC.f kg l = some false) (hi : input.length ≤ 200)
  (hany : ∀ W, Below w.heap.size w W → Calls Tryd.prog 26 #[.slice A0 l.length c0, .int .i64 main, .slice A2 input.length c2, .int .i64 (fo fuel)] W fun e w' => ∃ p er, e = .returned (.tuple #[.pointer p, .int .i64 er]) ∧ Below W.heap.size W w')
  (href : ∀ W, Below w.heap.size w W → gJ l main → 0 ≤ fo fuel → fo fuel ≤ 200 → Calls Tryd.prog 26 #[.slice A0 l.length c0, .int .i64 main, .slice A2 input.length c2, .int .i64 (fo fuel)] W (uh (fun k => k < w.heap.size) W l input main (fo fuel)))
  (hboth : ∀ W A A' c c', Below w.heap.size w W → Kd.C k46 W A l.length l → l.length ≤ c → Kd.C (Kd.int .i64) W A' input.length input → input.length ≤ c' → Calls Tryd.prog 10 #[.slice A l.length c, .int .i64 main, .slice A' input.length c', .int .i64 fuel] W (mg l input main fuel W)) :
  Calls Tryd.prog 7 #[.slice A0 l.length c0, .int .i64 main, .slice A2 input.length c2, .int .i64 fuel] w fun e w' => e = .returned (.bool true) ∧ Below w.heap.size w w' := by
 have HL := aa.mk hl; have HC := aa.mk hc; have HG := aa.mk hg; have HLD := aa.mk hLd; have HF := aa.mk hf; have HIN := aa.mk hin; have HC2 := aa.mk hc2; have HLS := aa.mk hls; have HWF := aa.mk hwf; have HANY := aa.mk hany; have HREF := aa.mk href; have HBOTH := aa.mk hboth
 have e1 : decide (200 < (input.length : Int)) = false := Zb (by omega)
 clear hl hc hg hLd hf hin hc2 hls hwf hany href hboth
 go_enter Tryd.func7, Tryd.ntmps7
 go_wp2_with (((with_reducible refine ah (f := 25) rfl ?_); (try (refine aH (by rfl) ?_; dsimp only)); refine gl 31 Tryd.func25 #[.slice A0 l.length c0] ?_; (with_reducible refine (aC.calls kg A0 c0 l false w HL.out HC.out HG.out).mono ?_); rintro e w0 ⟨rfl, nd, rfl⟩; have HB := aa.mk (aW (Below.refl w.heap.size w) nd); refine ⟨_, rfl, ?_⟩))
 go_loopg [9, 10] l.length (fun gk v9 v10 W => ∃ (x : Nat) (cA : Option Addr) (cn cC : Nat), v9 = .slice cA cn cC ∧ v10 = .int .i64 (x : Int) ∧ aa (gk + x = l.length) ∧ aa (Kd.R k46 46 W w.heap.size (fun _ => True) (.slice cA cn cC) (l.take x)) ∧ aa (Below w.heap.size w W))
 case atStart => exact ⟨0, none, 0, 0, rfl, rfl, ⟨rfl⟩, ⟨Kd.kF _ _ _ _ _⟩, HB⟩
 case round =>
  obtain ⟨x, cA, cn, cC, rfl, rfl, A1, A2_, A5⟩ := hrel
  obtain ⟨T, hT⟩ : ∃ T, T = l.take x := ⟨_, rfl⟩
  rw [← hT] at A2_
  have HT := aa.mk hT; clear hT
  by_cases hx : x < l.length
  ·obtain ⟨gk, rfl⟩ : ∃ j, gk = j + 1 := ⟨gk - 1, by have := A1.out; omega⟩
   have hxb : (x : Int) ≤ 3000000000000 := by omega
   have g0 : decide (x < l.length) = true := Za hx
   obtain ⟨ad, B0, d0, rfl, hx0, hx1, hx2, hx3, hl0, hi0⟩ := eZ (Kd.dO HL.out A5.out) (x : Int) (by omega) (by omega)
   simp only [Int.toNat_natCast] at hx0 hx1 hx2 hx3
   obtain ⟨y, hy⟩ : ∃ y, y = au l (x : Int) := ⟨_, rfl⟩
   rw [← hy] at hx0 hx1 hx2 hx3 hl0 hi0
   have HY := aa.mk hy; have HI0 := aa.mk hi0; have HL0 := aa.mk hl0; clear hy hi0 hl0
   have p1 := eq_true (show (0 : Int) ≤ (x : Int) by omega); have p2 := eq_true (show (x : Int) < (l.length : Int) by omega)
   have HYL : aa (y.f0.length * 24 ≤ 140737488351232) := ⟨HLS.out y (by rw [HY.out]; rw [show au l (x : Int) = l[x]'hx by simp [au, List.getD, hx]]; exact List.getElem_mem _)⟩
   obtain ⟨gb, hgb⟩ : ∃ gb, gb = wr.heap.size := ⟨_, rfl⟩
   have HGB := aa.mk hgb; clear hgb
   have HX := aa.mk hx; clear hx
   go_wp2_with (first | ((with_reducible refine di (b := .append) (xs := #[.tmp 53, .tmp 55]) rfl ?_); refine hold_ ?_) | ((with_reducible refine di (b := .append) (xs := #[.tmp 48, .tmp 50]) rfl ?_); at_builtin; refine Kd.gI k43 (w0 := w) w.heap.size rfl (.tmp 48) (.tmp 50) 44 43 (.agg #[.int .i64 0, .int .i64 0, .int .i64 0]) 24 rfl Tryd.underlying44 uC rfl (by decide) (by decide) (.slice none 0 0) ([] : List S43) y.f0 _ _ _ (fun k => gb ≤ k) (fun _ => False) rfl rfl (Kd.kF _ _ _ _ _) (Kd.fq HI0.out _) (fun x cs h => by obtain rfl := oD h; exact sS _ _ _ _) (fun _ h => h.elim) (fun k hk => by have := HGB.out; simp at hk; omega) (bN A5.out _) (aK (bN A5.out _)) (by have := HYL.out; simp; omega) ?_; intro nv w3 ho hb hg hat; have ho : Kd.R k43 43 w3 w.heap.size (fun k => gb ≤ k) nv y.f0 := ho; obtain ⟨nA, nC, rfl⟩ := Kd.dh ho; have B3 : w3.heap[gb]? = some (.cells #[.slice B0 y.f0.length d0, .int .i64 y.f1, .int .i64 y.f2, .bool y.f3] 46 (0, 0)) := by { rw [HGB.out]; exact cZ (bW wr _) hg (by simp [Value.ownBlock]) }; have b0 : w3.cell? ⟨gb, 0, none⟩ = some (.slice B0 y.f0.length d0) := ae B3 0; have b0f : w3.frozen? ⟨gb, 0, none⟩ = false := ai B3 0; have b1 : w3.cell? ⟨gb, 1, none⟩ = some (.int .i64 y.f1) := ae B3 1; have b2 : w3.cell? ⟨gb, 2, none⟩ = some (.int .i64 y.f2) := ae B3 2; have b3 : w3.cell? ⟨gb, 3, none⟩ = some (.bool y.f3) := ae B3 3; rw [HGB.out] at b0 b0f b1 b2 b3; have HB3 := aa.mk B3; have HN := aa.mk ho; have HBE := aa.mk hb; have HGR := aa.mk hg; clear ho hb hg hat B3))
   refine aa.mk ?_
   rw [← HGB.out]
   obtain ⟨w4, hw4⟩ : ∃ w4, w4 = w3.setCell ⟨gb, 0, none⟩ (.slice nA y.f0.length nC) := ⟨_, rfl⟩
   rw [← hw4]
   have B4 : w4.heap[gb]? = some (.cells #[.slice nA y.f0.length nC, .int .i64 y.f1, .int .i64 y.f2, .bool y.f3] 46 (0, 0)) := by rw [hw4]; exact dH HB3.out 0 _
   have HGB4 : aa (Below w.heap.size w w4) := ⟨by rw [hw4]; exact gV HBE.out (by have := HGB.out; have := A5.out.size; omega)⟩
   have HBW := bN (Below.refl wr.heap.size wr) (.cells #[.slice B0 y.f0.length d0, .int .i64 y.f1, .int .i64 y.f2, .bool y.f3] 46)
   have CV4 : aa (Kd.R k46 46 w4 w.heap.size (fun _ => True) (.slice cA cn cC) T) := ⟨by
    rw [hw4]
    refine Kd.dB (Kd.lJ (p := ⟨gb, 0, none⟩) (Kd.qJ (Kd.eT (Kd.iY A2_.out) HBW) HGR.out (fun k _ => by simp [Value.ownBlock])) (fun k hk => ?_) _) (fun k hk => trivial)
    have := hk.2.2.1; have := HGB.out; show k ≠ gb; omega⟩
   have NW4 : aa (Kd.R k43 43 w4 w.heap.size (fun k => gb ≤ k) (.slice nA y.f0.length nC) y.f0) := ⟨by
    rw [hw4]
    exact Kd.vv HN.out HB3.out (by simp [k43, Kd.iso, Kd.pair, Kd.int, Kd.scalar]) 0 _⟩
   have HB4 := aa.mk B4; have HW4 := aa.mk hw4
   have HOK : aa (∀ k, gb ≤ k → (fun _ => True) k ∧ some k ≠ (Value.slice cA cn cC).ownBlock) := ⟨fun k hk => ⟨trivial, fun e => by have := Kd.il A2_.out k e.symm; have := HGB.out; omega⟩⟩
   have HSZ : aa (gb ≤ w4.heap.size) := ⟨Nat.le_of_lt (bF B4)⟩
   have HTL : aa ((T.length + 1) * 48 ≤ 140737488355328) := ⟨by have h1 : T.length ≤ l.length := by { rw [HT.out, List.length_take]; omega }; omega⟩
   have HS4 : aa (w4.heap.size = w3.heap.size) := ⟨by rw [hw4]; simp⟩
   clear B4 HBW hw4
   at_builtin
   refine Kd.fQ k46 (w0 := w) w.heap.size rfl (.tmp 53) (.tmp 55) 22 46 (.agg #[.slice none 0 0, .int .i64 0, .int .i64 0, .bool false]) 48 rfl Tryd.underlying22 ut rfl (by decide) (by decide) (.slice cA cn cC) T y [.slice nA y.f0.length nC, .int .i64 y.f1, .int .i64 y.f2, .bool y.f3] (fun _ => True) (fun k => gb ≤ k) rfl (by rw [HS4.out]; rfl) (tH _ _ _ _ NW4.out) HOK.out (fun k hk => trivial) CV4.out HGB4.out (aK HGB4.out) HTL.out ?_
   intro v1 w5 ho hb hg hat
   obtain ⟨vA, vn, vC, rfl⟩ : ∃ A n c, v1 = .slice A n c := (by obtain ⟨A, c, e⟩ := Kd.dh ho; exact ⟨_, _, _, e⟩)
   have HB5 := aa.mk hb; have HO5 := aa.mk ho
   clear ho hb hg hat
   go_wp2
   go_roundg gk
   case measure => omega
   case rel =>
     have hx := HX.out
     have ht : l.take (x + 1) = T ++ [y] := by
      rw [HT.out, HY.out, List.take_succ_eq_append_getElem hx]
      simp [au, List.getD, hx]
     exact ⟨x + 1, vA, vn, vC, rfl, by go_num, ⟨by have := A1.out; omega⟩, ⟨by rw [ht]; exact HO5.out⟩, HB5⟩
  ·have g0 : decide (x < l.length) = false := Zb hx
   obtain rfl : T = l := by rw [HT.out]; exact List.take_of_length_le (by omega)
   obtain ⟨hcn, hcc, hcr⟩ := Kd.aU A2_.out
   subst hcn
   have HX := aa.mk hx; have HCC := aa.mk hcc; clear hx hcc hcr
   go_wp2_with (first
    | ((with_reducible refine di (b := .append) (xs := #[.tmp 57, .tmp 58]) rfl ?_); at_builtin; refine Kd.gI (Kd.int .i64) (w0 := w) w.heap.size rfl (.tmp 57) (.tmp 58) 23 2 (.int .i64 0) 8 rfl Tryd.underlying23 jd rfl (by decide) (by decide) (.slice none 0 0) ([] : List Int) input _ _ _ (fun _ => True) (fun _ => False) rfl rfl (Kd.kF _ _ _ _ (fun _ => True)) (Kd.dO HIN.out A5.out) (fun _ _ h => h) (fun _ h => h.elim) (fun _ _ => trivial) A5.out (aK A5.out) (by simp; omega) ?_; intro iv w5 ho hb hg hat; have ho : Kd.R (Kd.int .i64) 2 w5 w.heap.size (fun _ => True) iv input := ho; obtain ⟨iA, iC, rfl⟩ := Kd.dh ho; have HMN : aa (Kd.R k46 46 w5 w.heap.size (fun _ => True) (.slice cA T.length cC) T) := ⟨Kd.qJ A2_.out hg (fun k _ => by simp [Value.ownBlock])⟩; have HIN5 := aa.mk ho; have HB5 := aa.mk hb; clear ho hb hg hat)
    | ((with_reducible refine ah (f := 10) rfl ?_); (try (refine aH (by rfl) ?_; dsimp only)); refine gl 65 Tryd.func10 #[.slice cA T.length cC, .int .i64 main, .slice iA input.length iC, .int .i64 fuel] ?_; (with_reducible refine (HBOTH.out w5 cA iA cC iC HB5.out (Kd.aU HMN.out).2.2 (Kd.aU HMN.out).2.1 (Kd.aU HIN5.out).2.2 (Kd.aU HIN5.out).2.1).mono ?_); rintro e w6 ⟨hb, h⟩; have HB6 := aa.mk (HB5.out.trans (hb.mono HB5.out.size)); clear hb; rcases h with rfl | ⟨gm, gr, b, rfl, S0, hS, hf0, hf1, hi2⟩; rotate_left; have S0 := aa.mk S0; have HSP := aa.mk (And.intro hS (And.intro hf0 hf1)); clear hS hf0 hf1 hi2; cases b; all_goals (refine ⟨_, rfl, ?_⟩))
    | ((with_reducible refine ah (f := 13) rfl ?_); (try (refine aH (by rfl) ?_; dsimp only)); refine gl 75 Tryd.func13 #[.int .i64 fuel] ?_; (with_reducible refine (dx.calls fuel _ _ (oI fuel)).mono ?_); rintro e w7 ⟨rfl, nd7, rfl⟩; have HB7 := aa.mk (aW HB6.out nd7); refine ⟨_, rfl, ?_⟩)
    | ((with_reducible refine ah (f := 26) rfl ?_); (try (refine aH (by rfl) ?_; dsimp only)); refine gl 76 Tryd.func26 #[.slice A0 T.length c0, .int .i64 main, .slice A2 input.length c2, .int .i64 (fo fuel)] ?_; (with_reducible refine (HREF.out _ HB7.out HSP.out.1 HSP.out.2.1 HSP.out.2.2).mono ?_); rintro e w8 hrn; obtain ⟨gk9, rfl, T0, hb8⟩ := (S0.out.on (aW (Below.refl _ _) nd7)).twin HB5.out.size hrn; have T0 := aa.mk T0; have HB8 := aa.mk (HB7.out.trans (hb8.mono HB7.out.size)); have HB58 := aa.mk ((S0.out.on (aW (Below.refl _ _) nd7)).low.trans (hb8.mono (S0.out.on (aW (Below.refl _ _) nd7)).low.size)); clear hb8 hrn; refine ⟨_, rfl, ?_⟩)
    | ((with_reducible refine ah (f := 26) rfl ?_); (try (refine aH (by rfl) ?_; dsimp only)); refine gl 76 Tryd.func26 #[.slice A0 T.length c0, .int .i64 main, .slice A2 input.length c2, .int .i64 (fo fuel)] ?_; (with_reducible refine (HANY.out _ HB7.out).mono ?_); rintro e w8 ⟨pk, er, rfl, hb8⟩; have HB8 := aa.mk (HB7.out.trans (hb8.mono HB7.out.size)); clear hb8; refine ⟨_, rfl, ?_⟩)
    | ((with_reducible refine ah (f := 11) rfl ?_); (try (refine aH (by rfl) ?_; dsimp only)); refine gl 95 Tryd.func11 #[] ?_; (with_reducible refine (kR _ (HLD.out.below HB8.out)).mono ?_); rintro e w9 ⟨rfl, hb⟩; have HZ : aa (Below w.heap.size w w9) := ⟨(HB8.out).trans (hb.mono (HB8.out).size)⟩; clear hb; refine ⟨_, rfl, ?_⟩))
   rotate_left
   all_goals try (go_ret; exact ⟨rfl, HZ.out⟩)
   have hT0 : 0 < T.length := by have h1 := HSP.out.1.1.2.2.1; have h2 := HSP.out.1.1.2.2.2.1; omega
   obtain ⟨ad, c9, hv9⟩ := Kd.R_slice1 HMN.out hT0
   obtain ⟨rfl, -, rfl⟩ := Value.slice.inj hv9
   obtain ⟨gq, hgq⟩ := Kd.R_head HMN.out
   have HSL : aa (kY w8 w.heap.size w5.heap.size gq T) := ⟨by have h := HMN.out; rw [hgq] at h; exact (slots_of h).below (Kd.il h gq rfl) HB58.out⟩
   have HRM : aa (Room w8 w.heap.size w5.heap.size 2 1 iA input.length) := ⟨(nT (Kd.iM (Kd.bU HIN5.out (Nat.zero_le _))) (Kd.ed HIN5.out)).below HB58.out⟩
   have HGQ := aa.mk hgq; clear hv9 hgq
   go_loopg [20] T.length (fun gk v20 W => ∃ x : Nat, v20 = .int .i64 (x : Int) ∧ aa (gk + x = T.length) ∧ aa (kY W w.heap.size w5.heap.size gq T) ∧ aa (Room W w.heap.size w5.heap.size 2 1 iA input.length) ∧ aa (Mod (fun k => w.heap.size ≤ k ∧ k < w5.heap.size) w8 W))
   case atStart => exact ⟨0, rfl, ⟨rfl⟩, HSL, HRM, ⟨Mod.refl _ _⟩⟩
   case round =>
    obtain ⟨x, rfl, L1, L2, L3, L4⟩ := hrel
    by_cases hx : x < T.length
    ·obtain ⟨gB, rfl⟩ : ∃ j, gk = j + 1 := ⟨gk - 1, by have := L1.out; omega⟩
     have g3 : decide (x < T.length) = true := Za hx
     have hxb : (x : Int) ≤ 3000000000000 := by omega
     obtain ⟨y, hy⟩ : ∃ y, T[x]? = some y := ⟨_, Zi hx⟩
     have HYL : aa (y.f0.length * 24 ≤ 140737488351232) := ⟨HLS.out y (List.mem_of_getElem? hy)⟩
     have p1 := eq_true (show (0 : Int) ≤ (x : Int) by omega); have p2 := eq_true (show (x : Int) < (T.length : Int) by omega)
     have HY := aa.mk hy; have HX2 := aa.mk hx; clear hy hx
     go_wp2
     go_loopg [21] y.f0.length (fun gk v21 W => ∃ z : Nat, v21 = .int .i64 (z : Int) ∧ aa (gk + z = y.f0.length) ∧ aa (kY W w.heap.size w5.heap.size gq T) ∧ aa (Room W w.heap.size w5.heap.size 2 1 iA input.length) ∧ aa (Mod (fun k => w.heap.size ≤ k ∧ k < w5.heap.size) w8 W))
     case atStart => exact ⟨0, rfl, ⟨rfl⟩, L2, L3, L4⟩
     case round =>
      obtain ⟨z, rfl, N1, N2, N3, N4⟩ := hrel
      obtain ⟨A, c, h1, h2⟩ := N2.out x y HY.out
      have q0 : wr.cell? (ad.add (x * 4)) = some (.slice A y.f0.length c) := by rw [HGQ.out, fT, Nat.zero_add]; exact h1
      by_cases hz : z < y.f0.length
      ·obtain ⟨gC, rfl⟩ : ∃ j, gk = j + 1 := ⟨gk - 1, by have := N1.out; omega⟩
       have g4 : decide (z < y.f0.length) = true := Za hz
       have hzb : (z : Int) ≤ 6000000000000 := by have := HYL.out; omega
       obtain ⟨gi, cs, rfl, e2, e3, e4, e5, e6⟩ := h2 (by omega)
       have p3 := eq_true (show (0 : Int) ≤ (z : Int) by omega); have p4 := eq_true (show (z : Int) < (y.f0.length : Int) by omega)
       obtain ⟨bd, hbd⟩ : ∃ bd : Addr, bd = ⟨gi, 0, none⟩ := ⟨_, rfl⟩
       rw [← hbd] at q0
       have ha : bd.add (z * 3) = ⟨gi, z * 3, none⟩ := by rw [hbd, fT, Nat.zero_add]
       obtain ⟨o0, b0⟩ : ∃ u, wr.cell? (bd.add (z * 3)) = some u := ⟨_, by rw [ha, ae e5]; exact Array.getElem?_eq_getElem (by omega)⟩
       have f0 : wr.frozen? (bd.add (z * 3)) = false := by rw [ha]; exact ai e5 _
       have k1 := dH e5 (z * 3) (.int .i64 1)
       have k2 := dH k1 (z * 3 + 1) (.int .i64 7)
       obtain ⟨o3, b3⟩ : ∃ u, (wr.setCell (bd.add (z * 3)) (.int .i64 1)).cell? ⟨(bd.add (z * 3)).block, (bd.add (z * 3)).off + 1, none⟩ = some u := ⟨_, by rw [ha, ae k1]; exact Array.getElem?_eq_getElem (by rw [Array.size_setIfInBounds]; show z * 3 + 1 < _; omega)⟩
       have f3 : (wr.setCell (bd.add (z * 3)) (.int .i64 1)).frozen? ⟨(bd.add (z * 3)).block, (bd.add (z * 3)).off + 1, none⟩ = false := by rw [ha]; exact ai k1 _
       obtain ⟨o4, b4⟩ : ∃ u, ((wr.setCell (bd.add (z * 3)) (.int .i64 1)).setCell ⟨(bd.add (z * 3)).block, (bd.add (z * 3)).off + 1, none⟩ (.int .i64 7)).cell? ⟨(bd.add (z * 3)).block, (bd.add (z * 3)).off + 2, none⟩ = some u := ⟨_, by rw [ha, ae k2]; exact Array.getElem?_eq_getElem (by rw [Array.size_setIfInBounds, Array.size_setIfInBounds]; show z * 3 + 2 < _; omega)⟩
       have f4 : ((wr.setCell (bd.add (z * 3)) (.int .i64 1)).setCell ⟨(bd.add (z * 3)).block, (bd.add (z * 3)).off + 1, none⟩ (.int .i64 7)).frozen? ⟨(bd.add (z * 3)).block, (bd.add (z * 3)).off + 2, none⟩ = false := by rw [ha]; exact ai k2 _
       have HA := aa.mk ha; have HE := aa.mk (And.intro e2 (And.intro e3 e4))
       clear h1 h2 hbd ha e2 e3 e4 e5 e6 hz k1 k2
       go_wp2
       go_roundg gC
       case measure => omega
       case rel =>
        have ha := HA.out
        rw [ha]
        obtain ⟨e2, e3, e4⟩ := HE.out
        have hm : ∀ {W : World} {j : Nat} {u : Value}, Mod (fun k => w.heap.size ≤ k ∧ k < w5.heap.size) w8 W → Mod (fun k => w.heap.size ≤ k ∧ k < w5.heap.size) w8 (W.setCell ⟨gi, j, none⟩ u) := fun h => h.setCell (p := ⟨gi, _, none⟩) (fun _ => ⟨e3, e4⟩) _
        exact ⟨z + 1, by go_num, ⟨by have := N1.out; omega⟩, ⟨((N2.out.set (Ne.symm e2) _).set (Ne.symm e2) _).set (Ne.symm e2) _⟩, ⟨((N3.out.set _ _ _).set _ _ _).set _ _ _⟩, ⟨hm (hm (hm N4.out))⟩⟩
      ·have g4 : decide (z < y.f0.length) = false := Zb hz
       clear h1 h2 hz
       go_wp2
       go_roundg gB
       case measure => omega
       case rel => exact ⟨x + 1, by go_num, ⟨by have := L1.out; omega⟩, N2, N3, N4⟩
    ·have g3 : decide (x < T.length) = false := Zb hx
     clear hx
     go_wp2
     go_loopg [22] input.length (fun gk v22 W => ∃ x : Nat, v22 = .int .i64 (x : Int) ∧ aa (gk + x = input.length) ∧ aa (Room W w.heap.size w5.heap.size 2 1 iA input.length) ∧ aa (Mod (fun k => w.heap.size ≤ k ∧ k < w5.heap.size) w8 W))
     case atStart => exact ⟨0, rfl, ⟨rfl⟩, L3, L4⟩
     case round =>
      obtain ⟨x, rfl, M1, M2, M3⟩ := hrel
      by_cases hx : x < input.length
      ·obtain ⟨gD, rfl⟩ : ∃ j, gk = j + 1 := ⟨gk - 1, by have := M1.out; omega⟩
       have g5 : decide (x < input.length) = true := Za hx
       obtain ⟨gi, cs, hA, e2, e3, e4, e5⟩ := M2.out (by omega)
       obtain ⟨bd, hbd⟩ : ∃ bd : Addr, bd = ⟨gi, 0, none⟩ := ⟨_, rfl⟩
       rw [← hbd] at hA
       subst hA
       have ha : bd.add x = ⟨gi, x, none⟩ := by rw [hbd, fT, Nat.zero_add]
       obtain ⟨o0, b0⟩ : ∃ u, wr.cell? (bd.add x) = some u := ⟨_, by rw [ha, ae e4]; exact Array.getElem?_eq_getElem (by omega)⟩
       have f0 : wr.frozen? (bd.add x) = false := by rw [ha]; exact ai e4 _
       have p1 := eq_true (show (0 : Int) ≤ (x : Int) by omega); have p2 := eq_true (show (x : Int) < (input.length : Int) by omega)
       have hxb : (x : Int) ≤ 200 := by omega
       have HA := aa.mk ha; have HE := aa.mk (And.intro e2 e3)
       clear hbd ha e2 e3 e4 e5 hx
       go_wp2
       go_roundg gD
       case measure => omega
       case rel =>
        rw [HA.out]
        exact ⟨x + 1, by go_num, ⟨by have := M1.out; omega⟩, ⟨M2.out.set _ _ _⟩, ⟨M3.out.setCell (p := ⟨gi, _, none⟩) (fun _ => HE.out) _⟩⟩
      ·have g5 : decide (x < input.length) = false := Zb hx
       obtain ⟨wD, rfl⟩ : ∃ W, W = wr := ⟨_, rfl⟩
       have hs8 : w5.heap.size ≤ w8.heap.size := HB58.out.size
       have HSD : aa (w5.heap.size ≤ wD.heap.size) := ⟨Ze hs8 M3.out.size⟩
       have P0 := aa.mk (T0.out.pair M3.out hs8 HB5.out.size)
       have HBD : aa (Below w.heap.size w wD) := ⟨HB8.out.trans (Mod.below (a := w) M3.out HB8.out.size (fun k hk => hk.1))⟩
       have HR0 := aa.mk (reach_new HSP.out.1 HF.out (show input.length ≤ 1000 by omega) HWF.out HSP.out.2.1 (show fo fuel ≤ 1048576 by have := HSP.out.2.2; omega))
       have HF2 : aa (fo fuel ≤ 200) := ⟨HSP.out.2.2⟩
       clear hx hs8
       go_wp2
       go_loopg [] 201 (fun gk W => ∃ (M mr : Mc), aa (iJ gm M gk9 mr w5.heap.size wD W) ∧ aa (Sim mr M) ∧ aa (Reach M) ∧ aa (M.ended = false → M.fuel.toNat + 1 ≤ gk))
       case atStart => exact ⟨_, _, P0, ⟨.inl rfl⟩, HR0, ⟨fun _ => by show (fo fuel).toNat + 1 ≤ 201; have := HF2.out; omega⟩⟩
       case round =>
        obtain ⟨M, mr, B1, B2, B3, B4⟩ := hrel
        have c11 : wr.cell? ⟨gk9, 11, none⟩ = some (.bool M.ended) := by rw [← B2.out.alike.ended]; exact B1.out.ended
        rcases he : M.ended with _ | _
        ·rw [he] at c11
         have e1 : mr = M := B2.out.eq he
         subst e1
         obtain ⟨gE, hg⟩ : ∃ g, gk = g + 1 := ⟨gk - 1, by have := B4.out he; omega⟩
         subst hg
         obtain ⟨b1, hb1⟩ : ∃ b1, b1 = mr.step.2 := ⟨_, rfl⟩
         obtain ⟨M1, hM1⟩ : ∃ M1, M1 = mr.step.1 := ⟨_, rfl⟩
         have HS21 : aa (Calls Tryd.prog 21 #[.pointer (some ⟨gm, 0, none⟩)] wr (fun e w' => e = .returned (.bool b1) ∧ iJ gm M1 gk9 mr w5.heap.size wD w')) := ⟨by rw [hb1, hM1]; exact B1.out.step B3.out.fit HSD.out⟩
         have HS24 : aa (∀ {W : World}, iJ gm M1 gk9 mr w5.heap.size wD W → Calls Tryd.prog 24 #[.pointer (some ⟨gk9, 0, none⟩), .int .i64 1048576] W (fun e w' => e = .returned (.bool b1) ∧ ∃ mr', Sim mr' M1 ∧ iJ gm M1 gk9 mr' w5.heap.size wD w')) := ⟨fun P => by rw [hb1, hM1]; rw [hM1] at P; exact P.rstep B3.out.fit B3.out.rng he HSD.out⟩
         have HRS : aa (Reach M1) := ⟨by rw [hM1]; exact B3.out.step⟩
         have hbb : (b1 != b1) = false := by cases b1 <;> rfl
         obtain ⟨EN, hEN⟩ : ∃ EN, EN = M1.events.length := ⟨_, rfl⟩
         have HENB : aa (EN ≤ 4398046511104) := ⟨by rw [hEN]; exact HRS.out.small.evs⟩
         have HS16 : aa (∀ {W : World} {mr' : Mc}, iJ gm M1 gk9 mr' w5.heap.size wD W → Calls Tryd.prog 16 #[.pointer (some ⟨gm, 0, none⟩)] W fun e w' => ∃ A c, e = .returned (.slice A EN c) ∧ Room w' W.heap.size w'.heap.size 38 2 A EN ∧ Below W.heap.size W w') := ⟨fun P => by rw [hEN]; exact P.events HRS.out.small.evs⟩
         have HS27 : aa (∀ {W : World} {mr' : Mc}, iJ gm M1 gk9 mr' w5.heap.size wD W → Calls Tryd.prog 27 #[.pointer (some ⟨gm, 0, none⟩), .int .i64 0] W fun e w' => ∃ p mk A n c b, e = .returned (.tuple #[.int .i64 p, .int .i64 mk, .slice A n c, .bool b]) ∧ n ≤ 1000000 ∧ Room w' W.heap.size w'.heap.size 2 1 A n ∧ Below W.heap.size W w') := ⟨fun P => P.iV HRS.out.small.cells⟩
         have HE := aa.mk he; have HB1 := aa.mk hb1; have HM1 := aa.mk hM1
         clear he hb1 hM1 hEN
         go_wp2_with (first
          | ((with_reducible refine ah (f := 21) rfl ?_); (try (refine aH (by rfl) ?_; dsimp only)); refine gl 136 Tryd.func21 #[.pointer (some ⟨gm, 0, none⟩)] ?_; (with_reducible refine (HS21.out).mono ?_); rintro e w3 ⟨rfl, P1⟩; have HR24 := HS24.out P1; refine ⟨_, rfl, ?_⟩)
          | ((with_reducible refine ah (f := 24) rfl ?_); (try (refine aH (by rfl) ?_; dsimp only)); refine gl 138 Tryd.func24 #[.pointer (some ⟨gk9, 0, none⟩), .int .i64 1048576] ?_; (with_reducible refine (HR24).mono ?_); rintro e w4 ⟨rfl, mr2, hsim2, P2⟩; have hS16 := HS16.out P2; have HSIM2 := aa.mk hsim2; have P2 := aa.mk P2; clear HR24 hsim2; refine ⟨_, rfl, ?_⟩)
          | ((with_reducible refine ah (f := 16) rfl ?_); (try (refine aH (by rfl) ?_; dsimp only)); refine gl 141 Tryd.func16 #[.pointer (some ⟨gm, 0, none⟩)] ?_; (with_reducible refine (hS16).mono ?_); rintro e w6 ⟨eA, eC, rfl, hro, hb46⟩; have HRO := aa.mk hro; have HB46 := aa.mk hb46; clear hS16 hro hb46; refine ⟨_, rfl, ?_⟩))
         go_loopg [24] EN (fun gk v24 W => ∃ x : Nat, v24 = .int .i64 (x : Int) ∧ aa (gk + x = EN) ∧ aa (Room W w4.heap.size w6.heap.size 38 2 eA EN) ∧ aa (Mod (fun k => w4.heap.size ≤ k ∧ k < w6.heap.size) w6 W))
         case atStart => exact ⟨0, rfl, ⟨rfl⟩, HRO, ⟨Mod.refl _ _⟩⟩
         case round =>
          obtain ⟨x, rfl, F1, F2, F3⟩ := hrel
          by_cases hx : x < EN
          ·obtain ⟨gF, rfl⟩ : ∃ j, gk = j + 1 := ⟨gk - 1, by have := F1.out; omega⟩
           have g6 : decide (x < EN) = true := Za hx
           obtain ⟨gi, cs, hA, e2, e3, e4, e5⟩ := F2.out (by omega)
           obtain ⟨bd, hbd⟩ : ∃ bd : Addr, bd = ⟨gi, 0, none⟩ := ⟨_, rfl⟩
           rw [← hbd] at hA
           subst hA
           have ha : bd.add (x * 2) = ⟨gi, x * 2, none⟩ := by rw [hbd, fT, Nat.zero_add]
           obtain ⟨o0, b0⟩ : ∃ u, wr.cell? ⟨(bd.add (x * 2)).block, (bd.add (x * 2)).off + 1, none⟩ = some u := ⟨_, by rw [ha, ae e4]; exact Array.getElem?_eq_getElem (by show x * 2 + 1 < _; omega)⟩
           have f0 : wr.frozen? ⟨(bd.add (x * 2)).block, (bd.add (x * 2)).off + 1, none⟩ = false := by rw [ha]; exact ai e4 _
           have p1 := eq_true (show (0 : Int) ≤ (x : Int) by omega); have p2 := eq_true (show (x : Int) < (EN : Int) by omega)
           have hxb : (x : Int) ≤ 4398046511104 := by have := HENB.out; omega
           have HA := aa.mk ha; have HEE := aa.mk (And.intro e2 e3)
           clear hbd ha e2 e3 e4 e5 hx
           go_wp2
           go_roundg gF
           case measure => omega
           case rel =>
            rw [HA.out]
            exact ⟨x + 1, by go_num, ⟨by have := F1.out; omega⟩, ⟨F2.out.set _ _ _⟩, ⟨F3.out.setCell (p := ⟨gi, _, none⟩) (fun _ => HEE.out) _⟩⟩
          ·have g6 : decide (x < EN) = false := Zb hx
           obtain ⟨w7, rfl⟩ : ∃ W, W = wr := ⟨_, rfl⟩
           have P3 := aa.mk (P2.out.on HSD.out (tV HB46.out (Zd _) F3.out))
           clear hx
           go_wp2_with (((with_reducible refine ah (f := 27) rfl ?_); (try (refine aH (by rfl) ?_; dsimp only)); refine gl 154 Tryd.func27 #[.pointer (some ⟨gm, 0, none⟩), .int .i64 0] ?_; (with_reducible refine (HS27.out P3.out).mono ?_); rintro e w9 ⟨p9, mk9, cA9, n, cC9, b9, rfl, hnb, hro, hb79⟩; have HNB := aa.mk hnb; have HRO9 := aa.mk hro; have HB79 := aa.mk hb79; clear hnb hro hb79; refine ⟨_, rfl, ?_⟩))
           go_loopg [29] n (fun gk v29 W => ∃ x : Nat, v29 = .int .i64 (x : Int) ∧ aa (gk + x = n) ∧ aa (Room W w7.heap.size w9.heap.size 2 1 cA9 n) ∧ aa (Mod (fun k => w7.heap.size ≤ k ∧ k < w9.heap.size) w9 W))
           case atStart => exact ⟨0, rfl, ⟨rfl⟩, HRO9, ⟨Mod.refl _ _⟩⟩
           case round =>
            obtain ⟨x, rfl, G1, G2, G3⟩ := hrel
            by_cases hx : x < n
            ·obtain ⟨gG, rfl⟩ : ∃ j, gk = j + 1 := ⟨gk - 1, by have := G1.out; omega⟩
             have g7 : decide (x < n) = true := Za hx
             obtain ⟨gi, cs, hA, e2, e3, e4, e5⟩ := G2.out (by omega)
             obtain ⟨bd, hbd⟩ : ∃ bd : Addr, bd = ⟨gi, 0, none⟩ := ⟨_, rfl⟩
             rw [← hbd] at hA
             subst hA
             have ha : bd.add x = ⟨gi, x, none⟩ := by rw [hbd, fT, Nat.zero_add]
             obtain ⟨o0, b0⟩ : ∃ u, wr.cell? (bd.add x) = some u := ⟨_, by rw [ha, ae e4]; exact Array.getElem?_eq_getElem (by omega)⟩
             have f0 : wr.frozen? (bd.add x) = false := by rw [ha]; exact ai e4 _
             have p1 := eq_true (show (0 : Int) ≤ (x : Int) by omega); have p2 := eq_true (show (x : Int) < (n : Int) by omega)
             have hxb : (x : Int) ≤ 1000000 := by have := HNB.out; omega
             have HA := aa.mk ha; have HEE := aa.mk (And.intro e2 e3)
             clear hbd ha e2 e3 e4 e5 hx
             go_wp2
             go_roundg gG
             case measure => omega
             case rel =>
              rw [HA.out]
              exact ⟨x + 1, by go_num, ⟨by have := G1.out; omega⟩, ⟨G2.out.set _ _ _⟩, ⟨G3.out.setCell (p := ⟨gi, _, none⟩) (fun _ => HEE.out) _⟩⟩
            ·have g7 : decide (x < n) = false := Zb hx
             have P4 := aa.mk (P3.out.on HSD.out (tV HB79.out (Zd _) G3.out))
             clear hx
             go_wp2
             go_roundg gE
             case measure => omega
             case rel =>
              refine ⟨M1, mr2, P4, HSIM2, HRS, ⟨fun hne => ?_⟩⟩
              have hM1 := HM1.out; subst hM1
              obtain ⟨q1, q2, q3, q4⟩ := pE B3.out.told
              have h5 : mr.step.2 = true := by
               rcases h : mr.step.2 with _ | _
               ·rw [q4 h] at hne; cases hne
               ·rfl
              rw [h5, if_pos rfl] at q3
              have h6 := B3.out.step.fit.good.fuel.1
              have h7 := B4.out HE.out
              omega
        ·rw [he] at c11
         have HS23 : aa (Calls Tryd.prog 23 #[.pointer (some ⟨gm, 0, none⟩), .pointer (some ⟨gk9, 0, none⟩)] wr (fun e w' => e = .returned (.bool true) ∧ iJ gm M gk9 mr w5.heap.size wD w')) := ⟨B1.out.same B2.out.alike B3.out.small HSD.out⟩
         clear he
         go_wp2_with (first
          | ((with_reducible refine ah (f := 23) rfl ?_); (try (refine aH (by rfl) ?_; dsimp only)); refine gl 170 Tryd.func23 #[.pointer (some ⟨gm, 0, none⟩), .pointer (some ⟨gk9, 0, none⟩)] ?_; (with_reducible refine (HS23.out).mono ?_); rintro e w3 ⟨rfl, P1⟩; have HBE := aa.mk (HBD.out.trans (P1.low.mono HB5.out.size)); have P1 := aa.mk P1; refine ⟨_, rfl, ?_⟩)
          | ((with_reducible refine ah (f := 11) rfl ?_); (try (refine aH (by rfl) ?_; dsimp only)); refine gl 172 Tryd.func11 #[] ?_; (with_reducible refine (kR _ (HLD.out.below HBE.out)).mono ?_); rintro e w9 ⟨rfl, hb⟩; have HZ : aa (Below w.heap.size w w9) := ⟨(HBE.out).trans (hb.mono (HBE.out).size)⟩; clear hb; refine ⟨_, rfl, ?_⟩))
         go_ret
         exact ⟨rfl, HZ.out⟩
theorem refnew_any (hl : Kd.C k46 w A0 l.length l) (hc : l.length ≤ c0) (hf : jB l) (hin : Kd.C (Kd.int .i64) w A2 input.length input) (hc2 : input.length ≤ c2) :
  Calls Tryd.prog 26 #[.slice A0 l.length c0, .int .i64 main, .slice A2 input.length c2, .int .i64 fuel] w fun e w' => ∃ p er, e = .returned (.tuple #[.pointer p, .int .i64 er]) ∧ Below w.heap.size w w' := by
 obtain ⟨r, _, ⟨K2, e2⟩, hi⟩ := lq l hf main
 have e2 := e2 K2 (Zd _)
 cases r with
 | false => exact (kE w A0 c0 l main fuel hl hc K2 e2 _).mono (fun e w' h => ⟨_, _, h.1, h.2⟩)
 | true =>
  have hS := hi.1 rfl
  by_cases hbad : fuel < 0 ∨ 1048576 < fuel ∨ 1000 < input.length
  ·exact (mU w A0 A2 c0 c2 l main fuel hl hc K2 e2 _ hbad).mono (fun e w' h => ⟨_, _, h.1, h.2⟩)
  ·have a := hS.1
   obtain ⟨hs, _⟩ := fO hS a.2.2.1 a.2.2.2.1
   obtain ⟨t1, t2, t3, t4, t5, t6, t7⟩ := hs.1
   refine (mK w A0 A2 c0 c2 l input main fuel (R0 := fun k => k < w.heap.size) (fun k hk => hk) (Kd.C_F sw hl) hc K2 e2 hin hc2 (by omega) (by omega) (by omega) a.2.2.1 a.2.2.2.1 ⟨t3, t4⟩).mono (fun e w' h => ?_)
   obtain ⟨gr, he, hb⟩ := rz h
   exact ⟨_, _, he, hb⟩
end
theorem vmOwn_calls (A0 : Option Addr) (c0 : Nat) (l : List S46) (main : Int) (A2 : Option Addr) (c2 : Nat) (input : List Int) (fuel : Int) (w : World) (hLd : Laid w) (hl : Kd.C k46 w A0 l.length l) (hc : l.length ≤ c0) (hin : Kd.C (Kd.int .i64) w A2 input.length input) (hc2 : input.length ≤ c2)
  (g0 : l.length * 48 ≤ 140737488351232 ∧ ∀ x ∈ l, ((x.f0.length * 24 ≤ 140737488351232 ∧ ∀ y3 ∈ x.f0, ((Lit.int .i64 y3.f0).wf = true ∧ ((Lit.int .i64 y3.f1).wf = true ∧ (Lit.int .i64 y3.f2).wf = true))) ∧ ((Lit.int .i64 x.f1).wf = true ∧ ((Lit.int .i64 x.f2).wf = true ∧ True))))
  (_ : (Lit.int .i64 main).wf = true) (hwf : input.length * 8 ≤ 140737488351232 ∧ ∀ x ∈ input, (Lit.int .i64 x).wf = true) (_ : (Lit.int .i64 fuel).wf = true) :
  Calls Tryd.prog 7 #[.slice A0 l.length c0, .int .i64 main, .slice A2 input.length c2, .int .i64 fuel] w fun e w' => e = .returned (.bool true) ∧ Below w.heap.size w w' := by
 have hn : l.length ≤ 10000000000000 := by omega
 have hb : ∀ x ∈ l, x.f0.length ≤ 1000000000000000 := fun x hx => by have := (g0.2 x hx).1.1; omega
 have hf : jB l := fun x hx y hy => (g0.2 x hx).1.2 y hy
 obtain ⟨kg, r, hg⟩ := ru l hn hb
 cases r with
 | true => exact vmOwn_great w A0 A2 c0 c2 l input main fuel hl hc hLd kg hg
 | false =>
  by_cases hi : 200 < input.length
  ·exact vmOwn_long w A0 A2 c0 c2 l input main fuel hl hc hLd kg hg hi
  ·refine vmOwn_goes w A0 A2 c0 c2 l input main fuel hl hc hLd hf hin hc2 g0.1 (fun x hx => (g0.2 x hx).1.1) hwf.2 kg hg (by omega) (fun W hW => ?_) (fun W hW hS f0 f1 => ?_) (fun W A A' c c' hW h1 h2 h3 h4 => ?_)
   ·exact refnew_any W A0 A2 c0 c2 l input main (fo fuel) (Kd.dO hl hW) hc hf (Kd.dO hin hW) hc2
   ·obtain ⟨r, _, ⟨K2, e2⟩, hi2⟩ := lq l hf main
    have e2 := e2 K2 (Zd _)
    rw [hi2.2 hS] at e2
    have a := hS.1
    obtain ⟨hs, _⟩ := fO hS a.2.2.1 a.2.2.2.1
    obtain ⟨t1, t2, t3, t4, t5, t6, t7⟩ := hs.1
    exact mK W A0 A2 c0 c2 l input main (fo fuel) (fun k hk => Zf hk hW.size) (Kd.qx (Kd.C_F sw hl) hW) hc K2 e2 (Kd.dO hin hW) hc2 f0 (by omega) (by omega) a.2.2.1 a.2.2.2.1 ⟨t3, t4⟩
   ·exact oboth_law W A A' c c' l input main fuel h1 h2 (hLd.below hW) hf h3 h4 hn hb
end Go.Proofs.YthckiolgpgplpaaDoor
