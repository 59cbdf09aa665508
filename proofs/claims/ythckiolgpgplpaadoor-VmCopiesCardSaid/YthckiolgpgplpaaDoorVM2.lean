/- The walks of the machine, by hand. -/
import Derived.Test.YthckiolgpgplpaaDoorVRone
import Derived.Test.YthckiolgpgplpaaDoorPx14
set_option linter.unusedVariables false
set_option linter.unusedSimpArgs false
set_option maxRecDepth 1000000
set_option maxHeartbeats 4000000
namespace Go.Proofs.YthckiolgpgplpaaDoor
open Go.RowKit YC YA YB YD YE
section
variable {Rd : Nat → Prop} {w : World} {o : RMo} {m : Mc}
def Way (m : Mc) (N gk : Nat) (m1 : Mc) : Prop := (m1.ended = false ∧ Inv gk m1 ∧ Rng m1 ∧ m.steps N = m1.steps gk) ∨ (m1.ended = true ∧ Sim m1 (m.steps N).1 ∧ (m.steps N).2 = false)
def tC (Rd : Nat → Prop) (w : World) (o : RMo) (p : Mc × Bool) (e : Ending) (w' : World) : Prop := e = .returned (.bool p.2) ∧ ∃ m', Sim m' p.1 ∧ gZ Rd w o m' w'
theorem rsteps_on (H : ROn Rd w o m) (N : Nat) (hN : N = 1048576) (hi : Inv N m) (R : Rng m) (he : m.ended = false) :
  Calls Tryd.prog 24 #[o.ptr, .int .i64 1048576] w (tC Rd w o (m.steps N)) := by
 have HH := aa.mk H; have HN := aa.mk hN; have HI := aa.mk hi; have HE := aa.mk he; have HR := aa.mk R
 clear H hN hi he R
 show Calls Tryd.prog 24 #[.pointer (some ⟨o.g, 0, none⟩), .int .i64 1048576] w _
 go_enter Tryd.func24, Tryd.ntmps24
 go_wp2
 go_loopg [5] N (fun gk v5 W => ∃ (x : Nat) (o1 : RMo) (m1 : Mc), v5 = .int .i64 (x : Int) ∧ aa (gk + x = N) ∧ aa (ROn Rd W o1 m1) ∧ aa (jE w o o1) ∧ aa (Mod (fun k => k ∈ o.own) w W) ∧ aa (Way m N gk m1))
 case atStart => exact ⟨0, o, m, rfl, ⟨by omega⟩, HH, ⟨jE.refl _ _⟩, ⟨Mod.refl _ _⟩, ⟨.inl ⟨HE.out, HI.out, HR.out, rfl⟩⟩⟩
 case round =>
  obtain ⟨x, o1, m1, rfl, A1, A2, A3, A4, A5⟩ := hrel
  have hg1 : o1.g = o.g := A3.out.1
  have c11 : wr.cell? ⟨o.g, 11, none⟩ = some (.bool m1.ended) := by rw [← hg1]; exact ae A2.out.blk 11
  have HG1 := aa.mk hg1; clear hg1
  rcases A5.out with ⟨hl, hinv, hrng, hst⟩ | ⟨hend, hsim, hfal⟩
  ·rw [hl] at c11
   have HLV := aa.mk hl; have HINV := aa.mk hinv; have HRNG := aa.mk hrng; have HST := aa.mk hst
   clear hl hinv hrng hst A5
   rcases Nat.eq_zero_or_pos gk with h0 | h0
   ·have hx : decide ((x : Int) < 1048576) = false := Zb (by have := A1.out; have := HN.out; omega)
    have HEND : aa (Calls Tryd.prog 44 #[.pointer (some ⟨o.g, 0, none⟩), .int .i64 5, .int .i64 0] wr (fun e w' => e = .returned (.tuple #[]) ∧ gZ Rd wr o1 (m1.endM 5 0) w')) := ⟨by
     obtain ⟨r, f, F⟩ := road.fits gk m1 HINV.out HLV.out
     have h := kH A2.out 5 0 (by have := F.events; omega)
     rwa [RMo.ptr, HG1.out] at h⟩
    have H0 := aa.mk h0; clear h0
    go_wp2_with ((with_reducible refine ah (f := 44) rfl ?_); refine gl 31 Tryd.func44 #[.pointer (some ⟨o.g, 0, none⟩), .int .i64 5, .int .i64 0] ?_; refine HEND.out.mono ?_; rintro e w3 ⟨rfl, hA3⟩; have HA3 := aa.mk hA3; clear hA3; refine ⟨_, rfl, ?_⟩)
    go_ret
    have e1 : m.steps N = (m1.endM 5 0, false) := by rw [HST.out, H0.out]; rfl
    rw [e1]
    exact ⟨rfl, _, .inl rfl, gZ.then_ A3.out A4.out HA3.out⟩
   ·obtain ⟨g, hgg⟩ : ∃ g, gk = g + 1 := ⟨gk - 1, by omega⟩
    subst hgg
    have hx : decide ((x : Int) < 1048576) = true := Za (by have := A1.out; have := HN.out; omega)
    have ex : IntKind.i64.wrap ((x : Int) + 1) = (x : Int) + 1 := IntWalk.i64_in _ (by have := A1.out; have := HN.out; omega)
    obtain ⟨r, f, F⟩ := road.fits (g + 1) m1 HINV.out HLV.out
    have P := A2.out.putG HG1.out 12 (.int .i64 ((x : Int) + 1)) ((x : Int) + 1) (m' := m1) rfl rfl rfl rfl rfl
    have c12 : wr.cell? ⟨o.g, 12, none⟩ = some (.int .i64 o1.ran) := by rw [← HG1.out]; exact ae A2.out.blk 12
    have c12f : wr.frozen? ⟨o.g, 12, none⟩ = false := by rw [← HG1.out]; exact ai A2.out.blk 12
    obtain ⟨b, hb⟩ : ∃ b, b = m1.rone.2 := ⟨_, rfl⟩
    have HONE : aa (Calls Tryd.prog 43 #[.pointer (some ⟨o.g, 0, none⟩)] (wr.setCell ⟨o.g, 12, none⟩ (.int .i64 ((x : Int) + 1))) (fun e w' => e = .returned (.bool b) ∧ gZ Rd (wr.setCell ⟨o.g, 12, none⟩ (.int .i64 ((x : Int) + 1))) { o1 with ran := ((x : Int) + 1) } m1.rone.1 w')) := ⟨by
     have h := rone_on P.1 F (HRNG.out.frs f (by rw [F.fr]; simp)).st
     rw [hb]
     have h2 : ({ o1 with ran := ((x : Int) + 1) } : RMo).ptr = .pointer (some ⟨o.g, 0, none⟩) := by show Value.pointer (some ⟨o1.g, 0, none⟩) = _; rw [HG1.out]
     rw [h2] at h
     exact h⟩
    have hS := rone_sim F
    have HF := aa.mk F; have HP := aa.mk P.2; have HB := aa.mk hb; have HS := aa.mk hS
    clear F P hb hS h0
    cases b
    ·go_wp2_with ((with_reducible refine ah (f := 43) rfl ?_); refine gl 24 Tryd.func43 #[.pointer (some ⟨o.g, 0, none⟩)] ?_; refine HONE.out.mono ?_; rintro e w3 ⟨rfl, hA3⟩; have HA3 := aa.mk hA3; clear hA3 c11 c12 c12f hx; refine ⟨_, rfl, ?_⟩)
     go_roundg g
     case measure => omega
     case rel =>
      obtain ⟨o4, hs4, H4, M4⟩ := HA3.out
      have hsub : jE w o o4 := ⟨hs4.1.trans HG1.out, fun k hk => (hs4.2 k hk).elim (fun h1 => A3.out.2 k h1) (fun h1 => .inr (Ze (A4.out.trans HP.out (fun k _ e => by subst e; simp [RMo.own])).size h1))⟩
      have hO : ∀ k, k < w.heap.size → k ∈ RMo.own { o1 with ran := (x : Int) + 1 } → k ∈ o.own := fun k hk h1 => (A3.out.2 k h1).elim id (fun h2 => by omega)
      have hmod : Mod (fun k => k ∈ o.own) w w3 := (A4.out.trans HP.out (fun k _ e => by subst e; simp [RMo.own])).trans M4 hO
      have hof : m1.one.2 = false := by rw [← HS.out.1]; exact HB.out.symm
      refine ⟨x + 1, o4, m1.rone.1, by go_num, ⟨by have := A1.out; omega⟩, ⟨H4⟩, ⟨hsub⟩, ⟨hmod⟩, ⟨?_⟩⟩
      rcases hend : m1.one.1.ended with _ | _
      ·have e1 := HS.out.2.eq hend
       refine .inl ⟨by rw [e1]; exact hend, by rw [e1]; exact road.next g m1 HINV.out HLV.out hof hend, by rw [e1]; exact mR HRNG.out, ?_⟩
       rw [HST.out, e1]
       exact iq (by rw [← hof]) hend g
      ·have e1 : m.steps N = (m1.one.1, false) := by rw [HST.out]; exact jg (by rw [← hof]) hend g
       exact .inr ⟨by rw [HS.out.2.alike.ended]; exact hend, by rw [e1]; exact HS.out.2, by rw [e1]⟩
    ·go_wp2_with ((with_reducible refine ah (f := 43) rfl ?_); refine gl 24 Tryd.func43 #[.pointer (some ⟨o.g, 0, none⟩)] ?_; refine HONE.out.mono ?_; rintro e w3 ⟨rfl, hA3⟩; have HA3 := aa.mk hA3; clear hA3 c11 c12 c12f hx; refine ⟨_, rfl, ?_⟩)
     go_ret
     have hot : m1.one.2 = true := by rw [← HS.out.1]; exact HB.out.symm
     have e1 : m.steps N = (m1.one.1, true) := by rw [HST.out]; exact nY (by rw [← hot]) g
     rw [e1]
     have hO : ∀ k, k < w.heap.size → k ∈ RMo.own { o1 with ran := (x : Int) + 1 } → k ∈ o.own := fun k hk h1 => (A3.out.2 k h1).elim id (fun h2 => by omega)
     obtain ⟨o4, hs4, H4, M4⟩ := HA3.out
     exact ⟨rfl, _, HS.out.2, o4, ⟨hs4.1.trans HG1.out, fun k hk => (hs4.2 k hk).elim (fun h1 => A3.out.2 k h1) (fun h1 => .inr (Ze (A4.out.trans HP.out (fun k _ e => by subst e; simp [RMo.own])).size h1))⟩, H4, (A4.out.trans HP.out (fun k _ e => by subst e; simp [RMo.own])).trans M4 hO⟩
  ·rw [hend] at c11
   have HSIM := aa.mk hsim; have HFAL := aa.mk hfal
   clear hend hsim hfal A5
   have fin : tC Rd w o (m.steps N) (.returned (.bool false)) wr := ⟨by rw [HFAL.out], m1, HSIM.out, o1, A3.out, A2.out, A4.out⟩
   have FIN := aa.mk fin; clear fin
   rcases Nat.eq_zero_or_pos gk with h0 | h0
   ·have hx : decide ((x : Int) < 1048576) = false := Zb (by have := A1.out; have := HN.out; omega)
    clear h0
    go_wp2
    go_ret
    exact FIN.out
   ·have hx : decide ((x : Int) < 1048576) = true := Za (by have := A1.out; have := HN.out; omega)
    clear h0
    go_wp2
    go_ret
    exact FIN.out
theorem qw (H : ROn Rd w o m) (F : Fit m) (R : Rng m) (he : m.ended = false) : Calls Tryd.prog 24 #[o.ptr, .int .i64 1048576] w (tC Rd w o m.step) := by
 have h := rsteps_on H 1048576 rfl F.inv R he
 have e : m.step = m.steps 1048576 := by unfold Mc.step; rw [if_neg (by simp [he])]
 rw [e]
 exact h
end
theorem gD {W : World} {ops : Array Oper} {o : Oper} {a : Act} {Q : Exit → Act → World → Prop} {K : Act → World → Prop} (hw : Region.wanted o (yielded ops a.tmps) = true) (x : Operand)
  (ho : o.op = .call { callee := .builtin .append, args := #[.const (.slice none 0 0), x], argTypes := #[23, 23] }) (v : Value) (l : List Int) (hx : a.eval x = v) (hv : W.ownsRow 0 2 1 v l.length (ints l)) (hl : l.length ≤ 1000000)
  (h : ∀ v1 w1, w1.ownsRow 0 2 1 v1 l.length (ints l) → Below W.heap.size W w1 → (∀ k, v1.ownBlock = some k → W.heap.size ≤ k) → K (a.put o.dst v1) w1) :
  if Region.wanted o (yielded ops a.tmps) = true then Oper.wp Tryd.prog o a W K Q else K (a.put o.dst undef) W := by
 obtain ⟨i0, hi, hzz⟩ := Zo.1 jb
 simp only [Zm] at hzz
 obtain ⟨hz0, hz1, hz2⟩ := hzz
 obtain ⟨A, c, rfl, _, _, hnone, hsome⟩ := eQ hv
 have hown : W.ownsRow 0 2 1 (.slice none 0 0) 0 [] := ⟨by simp, .inl ⟨rfl, rfl⟩⟩
 have hs : a.eval (.const (.slice none 0 0)) = .slice none 0 0 := rfl
 rw [if_pos hw]
 cases A with
 | none =>
  obtain ⟨h0, rfl⟩ := hnone rfl
  obtain rfl : l = [] := List.length_eq_zero_iff.1 h0
  have hr : (Builtin.append_ #[23, 23] o.type #[.slice none 0 0, .slice none ([] : List Int).length 0]).run Tryd.prog W = .ok (.slice none 0 0) W := by
   simp [Builtin.append_, run_underlying Tryd.underlying23, sizeOf, typeInfo, hi, Builtin.lenOf, Builtin.firstCells]
  unfold Oper.wp execOp
  simp only [ho, resolve, invoke, builtin, Sem.run_bind, Sem.run_pure, Result.andThen_ok, List.map_toArray, List.map_cons, List.map_nil, hs, hx, hr]
  exact h _ W hown (Below.refl _ _) (fun k hk => by simp [Value.ownBlock] at hk)
 | some ad =>
  obtain ⟨sg, rfl, _, hsl, hcell⟩ := hsome ad rfl
  obtain ⟨v1, w1, hr, h2, hg, _, hat⟩ := run_append_own_at (P := Tryd.prog) W 0 23 o.type 2 i0 (.int .i64 0) 1 8 Tryd.underlying23 hi hz0 hz1 hz2 rfl (by decide) (.slice none 0 0) 0 [] hown ⟨sg, 0, none⟩ l.length c (ints l) (by rw [j5, Nat.mul_one])
   (fun j u hu => by
    simp only [ints, List.getElem?_map, Zo] at hu
    obtain ⟨y, hy, rfl⟩ := hu
    have := hcell j y hy
    unfold Addr.add
    by_cases hj : j = 0
    ·subst hj; simpa using this
    ·simpa [hj] using this) (fun u hu => by simp only [ints, List.mem_map] at hu; obtain ⟨_, _, rfl⟩ := hu; rfl) (by simp only [maxLen]; omega) (by omega) (Nat.zero_le _)
  unfold Oper.wp execOp
  simp only [ho, resolve, invoke, builtin, Sem.run_bind, Sem.run_pure, Result.andThen_ok, List.map_toArray, List.map_cons, List.map_nil, hs, hx, hr]
  refine h v1 w1 (by simpa using h2) ⟨hg.os, hg.tape, hg.output, hg.size, fun k hk => hg.block k hk (by simp [Value.ownBlock])⟩ (fun k hk => ?_)
  rcases hat with hat | hat
  ·rw [hat] at hk; simp [Value.ownBlock] at hk
  ·have := Zg (hat.symm.trans hk); omega
section
variable {Rd : Nat → Prop} {w : World} {o : MHo} {m : Mc}
theorem frame_in (H : MOn Rd w o m) (k : Nat) (f : Fr) (hk : m.frames[k]? = some f) (hl : f.cells.length ≤ 1000000) :
  Calls Tryd.prog 27 #[o.ptr, .int .i64 k] w fun e w' => ∃ v, e = .returned (.tuple #[.int .i64 f.pr, .int .i64 f.mark, v, .bool true]) ∧ w'.ownsRow 0 2 1 v f.cells.length (ints f.cells) ∧ (∀ k, v.ownBlock = some k → w.heap.size ≤ k) ∧ Below w.heap.size w w' := by
 have hu24 := Tryd.underlying24
 have hkl := (List.getElem?_eq_some_iff.1 hk).1
 obtain ⟨h, hh, hF⟩ : ∃ h, o.hs[k]? = some h ∧ di w h f := by
  have hl := H.frs.fC
  have key : ∀ {hs : List Ho} {fs : List Fr}, iP (di w) hs fs → ∀ k : Nat, fs[k]? = some f → ∃ h, hs[k]? = some h ∧ di w h f := by
   intro hs fs ha
   induction ha with
   | nil => intro k hk; simp at hk
   | cons h1 _ ih =>
    intro k hk
    cases k with
    | zero => exact ⟨_, rfl, by simp at hk; exact hk ▸ h1⟩
    | succ k => exact ih k hk
  exact key H.frs k hk
 obtain ⟨A, c, he, hnc, hcc, hnone, hcell⟩ := gp H.fr
 obtain ⟨n, hn⟩ : ∃ n, n = m.frames.length := ⟨_, rfl⟩
 rw [← hn] at he hkl hnone
 rcases A with _ | fa
 ·have := (hnone rfl).1; omega
 have hpc := hcell fa rfl k h.ptr (by rw [List.getElem?_map, hh]; rfl)
 obtain ⟨g, vc, vs⟩ := h
 obtain ⟨cA, cc, hvc, hcl1, hcl2, _, _⟩ := eQ hF.cs
 simp only at hvc
 obtain ⟨CL, hCL⟩ : ∃ CL, CL = f.cells.length := ⟨_, rfl⟩
 rw [← hCL] at hvc
 subst hvc
 have c0 : w.cell? ⟨o.g, 1, none⟩ = some (.slice (some fa) n c) := by rw [ae H.blk 1, ← he]; rfl
 have hpc' : w.cell? (fa.add k) = some (.pointer (some ⟨g, 0, none⟩)) := hpc
 have d0 : decide ((k : Int) < 0) = false := Zb (by omega)
 have d1 : decide ((n : Int) ≤ (k : Int)) = false := Zb (by omega)
 have d1' : decide (n ≤ k) = false := Zb (by omega)
 have q0 : (0 : Int) ≤ (k : Int) := by omega
 have q1 : (k : Int) < (n : Int) := by omega
 have y0 : w.drew.cell? ⟨g, 0, none⟩ = some (.int .i64 f.pr) := ae hF.drew.blk 0
 have y2 : w.drew.cell? ⟨g, 2, none⟩ = some (.int .i64 f.mark) := ae hF.drew.blk 2
 have y3 : w.drew.cell? ⟨g, 3, none⟩ = some (.slice cA CL cc) := ae hF.drew.blk 3
 have z0 : w.cell? ⟨g, 0, none⟩ = some (.int .i64 f.pr) := y0
 have z2 : w.cell? ⟨g, 2, none⟩ = some (.int .i64 f.mark) := y2
 have z3 : w.cell? ⟨g, 3, none⟩ = some (.slice cA CL cc) := y3
 have hgl : g < w.heap.size := bG hF.blk
 have HCS : aa (w.drew.ownsRow 0 2 1 (.slice cA CL cc) f.cells.length (ints f.cells)) := ⟨hF.cs.drew⟩
 have HL := aa.mk hl; have HGL := aa.mk hgl
 clear H hk hkl hh hF he hnone hcell hpc hn hCL hl hgl
 show Calls Tryd.prog 27 #[.pointer (some ⟨o.g, 0, none⟩), .int .i64 k] w _
 go_enter Tryd.func27, Tryd.ntmps27
 go_wp2
 go_region_held3 (fun W => W.cell? ⟨g, 0, none⟩ = some (.int .i64 f.pr) ∧ W.cell? ⟨g, 2, none⟩ = some (.int .i64 f.mark) ∧ W.cell? ⟨g, 3, none⟩ = some (.slice cA CL cc)) (first | exact ⟨y0, y2, y3⟩ | exact ⟨z0, z2, z3⟩ | exact ⟨by assumption, by assumption, by assumption⟩ | go_keep) ((refine gD (by rfl) (.tmp 44) rfl (.slice cA CL cc) f.cells rfl HCS.out HL.out ?_; intro v1 w1 hown hb hv; have bf : ∀ {a : Addr}, w1.heap[a.block]? = w.drew.heap[a.block]? → w1.cell? a = w.drew.cell? a := (fun h => World.cell?_of_block h); have s0 := (bf (a := ⟨g, 0, none⟩) (hb.block g HGL.out)).trans y0; have s2 := (bf (a := ⟨g, 2, none⟩) (hb.block g HGL.out)).trans y2; have s3 := (bf (a := ⟨g, 3, none⟩) (hb.block g HGL.out)).trans y3; have HO := aa.mk hown; have HB := aa.mk hb; have HV := aa.mk hv; clear hown hb hv bf))
 all_goals
  go_wp2
  refine bodyPost_ret (v := .tuple #[.int .i64 f.pr, .int .i64 f.mark, v1, .bool true]) (by simp [results, Tryd.results27, go_sem]) rfl ?_
  exact ⟨v1, rfl, HO.out, HV.out, HB.out.os, HB.out.tape, HB.out.output, HB.out.size, fun k hk => HB.out.block k hk⟩
end
def Solo (g : Nat) (m : Mc) (B : Nat) (w0 w : World) : Prop := ∃ Rd o, o.g = g ∧ MOn Rd w o m ∧ (∀ k, k ∈ o.own → B ≤ k) ∧ Below B w0 w
theorem Solo.below {g : Nat} {m : Mc} {B : Nat} {w0 w w' : World} (S : Solo g m B w0 w) (hB : B ≤ w.heap.size) (hb : Below w.heap.size w w') : Solo g m B w0 w' := by
 obtain ⟨Rd, o, hg, hM, hl, hw⟩ := S
 exact ⟨Rd, o, hg, hM.below hb, hl, hw.trans (hb.mono hB)⟩
theorem Solo.of {g : Nat} {B : Nat} {w0 w w' : World} {Rd : Nat → Prop} {o : MHo} (hg : o.g = g) (hl : ∀ k, k ∈ o.own → B ≤ k) (hw : Below B w0 w) {m' : Mc} {v : Value} {e : Ending} (hB : B ≤ w.heap.size) (hp : gN Rd w o m' v e w') : e = .returned v ∧ Solo g m' B w0 w' := by
 obtain ⟨he, o', hs, hM, hm⟩ := hp
 refine ⟨he, Rd, o', hs.1.trans hg, hM, fun k hk => ?_, hw.trans (hm.below (a := w) hB (fun k hk => hl k hk))⟩
 rcases hs.2 k hk with h | h
 ·exact hl k h
 ·omega
theorem Solo.step {g : Nat} {m : Mc} {B : Nat} {w0 w : World} (S : Solo g m B w0 w) (F : Fit m) (hB : B ≤ w0.heap.size) : Calls Tryd.prog 21 #[.pointer (some ⟨g, 0, none⟩)] w (fun e w' => e = .returned (.bool m.step.2) ∧ Solo g m.step.1 B w0 w') := by
 obtain ⟨Rd, o, hg, hM, hl, hw⟩ := S
 have h := lg hM F
 rw [MHo.ptr, hg] at h
 exact h.mono (fun e w' hp => Solo.of hg hl hw (Ze hB hw.size) hp)
theorem Solo.end_ {g : Nat} {m : Mc} {B : Nat} {w0 w : World} (S : Solo g m B w0 w) (F : Fit m) (hB : B ≤ w0.heap.size) (most : Nat) (hm : most ≤ 1000000) : Calls Tryd.prog 15 #[.pointer (some ⟨g, 0, none⟩), .int .i64 most] w (fun e w' => e = .returned (.bool (m.endP (most + 1)).2) ∧ Solo g (m.endP (most + 1)).1 B w0 w') := by
 obtain ⟨Rd, o, hg, hM, hl, hw⟩ := S
 have h := rV hM F most hm
 rw [MHo.ptr, hg] at h
 exact h.mono (fun e w' hp => Solo.of hg hl hw (Ze hB hw.size) hp)
def Duo (g1 : Nat) (m1 : Mc) (g2 : Nat) (m2 : Mc) (B : Nat) (w0 w : World) : Prop :=
 ∃ Rd1 o1 Rd2 o2, o1.g = g1 ∧ o2.g = g2 ∧ MOn Rd1 w o1 m1 ∧ MOn Rd2 w o2 m2 ∧ (∀ k, k ∈ o1.own → B ≤ k) ∧ (∀ k, k ∈ o2.own → B ≤ k) ∧ (∀ k, k ∈ o1.own → k ∉ o2.own ∧ ¬ Rd2 k) ∧ (∀ k, k ∈ o2.own → ¬ Rd1 k) ∧ Below B w0 w
section
variable {g1 g2 : Nat} {m1 m2 : Mc} {B : Nat} {w0 w w' : World}
theorem Duo.swap (D : Duo g1 m1 g2 m2 B w0 w) : Duo g2 m2 g1 m1 B w0 w := by
 obtain ⟨Rd1, o1, Rd2, o2, h1, h2, h3, h4, h5, h6, h7, h8, h9⟩ := D
 exact ⟨Rd2, o2, Rd1, o1, h2, h1, h4, h3, h6, h5, fun k hk => ⟨fun h => (h7 k h).1 hk, h8 k hk⟩, fun k hk => (h7 k hk).2, h9⟩
theorem Duo.below (D : Duo g1 m1 g2 m2 B w0 w) (hB : B ≤ w0.heap.size) (hb : Below w.heap.size w w') : Duo g1 m1 g2 m2 B w0 w' := by
 obtain ⟨Rd1, o1, Rd2, o2, h1, h2, h3, h4, h5, h6, h7, h8, h9⟩ := D
 exact ⟨Rd1, o1, Rd2, o2, h1, h2, h3.below hb, h4.below hb, h5, h6, h7, h8, h9.trans (hb.mono (Ze hB h9.size))⟩
theorem Duo.solo (D : Duo g1 m1 g2 m2 B w0 w) : Solo g1 m1 B w0 w := by
 obtain ⟨Rd1, o1, Rd2, o2, h1, h2, h3, h4, h5, h6, h7, h8, h9⟩ := D
 exact ⟨Rd1, o1, h1, h3, h5, h9⟩
theorem Duo.step (D : Duo g1 m1 g2 m2 B w0 w) (F : Fit m1) (hB : B ≤ w0.heap.size) : Calls Tryd.prog 21 #[.pointer (some ⟨g1, 0, none⟩)] w (fun e w' => e = .returned (.bool m1.step.2) ∧ Duo g1 m1.step.1 g2 m2 B w0 w') := by
 obtain ⟨Rd1, o1, Rd2, o2, h1, h2, h3, h4, h5, h6, h7, h8, h9⟩ := D
 have h := lg h3 F
 rw [MHo.ptr, h1] at h
 refine h.mono ?_
 rintro e w' ⟨rfl, o', hs, hM, hm⟩
 have hsz := Ze hB h9.size
 have hnew : ∀ k, k ∈ o'.own → k ∈ o1.own ∨ w.heap.size ≤ k := hs.2
 refine ⟨rfl, Rd1, o', Rd2, o2, hs.1.trans h1, h2, hM, h4.mod hm (fun k hk hk1 => ?_), fun k hk => ?_, h6, fun k hk => ?_, h8, h9.trans (hm.below (a := w) hsz (fun k hk => h5 k hk))⟩
 ·rcases hk with hk | hk
  ·exact (h7 k hk1).1 hk
  ·exact (h7 k hk1).2 hk
 ·rcases hnew k hk with h | h
  ·exact h5 k h
  ·omega
 ·rcases hnew k hk with h | h
  ·exact h7 k h
  ·exact ⟨fun h' => by have := h4.lt k h'; omega, fun h' => by have := h4.low k h'; omega⟩
end
/-! Codes that are written down. -/
def jK (x : S43) : List Value := [.int .i64 x.f0, .int .i64 x.f1, .int .i64 x.f2]
theorem kQ (w : World) : ∀ (l pre : List S43) (cs : List Value), bJ (k43.K w) 3 pre cs → bJ (k43.K w) 3 (pre ++ l) (cs ++ l.flatMap jK)
 | [], pre, cs, h => by simpa using h
 | x :: l, pre, cs, h => by
  have := kQ w l (pre ++ [x]) (cs ++ jK x) (h.snoc (k43_mk w x) rfl)
  simpa [List.append_assoc] using this
theorem qp (w : World) (l : List S43) : bJ (k43.K w) 3 l (l.flatMap jK) := kQ w l [] [] (bJ.none _ _)
theorem ins_row {w : World} {g : Nat} {t : TypeId} {l : List S43} (h : w.heap[g]? = some (.cells (l.flatMap jK).toArray t (0, 0))) (hl : l.length ≤ 1000000) : Kd.C k43 w (some ⟨g, 0, none⟩) l.length l := by
 have hlen : (l.flatMap jK).length = l.length * 3 := (qp w l).1
 have ho : w.ownsRow 0 t 3 (.slice (some ⟨g, 0, none⟩) l.length l.length) l.length (l.flatMap jK) := ⟨hlen, .inr ⟨g, l.length, _, rfl, Nat.zero_le _, h, Zd _, by simp only [maxLen]; omega, by simpa using hlen, by rw [← hlen]; exact List.take_length⟩⟩
 obtain ⟨A, c, e, hr⟩ := gW ho (qp w l) rfl
 obtain rfl := (Value.slice.inj e).1
 exact hr
theorem cod_row {w : World} {g : Nat} {t : TypeId} {l : List S46} {cs : List Value} (hr : bJ (k46.K w) 4 l cs) (h : w.heap[g]? = some (.cells cs.toArray t (0, 0))) (hl : l.length ≤ 1000000) : Kd.C k46 w (some ⟨g, 0, none⟩) l.length l := by
 have ho : w.ownsRow 0 t 4 (.slice (some ⟨g, 0, none⟩) l.length l.length) l.length cs := ⟨hr.1, .inr ⟨g, l.length, _, rfl, Nat.zero_le _, h, Zd _, by simp only [maxLen]; omega, by simpa using hr.1, by rw [← hr.1]; exact List.take_length⟩⟩
 obtain ⟨A, c, e, hr⟩ := gW ho hr rfl
 obtain rfl := (Value.slice.inj e).1
 exact hr
theorem Solo.weak {g : Nat} {m : Mc} {B b : Nat} {w0 wb w : World} (S : Solo g m B w0 w) (hb : Below b wb w0) (h : b ≤ B) : Solo g m b wb w := by
 obtain ⟨Rd, o, h1, h2, h3, h4⟩ := S
 exact ⟨Rd, o, h1, h2, fun k hk => Ze h (h3 k hk), hb.trans (h4.mono h)⟩
theorem Solo.low {g : Nat} {m : Mc} {B : Nat} {w0 w : World} (S : Solo g m B w0 w) : Below B w0 w := by
 obtain ⟨_, _, _, _, _, h⟩ := S
 exact h
theorem Solo.on {g : Nat} {m : Mc} {w0 w w' : World} (S : Solo g m w0.heap.size w0 w) (hb : Below w.heap.size w w') : Solo g m w0.heap.size w0 w' := S.below S.low.size hb
def lN (l : List (Int × Int)) : List S38 := l.map fun p => ⟨p.1, p.2⟩
theorem kD (l : List (Int × Int)) : (lN l).length = l.length := by simp [lN]
theorem lF (w : World) : ∀ (l : List (Int × Int)) (pre : List S38) (cs : List Value), bJ (k38.K w) 2 pre cs → bJ (k38.K w) 2 (pre ++ lN l) (cs ++ evs l)
 | [], pre, cs, h => by simpa [lN, evs] using h
 | x :: l, pre, cs, h => by
  have := lF w l (pre ++ [⟨x.1, x.2⟩]) (cs ++ [.int .i64 x.1, .int .i64 x.2]) (h.snoc (k38_mk w ⟨x.1, x.2⟩) rfl)
  simpa [lN, evs, List.append_assoc] using this
theorem tu {w : World} {v : Value} {l : List (Int × Int)} (h : w.ownsRow 0 38 2 v l.length (evs l)) : ∃ A c, v = .slice A (lN l).length c ∧ (lN l).length ≤ c ∧ Kd.C k38 w A (lN l).length (lN l) := by
 have hR : bJ (k38.K w) 2 (lN l) (evs l) := by simpa using lF w l [] [] (bJ.none _ _)
 obtain ⟨A, c, e, hr⟩ := gW h hR (kD l)
 subst e
 rw [kD]
 refine ⟨A, c, rfl, ?_, hr⟩
 rcases h.2 with ⟨e, h0⟩ | ⟨k, cap, cur, e, _, _, hc, _⟩
 ·have := (Value.slice.inj e).2.1; omega
 ·have := (Value.slice.inj e).2.2; omega
theorem same_true (l : List S38) (hl : l.length ≤ 1000000000000000) : ∃ k, bH.f k l l = some true := by
 have loop : ∀ (d i : Nat), i + d = l.length → Ev (fun k => bH.l0 k l l i) true := by
  intro d
  induction d with
  | zero =>
   intro i hi
   obtain rfl : i = l.length := by omega
   refine YE.evs ?_
   simp only [bH.l0, ff (Int.lt_irrefl (l.length : Int)), if_false]; exact Ev.now _
  | succ d ih =>
   intro i hi
   have c1 := tt (show (i : Int) < (l.length : Int) by omega)
   have c2 := tt (show (0 : Int) ≤ (i : Int) by omega)
   have e2 : wrap64 ((i : Int) + 1) = ((i + 1 : Nat) : Int) := by rw [w64 (by omega) (by omega)]; rfl
   have e3 : (!(((fw l i).f0) == ((fw l i).f0)) || (!(((fw l i).f1) == ((fw l i).f1)))) = false := by simp
   refine YE.evs ?_
   simp only [bH.l0, c1, c2, if_true, e3, e2]
   exact ih (i + 1) (by omega)
 obtain ⟨k, hk⟩ := loop l.length 0 (by omega)
 refine ⟨k, ?_⟩
 unfold bH.f
 rw [if_pos rfl]
 exact hk k (Zd _)
theorem nums_true (l : List Int) (hl : l.length ≤ 1000000000000000) : ∃ k, bL.f k l l = some true := by
 have loop : ∀ (d i : Nat), i + d = l.length → Ev (fun k => bL.l0 k l l i) true := by
  intro d
  induction d with
  | zero =>
   intro i hi
   obtain rfl : i = l.length := by omega
   refine YE.evs ?_
   simp only [bL.l0, ff (Int.lt_irrefl (l.length : Int)), if_false]; exact Ev.now _
  | succ d ih =>
   intro i hi
   have c1 := tt (show (i : Int) < (l.length : Int) by omega)
   have c2 := tt (show (0 : Int) ≤ (i : Int) by omega)
   have e2 : wrap64 ((i : Int) + 1) = ((i + 1 : Nat) : Int) := by rw [w64 (by omega) (by omega)]; rfl
   refine YE.evs ?_
   simp only [bL.l0, c1, c2, if_true, e2]
   exact ih (i + 1) (by omega)
 obtain ⟨k, hk⟩ := loop l.length 0 (by omega)
 refine ⟨k, ?_⟩
 unfold bL.f
 rw [if_pos rfl]
 exact hk k (Zd _)
theorem same_evs_calls {W : World} {v1 v2 : Value} (l : List (Int × Int)) (h1 : W.ownsRow 0 38 2 v1 l.length (evs l)) (h2 : W.ownsRow 0 38 2 v2 l.length (evs l)) (hl : l.length ≤ 4398046511104) :
  Calls Tryd.prog 19 #[v1, v2] W fun e w' => e = .returned (.bool true) ∧ Below W.heap.size W w' := by
 obtain ⟨A, c, rfl, hc, hA⟩ := tu h1
 obtain ⟨B, d, rfl, hd, hB⟩ := tu h2
 obtain ⟨k, hk⟩ := same_true (lN l) (by rw [kD]; omega)
 refine (bH.calls k A c (lN l) B d (lN l) true W hA hc hB hd hk).mono ?_
 rintro e w' ⟨rfl, n, rfl⟩
 exact ⟨rfl, bv (Below.refl _ _) n⟩
theorem same_nums_calls {W : World} {v1 v2 : Value} (l : List Int) (h1 : W.ownsRow 0 2 1 v1 l.length (ints l)) (h2 : W.ownsRow 0 2 1 v2 l.length (ints l)) (hl : l.length ≤ 1000000) :
  Calls Tryd.prog 42 #[v1, v2] W fun e w' => e = .returned (.bool true) ∧ Below W.heap.size W w' := by
 obtain ⟨A, c, rfl, hc, _, hA⟩ := jU h1
 obtain ⟨B, d, rfl, hd, _, hB⟩ := jU h2
 obtain ⟨k, hk⟩ := nums_true l (by omega)
 refine (bL.calls k A c l B d l true W hA hc hB hd hk).mono ?_
 rintro e w' ⟨rfl, n, rfl⟩
 exact ⟨rfl, bv (Below.refl _ _) n⟩
theorem fvals_at : ∀ {hs : List RHo} {fs : List Fr} {w : World}, iP (RFr w) hs fs → ∀ (k : Nat) (f : Fr), fs[k]? = some f → ∃ h, RFr w h f ∧ ∀ j u, (eY h f)[j]? = some u → (gJ hs fs)[k * 5 + j]? = some u := by
 intro hs fs w ha
 induction ha with
 | nil => intro k f hk; simp at hk
 | @cons h0 f0 hs fs h1 _ ih =>
  intro k f hk
  cases k with
  | zero =>
   have e : f0 = f := by simpa using hk
   subst e
   refine ⟨h0, h1, fun j u hj => ?_⟩
   show (eY h0 f0 ++ gJ hs fs)[0 * 5 + j]? = some u
   rw [List.getElem?_append_left (by have := (List.getElem?_eq_some_iff.1 hj).1; omega), Nat.zero_mul, Nat.zero_add]
   exact hj
  | succ k =>
   obtain ⟨h, h2, h3⟩ := ih k f (by simpa using hk)
   refine ⟨h, h2, fun j u hj => ?_⟩
   show (eY h0 f0 ++ gJ hs fs)[(k + 1) * 5 + j]? = some u
   rw [List.getElem?_append_right (by simp [eY]; omega), show (k + 1) * 5 + j - (eY h0 f0).length = k * 5 + j by simp [eY]; omega]
   exact h3 j u hj
section
variable {Rd Rr : Nat → Prop} {w : World} {o : MHo} {m m' : Mc} {ro : RMo}
theorem oC (H : MOn Rd w o m) (HR : ROn Rr w ro m') (A : Alike m' m) (he : m.events.length ≤ 4398046511104) (hfc : ∀ f ∈ m.frames, f.cells.length ≤ 1000000) (hfn : m.frames.length ≤ 1000) :
  Calls Tryd.prog 23 #[o.ptr, ro.ptr] w fun e w' => e = .returned (.bool true) ∧ Below w.heap.size w w' := by
 obtain ⟨FN, hFN⟩ : ∃ FN, FN = m.frames.length := ⟨_, rfl⟩
 obtain ⟨EN, hEN⟩ : ∃ EN, EN = m.events.length := ⟨_, rfl⟩
 have hfl : m'.frames.length = FN := by have := congrArg List.length A.frames; simp only [List.length_map] at this; rw [this, hFN]
 have hel : m'.events.length = EN := by rw [A.events, hEN]
 obtain ⟨EA, EC, hev, _, _, _, _⟩ := gp HR.ev
 obtain ⟨FA, FC, hfv, _, _, _, _⟩ := gp HR.fr
 rw [hel] at hev
 rw [hfl] at hfv
 have hgr := bG HR.blk
 have fr : ∀ {W : World}, Below w.heap.size w W → W.cell? ⟨ro.g, 11, none⟩ = some (.bool m.ended) ∧ W.cell? ⟨ro.g, 5, none⟩ = some (.int .i64 m.ticks) ∧ W.cell? ⟨ro.g, 6, none⟩ = some (.int .i64 m.tick.1) ∧ W.cell? ⟨ro.g, 7, none⟩ = some (.int .i64 m.tick.2.1) ∧
   W.cell? ⟨ro.g, 8, none⟩ = some (.int .i64 m.tick.2.2.1) ∧ W.cell? ⟨ro.g, 9, none⟩ = some (.int .i64 m.tick.2.2.2) ∧ W.cell? ⟨ro.g, 10, none⟩ = some (.slice EA EN EC) ∧ W.cell? ⟨ro.g, 1, none⟩ = some (.slice FA FN FC) := by
  intro W hb
  have hB := (HR.below hb).blk
  rw [← A.ended, ← A.ticks, ← A.tick, ← hev, ← hfv]
  exact ⟨ae hB 11, ae hB 5, ae hB 6, ae hB 7, ae hB 8, ae hB 9, ae hB 10, ae hB 1⟩
 have HFR := aa.mk (@fr)
 have hTK : aa (Calls Tryd.prog 29 #[.pointer (some ⟨o.g, 0, none⟩)] w _) := ⟨tick_on H⟩
 have HH := aa.mk H; have HHR := aa.mk HR; have HAL := aa.mk A; have HEN := aa.mk hEN; have HFN := aa.mk hFN; have HEV := aa.mk hev; have HFV := aa.mk hfv; have HEL := aa.mk hel; have HFL := aa.mk hfl; have HHE := aa.mk he; have HFC := aa.mk hfc; have HFNL := aa.mk hfn; have HGR := aa.mk hgr
 clear H HR A he hfc hfn hFN hEN hfl hel hev hfv fr hgr
 have hu52 := Tryd.underlying52
 show Calls Tryd.prog 23 #[.pointer (some ⟨o.g, 0, none⟩), .pointer (some ⟨ro.g, 0, none⟩)] w _
 go_enter Tryd.func23, Tryd.ntmps23
 go_wp2_with (first
  | ((with_reducible refine ah (f := 29) rfl ?_); refine gl 18 Tryd.func29 #[.pointer (some ⟨o.g, 0, none⟩)] ?_; refine hTK.out.mono ?_; rintro e w1 ⟨rfl, hb⟩; have HB1 := aa.mk hb; clear hb; refine ⟨_, rfl, ?_⟩))
 obtain ⟨gb, hgb⟩ : ∃ gb, gb = w1.heap.size := ⟨_, rfl⟩
 obtain ⟨w2, hw2⟩ : ∃ w2, w2 = w1.alloc (.cells #[.int .i64 m.tick.1, .int .i64 m.tick.2.1, .int .i64 m.tick.2.2.1, .int .i64 m.tick.2.2.2] 52) := ⟨_, rfl⟩
 have hb2 : w2.heap[gb]? = some (.cells #[.int .i64 m.tick.1, .int .i64 m.tick.2.1, .int .i64 m.tick.2.2.1, .int .i64 m.tick.2.2.2] 52 (0, 0)) := by rw [hw2, hgb]; exact bV w1 _
 have hB2 : Below w.heap.size w w2 := by rw [hw2]; exact bP HB1.out _
 rw [← hgb, ← hw2]
 have mks : ∀ {W : World}, Below w2.heap.size w2 W → (W.cell? ⟨ro.g, 11, none⟩ = some (.bool m.ended) ∧ W.cell? ⟨ro.g, 5, none⟩ = some (.int .i64 m.ticks) ∧ W.cell? ⟨ro.g, 6, none⟩ = some (.int .i64 m.tick.1) ∧ W.cell? ⟨ro.g, 7, none⟩ = some (.int .i64 m.tick.2.1) ∧ W.cell? ⟨ro.g, 8, none⟩ = some (.int .i64 m.tick.2.2.1) ∧ W.cell? ⟨ro.g, 9, none⟩ = some (.int .i64 m.tick.2.2.2) ∧ W.cell? ⟨ro.g, 10, none⟩ = some (.slice EA EN EC) ∧ W.cell? ⟨ro.g, 1, none⟩ = some (.slice FA FN FC) ∧ W.cell? ⟨gb, 0, none⟩ = some (.int .i64 m.tick.1) ∧ W.cell? ⟨gb, 1, none⟩ = some (.int .i64 m.tick.2.1) ∧ W.cell? ⟨gb, 2, none⟩ = some (.int .i64 m.tick.2.2.1) ∧ W.cell? ⟨gb, 3, none⟩ = some (.int .i64 m.tick.2.2.2)) := by
  intro W hb
  obtain ⟨a1, a2, a3, a4, a5, a6, a7, a8⟩ := HFR.out (hB2.trans (hb.mono hB2.size))
  have hg := (hb.block gb (bG hb2)).trans hb2
  exact ⟨a1, a2, a3, a4, a5, a6, a7, a8, ae hg 0, ae hg 1, ae hg 2, ae hg 3⟩
 have MKS := aa.mk (@mks)
 have HBW := aa.mk hB2
 have HC30 : aa (∀ {W : World}, Below w2.heap.size w2 W → Calls Tryd.prog 30 #[.pointer (some ⟨o.g, 0, none⟩)] W (fun e w' => e = .returned (.bool m.ended) ∧ Below W.heap.size W w')) := ⟨fun hb => o5 (HH.out.below (HBW.out.trans (hb.mono HBW.out.size)))⟩
 have HC18 : aa (∀ {W : World}, Below w2.heap.size w2 W → Calls Tryd.prog 18 #[.pointer (some ⟨o.g, 0, none⟩)] W (fun e w' => e = .returned (.int .i64 m.ticks) ∧ Below W.heap.size W w')) := ⟨fun hb => qx (HH.out.below (HBW.out.trans (hb.mono HBW.out.size)))⟩
 have HC22 : aa (∀ {W : World}, Below w2.heap.size w2 W → Calls Tryd.prog 22 #[.pointer (some ⟨o.g, 0, none⟩)] W (fun e w' => e = .returned (.int .i64 (EN : Nat)) ∧ Below W.heap.size W w')) := ⟨fun hb => by rw [HEN.out]; exact qy (HH.out.below (HBW.out.trans (hb.mono HBW.out.size)))⟩
 have HC16 : aa (∀ {W : World}, Below w2.heap.size w2 W → Calls Tryd.prog 16 #[.pointer (some ⟨o.g, 0, none⟩)] W (fun e w' => ∃ v1, e = .returned v1 ∧ w'.ownsRow 0 38 2 v1 m.events.length (evs m.events) ∧ (∀ k, v1.ownBlock = some k → W.heap.size ≤ k) ∧ Below W.heap.size W w')) := ⟨fun hb => oU (HH.out.below (HBW.out.trans (hb.mono HBW.out.size))) HHE.out⟩
 have HC20 : aa (∀ {W : World}, Below w2.heap.size w2 W → Calls Tryd.prog 20 #[.pointer (some ⟨o.g, 0, none⟩)] W (fun e w' => e = .returned (.int .i64 (FN : Nat)) ∧ Below W.heap.size W w')) := ⟨fun hb => by rw [HFN.out]; exact oF (HH.out.below (HBW.out.trans (hb.mono HBW.out.size)))⟩
 have HREV : aa (∀ {W : World}, Below w2.heap.size w2 W → W.ownsRow 0 38 2 (.slice EA EN EC) m.events.length (evs m.events)) := ⟨fun {W} hb => by
  have h := (HHR.out.below (HBW.out.trans (hb.mono HBW.out.size))).ev
  rw [HEV.out, HAL.out.events] at h
  exact h⟩
 have HB2 : aa (Below w2.heap.size w2 w2.drew) := ⟨iy (Below.refl _ _)⟩
 have S2 := mks (Below.refl _ w2)
 have S2d := mks (iy (Below.refl _ w2))
 have q0 : (m.ended != m.ended) = false := by cases m.ended <;> rfl
 have q1 : (m.ticks != m.ticks) = false := by simp
 have q2 : (decide (0 < m.ticks) != decide (0 < m.ticks)) = false := by cases decide (0 < m.ticks) <;> rfl
 clear mks hB2 hw2 hgb hb2
 go_region_held3 (fun W => W.cell? ⟨ro.g, 11, none⟩ = some (.bool m.ended) ∧ W.cell? ⟨ro.g, 5, none⟩ = some (.int .i64 m.ticks) ∧ W.cell? ⟨ro.g, 6, none⟩ = some (.int .i64 m.tick.1) ∧ W.cell? ⟨ro.g, 7, none⟩ = some (.int .i64 m.tick.2.1) ∧ W.cell? ⟨ro.g, 8, none⟩ = some (.int .i64 m.tick.2.2.1) ∧ W.cell? ⟨ro.g, 9, none⟩ = some (.int .i64 m.tick.2.2.2) ∧ W.cell? ⟨ro.g, 10, none⟩ = some (.slice EA EN EC) ∧ W.cell? ⟨ro.g, 1, none⟩ = some (.slice FA FN FC) ∧ W.cell? ⟨gb, 0, none⟩ = some (.int .i64 m.tick.1) ∧ W.cell? ⟨gb, 1, none⟩ = some (.int .i64 m.tick.2.1) ∧ W.cell? ⟨gb, 2, none⟩ = some (.int .i64 m.tick.2.2.1) ∧ W.cell? ⟨gb, 3, none⟩ = some (.int .i64 m.tick.2.2.2)) (first | exact S2d | exact S2 | assumption) (first | ((with_reducible refine (HC30.out HB2.out).mono ?_); rintro e w3 ⟨rfl, hb⟩; have HB3 := aa.mk (HB2.out.trans (hb.mono HB2.out.size)); have S3 := MKS.out HB3.out; clear hb) | ((with_reducible refine (HC18.out HB3.out).mono ?_); rintro e w4 ⟨rfl, hb⟩; have HB4 := aa.mk (HB3.out.trans (hb.mono HB3.out.size)); have S4 := MKS.out HB4.out; clear hb) | ((with_reducible refine (HC22.out HB4.out).mono ?_); rintro e w5 ⟨rfl, hb⟩; have HB5 := aa.mk (HB4.out.trans (hb.mono HB4.out.size)); have S5 := MKS.out HB5.out; clear hb) | ((with_reducible refine (HC16.out HB5.out).mono ?_); rintro e w6 ⟨v6, rfl, ho6, hv6, hb⟩; have HB6 := aa.mk (HB5.out.trans (hb.mono HB5.out.size)); have S6 := MKS.out HB6.out; obtain ⟨vA, vn, vC, he6⟩ : ∃ A n c, v6 = .slice A n c := (by rcases ho6.2 with ⟨h, _⟩ | ⟨_, _, _, h, _⟩ <;> exact ⟨_, _, _, h⟩); subst he6; have HO6 := aa.mk ho6; clear ho6 hv6; clear hb) | ((with_reducible refine (same_evs_calls m.events HO6.out (HREV.out HB6.out) HHE.out).mono ?_); rintro e w7 ⟨rfl, hb⟩; have HB7 := aa.mk (HB6.out.trans (hb.mono HB6.out.size)); have S7 := MKS.out HB7.out; clear hb) | ((with_reducible refine (HC20.out HB7.out).mono ?_); rintro e w8 ⟨rfl, hb⟩; have HB8 := aa.mk (HB7.out.trans (hb.mono HB7.out.size)); have S8 := MKS.out HB8.out; clear hb))
 obtain ⟨wX, hwX⟩ : ∃ wX, wX = w8 := ⟨_, rfl⟩
 have HBX : aa (Below w2.heap.size w2 w8) := HB8
 clear S2 S2d S3 S4 S5 S6 S7 S8 q0 q1 q2 hwX
 go_wp2
 go_loopg [7] FN (fun gk v7 W => ∃ x : Nat, v7 = .int .i64 (x : Int) ∧ aa (gk + x = FN) ∧ aa (Below w2.heap.size w2 W))
 case atStart => exact ⟨0, rfl, ⟨by omega⟩, HBX⟩
 case round =>
  obtain ⟨x, rfl, A1, A2⟩ := hrel
  have c1 : wr.cell? ⟨ro.g, 1, none⟩ = some (.slice FA FN FC) := (MKS.out A2.out).2.2.2.2.2.2.2.1
  by_cases hx : x < FN
  ·obtain ⟨gk1, hgk⟩ : ∃ g, gk = g + 1 := ⟨gk - 1, by have := A1.out; omega⟩
   subst hgk
   have g1 : decide ((x : Int) < (FN : Int)) = true := Za (by omega)
   have g2 : decide (x < FN) = true := Za hx
   have q0 : (0 : Int) ≤ (x : Int) := by omega
   have q1 : (x : Int) < (FN : Int) := by omega
   have hxl : x < m.frames.length := by rw [← HFN.out]; exact hx
   obtain ⟨f, hf⟩ : ∃ f, m.frames[x]? = some f := ⟨_, Zi hxl⟩
   obtain ⟨f', hf', hft⟩ : ∃ f', m'.frames[x]? = some f' ∧ f'.told = f.told := by
    have h1 : (m'.frames.map Fr.told)[x]? = (m.frames.map Fr.told)[x]? := by rw [HAL.out.frames]
    rw [List.getElem?_map, List.getElem?_map, hf] at h1
    rcases h2 : m'.frames[x]? with _ | f'
    ·rw [h2] at h1; cases h1
    ·rw [h2] at h1; exact ⟨f', rfl, Zg h1⟩
   obtain ⟨t1, t2, t3⟩ : f'.pr = f.pr ∧ f'.mark = f.mark ∧ f'.cells = f.cells := by simp only [Fr.told, Zm] at hft; exact hft
   have hfc := HFC.out f (List.mem_of_getElem? hf)
   obtain ⟨fb, hFA⟩ : ∃ fb, FA = some ⟨fb, 0, none⟩ := by
    have h1 := HHR.out.fr
    rw [HFV.out, HFL.out] at h1
    rcases h1.2 with ⟨_, h0⟩ | ⟨fg, _, _, h, _⟩
    ·omega
    ·exact ⟨fg, (Value.slice.inj h).1⟩
   subst hFA
   obtain ⟨K, hK⟩ : ∃ K, K = x * 5 := ⟨_, rfl⟩
   have HC27 : aa (Calls Tryd.prog 27 #[.pointer (some ⟨o.g, 0, none⟩), .int .i64 x] wr _) := ⟨frame_in (HH.out.below (HBW.out.trans (A2.out.mono HBW.out.size))) x f hf hfc⟩
   have fcl : ∀ {W : World}, Below w2.heap.size w2 W → ∃ h : RHo, RFr W h f' ∧ W.cell? ⟨fb, x * 5, none⟩ = some (.int .i64 f.pr) ∧ W.cell? ⟨fb, x * 5 + 2, none⟩ = some (.int .i64 f.mark) ∧ W.cell? ⟨fb, x * 5 + 3, none⟩ = some h.vc := by
    intro W hb
    have h1 := HHR.out.below (HBW.out.trans (hb.mono HBW.out.size))
    obtain ⟨h, h2, h3⟩ := fvals_at h1.frs x f' hf'
    have h4 := h1.fr
    rw [HFV.out, HFL.out] at h4
    refine ⟨h, h2, ?_, ?_, ?_⟩
    ·rw [← t1]; exact (lU h4 (h3 0 _ rfl)).1
    ·rw [← t2]; exact (lU h4 (h3 2 _ rfl)).1
    ·exact (lU h4 (h3 3 _ rfl)).1
   have FCL := aa.mk (@fcl); have HT3 := aa.mk t3; have HFCL := aa.mk hfc
   have ex : IntKind.i64.wrap ((x : Int) + 1) = (x : Int) + 1 := IntWalk.i64_in _ (by have := HFNL.out; have := HFN.out; omega)
   have n1 : (f.pr != f.pr) = false := by simp
   have n2 : (f.mark != f.mark) = false := by simp
   clear fcl t1 t2 t3 hft hf hf' hfc hxl hK
   go_wp2_with (first
    | ((with_reducible refine ah (f := 27) rfl ?_); refine gl 96 Tryd.func27 #[.pointer (some ⟨o.g, 0, none⟩), .int .i64 x] ?_; refine HC27.out.mono ?_; rintro e w9 ⟨v9, rfl, ho9, hv9, hb9⟩; have hb9' := A2.out.trans (hb9.mono A2.out.size); obtain ⟨hh, hRF, k0, k2, k3⟩ := FCL.out hb9'; have k1 : w9.cell? ⟨ro.g, 1, none⟩ = some (.slice (some ⟨fb, 0, none⟩) FN FC) := (MKS.out hb9').2.2.2.2.2.2.2.1; obtain ⟨vA9, c9, hv9e, _, _, _⟩ := jU ho9; subst hv9e; obtain ⟨vA8, c8, hvc8, _, _, _⟩ := jU hRF.cs; rw [hvc8] at k3; have HRC : aa (w9.ownsRow 0 2 1 (.slice vA8 f'.cells.length c8) f.cells.length (ints f.cells)) := ⟨(by rw [← HT3.out, ← hvc8]; exact hRF.cs)⟩; have HO9 := aa.mk ho9; have HB9 := aa.mk hb9'; obtain ⟨CL, hCL⟩ : ∃ CL, CL = f.cells.length := ⟨_, rfl⟩; obtain ⟨CL2, hCL2⟩ : ∃ CL2, CL2 = f'.cells.length := ⟨_, rfl⟩; rw [← hCL] at HO9 HRC ⊢; rw [← hCL2] at HRC k3; have HC42 : aa (Calls Tryd.prog 42 #[.slice vA9 CL c9, .slice vA8 CL2 c8] w9 _) := ⟨same_nums_calls f.cells (by have h := HO9.out; rw [hCL] at h ⊢; exact h) (by have h := HRC.out; rw [hCL] at h; exact h) HFCL.out⟩; clear ho9 hv9 hb9 hb9' hRF hvc8 hCL hCL2 HO9 HRC; refine ⟨_, rfl, ?_⟩)
    | ((with_reducible refine ah (f := 42) rfl ?_); (try (refine aG (by rfl) ?_; dsimp only)); refine gl 137 Tryd.func42 #[.slice vA9 CL c9, .slice vA8 CL2 c8] ?_; refine HC42.out.mono ?_; rintro e w10 ⟨rfl, hb10⟩; have HB10 := aa.mk (HB9.out.trans (hb10.mono HB9.out.size)); clear hb10; refine ⟨_, rfl, ?_⟩))
   go_roundg gk1
   case measure => omega
   case rel => exact ⟨x + 1, by first | rfl | go_num, ⟨by have := A1.out; omega⟩, HB10⟩
  ·have g1 : decide ((x : Int) < (FN : Int)) = false := Zb (by omega)
   have g2 : decide (x < FN) = false := Zb hx
   have HC27 : aa (Calls Tryd.prog 27 #[.pointer (some ⟨o.g, 0, none⟩), .int .i64 (FN : Nat)] wr _) := ⟨frame_out (HH.out.below (HBW.out.trans (A2.out.mono HBW.out.size))) (FN : Nat) (.inr (by rw [HFN.out]; exact Int.le_refl _))⟩
   go_wp2_with ((with_reducible refine ah (f := 27) rfl ?_); refine gl 147 Tryd.func27 #[.pointer (some ⟨o.g, 0, none⟩), .int .i64 (FN : Nat)] ?_; refine HC27.out.mono ?_; rintro e w9 ⟨rfl, hb9⟩; have HB9 := aa.mk (A2.out.trans (hb9.mono A2.out.size)); clear hb9; refine ⟨_, rfl, ?_⟩)
   go_ret
   exact ⟨rfl, HBW.out.trans (HB9.out.mono HBW.out.size)⟩
end
section
variable (w : World) (A0 A2 : Option Addr) (c0 c2 : Nat) (l : List S46) (input : List Int) (main fuel : Int)
def uM (R0 : Nat → Prop) (w : World) (l : List S46) (input : List Int) (main fuel : Int) (e : Ending) (w' : World) : Prop :=
 ∃ Rr ro, e = .returned (.tuple #[ro.ptr, .int .i64 0]) ∧ ROn Rr w' ro ((mc0 l input fuel).eD main []) ∧ (∀ k ∈ ro.own, w.heap.size ≤ k) ∧ (∀ k, Rr k → R0 k ∨ w.heap.size ≤ k) ∧ Below w.heap.size w w'
theorem fresh_on {w : World} {A0 : Option Addr} {c0 : Nat} {l : List S46} {input : List Int} {fuel : Int} {R0 : Nat → Prop} (hF : Kd.F k46 w R0 A0 l.length l) (hc : l.length ≤ c0) (hR0 : ∀ k, R0 k → k < w.heap.size) {w1 w2 : World} (hb : Below w.heap.size w w2) (hsz : w.heap.size ≤ w1.heap.size) {v2 : Value} (ho : Kd.R (Kd.int .i64) 2 w2 w1.heap.size (fun _ => True) v2 ([] ++ input)) :
  ROn (fun k => R0 k ∨ v2.ownBlock = some k) (w2.alloc (.cells #[.slice A0 l.length c0, .slice none 0 0, v2, .int .i64 0, .int .i64 fuel, .int .i64 0, .int .i64 0, .int .i64 0, .int .i64 0, .int .i64 0, .slice none 0 0, .bool false, .int .i64 0] 54)) ⟨w2.heap.size, .slice A0 l.length c0, .slice none 0 0, v2, .slice none 0 0, 0, []⟩ (mc0 l input fuel) := by
 rw [List.nil_append] at ho
 have hri := mf ho
 have hs := hb.size
 have hown : RMo.own ⟨w2.heap.size, .slice A0 l.length c0, .slice none 0 0, v2, .slice none 0 0, 0, []⟩ = [w2.heap.size] := rfl
 refine ⟨bV _ _, ⟨rfl, .inl ⟨rfl, rfl⟩⟩, ⟨rfl, .inl ⟨rfl, rfl⟩⟩, .nil, by rw [hown]; simp, fun k hk => ?_, fun k hk => ?_, ?_, ?_⟩
 ·rw [hown] at hk
  obtain rfl : k = w2.heap.size := by simpa using hk
  rintro (h | h)
  ·have := hR0 _ h; omega
  ·have := (hri.1.lt _ h).2; omega
 ·have e : (w2.alloc (.cells #[.slice A0 l.length c0, .slice none 0 0, v2, .int .i64 0, .int .i64 fuel, .int .i64 0, .int .i64 0, .int .i64 0, .int .i64 0, .int .i64 0, .slice none 0 0, .bool false, .int .i64 0] 54)).heap.size = w2.heap.size + 1 := by simp
  rw [e]
  rcases hk with h | h
  ·have := hR0 _ h; omega
  ·have := (hri.1.lt _ h).2; omega
 ·exact Kd.V_mk hc (Kd.sZ (Kd.rY hF (bP hb _)) (fun k h => .inl h))
 ·exact Kd.V_mono (Kd.R_V (Kd.bS (Kd.R_tight rfl ho) _)) (fun k h => .inr h.symm)
theorem refnew_on {R0 : Nat → Prop} (hR0 : ∀ k, R0 k → k < w.heap.size) (hF : Kd.F k46 w R0 A0 l.length l) (hc : l.length ≤ c0) (k : Nat) (h : aD.f k l main = some true) (hin : Kd.C (Kd.int .i64) w A2 input.length input) (hc2 : input.length ≤ c2) (hf0 : 0 ≤ fuel) (hf1 : fuel ≤ 1048576) (hi1 : input.length ≤ 1000)
  (m0 : 0 ≤ main) (m1 : main < l.length) (hcells : 0 ≤ (au l main).f1 ∧ (au l main).f1 ≤ 65536) :
  Calls Tryd.prog 26 #[.slice A0 l.length c0, .int .i64 main, .slice A2 input.length c2, .int .i64 fuel] w (uM R0 w l input main fuel) := by
 have hl : Kd.C k46 w A0 l.length l := Kd.nG hF
 have e1 : decide (fuel < 0) = false := Zb (by omega)
 have e2 : decide (1048576 < fuel) = false := Zb (by omega)
 have e3 : decide (1000 < (input.length : Int)) = false := Zb (by omega)
 have HO : dR.f input = some ([] ++ input) := by unfold dR.f; rw [if_pos (by simp; omega)]
 have HL := aa.mk hl; have H := aa.mk h; have HC := aa.mk hc; have HIN := aa.mk hin; have HCE := aa.mk hcells; have HO := aa.mk HO; have HC2 := aa.mk hc2; have HF := aa.mk hF; have HR0 := aa.mk hR0
 clear hl h hc hin hcells hc2 hF hR0
 go_enter Tryd.func26, Tryd.ntmps26
 go_wp2_with (first
  | ((with_reducible refine ah (f := 46) rfl ?_); refine gl 13 Tryd.func46 #[.slice A0 l.length c0, .int .i64 main] ?_; refine (aD.calls k A0 c0 l main true w HL.out HC.out H.out).mono ?_; rintro e w1 ⟨rfl, hb⟩; have HB := aa.mk hb; clear hb; refine ⟨_, rfl, ?_⟩)
  | ((with_reducible refine ah (f := 47) rfl ?_); refine gl 28 Tryd.func47 #[.slice A2 input.length c2] ?_; refine (dR.calls A2 c2 input _ _ (Kd.ek HIN.out HB.out) HC2.out HO.out).mono ?_; rintro e w2 ⟨v2, rfl, ho, hb⟩; obtain ⟨vA, vn, vC, rfl⟩ : ∃ A n c, v2 = .slice A n c := (by obtain ⟨A, c, e⟩ := Kd.dA ho; exact ⟨_, _, _, e⟩); have HOW := aa.mk ho; clear ho; have HB2 := aa.mk (HB.out.trans (hb.mono HB.out.size)); have HSZ := aa.mk HB.out.size; clear hb; refine ⟨_, rfl, ?_⟩)
  | ((with_reducible refine ah (f := 48) rfl ?_); refine gl 34 Tryd.func48 #[.pointer (some ⟨w2.heap.size, 0, none⟩), .int .i64 main, .slice none 0 0] ?_; have HRO : aa (ROn (fun k => R0 k ∨ (Value.slice vA vn vC).ownBlock = some k) (w2.alloc (.cells #[.slice A0 l.length c0, .slice none 0 0, .slice vA vn vC, .int .i64 0, .int .i64 fuel, .int .i64 0, .int .i64 0, .int .i64 0, .int .i64 0, .int .i64 0, .slice none 0 0, .bool false, .int .i64 0] 54)) ⟨w2.heap.size, .slice A0 l.length c0, .slice none 0 0, .slice vA vn vC, .slice none 0 0, 0, []⟩ (mc0 l input fuel)) := ⟨fresh_on HF.out HC.out HR0.out HB2.out HSZ.out HOW.out⟩; refine (pq HRO.out main m0 m1 (au l main).f1.toNat (by show (au l main).f1 = _; have := HCE.out; omega) (by have := HCE.out; omega) (.slice none 0 0) [] ⟨rfl, .inl ⟨rfl, rfl⟩⟩ (Nat.zero_le _) (by show 0 + 1 ≤ 1000; omega)).mono ?_; rintro e w3 ⟨rfl, hA3⟩; have HA3 := aa.mk hA3; clear hA3; refine ⟨_, rfl, ?_⟩))
 go_ret2
 obtain ⟨o', hs, hR, hM⟩ := HA3.out
 have hsz : w.heap.size ≤ w2.heap.size := HB2.out.size
 have hsz1 : (w2.alloc (.cells #[.slice A0 l.length c0, .slice none 0 0, .slice vA vn vC, .int .i64 0, .int .i64 fuel, .int .i64 0, .int .i64 0, .int .i64 0, .int .i64 0, .int .i64 0, .slice none 0 0, .bool false, .int .i64 0] 54)).heap.size = w2.heap.size + 1 := by simp
 refine ⟨_, o', by rw [RMo.ptr, hs.1]; rfl, hR, fun k hk => ?_, fun k hk => ?_, ?_⟩
 ·rcases hs.2 k hk with h1 | h1
  ·have : k = w2.heap.size := by simpa [RMo.own, Value.ownBlock] using h1
   omega
  ·omega
 ·rcases hk with h1 | h1
  ·exact .inl h1
  ·have h2 := (mf HOW.out).2 k h1
   have := HSZ.out
   exact .inr (by omega)
 ·refine (bP HB2.out _).trans (Mod.below (a := w) hM (by omega) (fun k h => ?_))
  have : k = w2.heap.size := by simpa [RMo.own, Value.ownBlock] using h
  omega
end
structure qz (m : Mc) (p : Mc × Bool) : Prop where
 sum : p.1.ticks + p.1.fuel = m.ticks + m.fuel
 ticks : p.1.ticks = m.ticks + (if p.2 = true then 1 else 0)
 goes : p.2 = true → p.1.ended = false
 last : p.1.ended = true → ∃ l x, p.1.events = l ++ [x] ∧ (∀ e ∈ l, e.1 < 3) ∧ 3 ≤ x.1
 evs : p.1.ended = false → ∀ e ∈ p.1.events, e.1 < 3
theorem qz.end_ {m m' : Mc} (k n : Int) (hk : 3 ≤ k) (h1 : m'.ticks = m.ticks) (h2 : m'.fuel = m.fuel) (he : m'.events = m.events) (hv : ∀ e ∈ m.events, e.1 < 3) : qz m (m'.endM k n, false) := by
 refine ⟨by show m'.ticks + m'.fuel = _; omega, by show m'.ticks = _; simp [h1], (fun h => by cases h), fun _ => ⟨m.events, (k, n), by show m'.events ++ [(k, n)] = _; rw [he], hv, hk⟩, fun h => by cases h⟩
theorem qz.on {m m' : Mc} (h1 : m'.ticks = m.ticks) (h2 : m'.fuel = m.fuel) (hd : m'.ended = false) (he : ∀ e ∈ m'.events, e.1 < 3) : qz m (m', false) :=
 ⟨by show m'.ticks + m'.fuel = _; omega, by simp [h1], (fun h => by cases h), (fun h => by rw [show m'.ended = true from h] at hd; cases hd), fun _ => he⟩
theorem sP {l : List (Int × Int)} {k n : Int} (h : ∀ e ∈ l, e.1 < 3) (hk : k < 3) : ∀ e ∈ l ++ [(k, n)], e.1 < 3 := by
 intro e he
 rcases Zn.1 he with h1 | h1
 ·exact h e h1
 ·obtain rfl := List.mem_singleton.1 h1; exact hk
theorem does_fate {m : Mc} (hd : m.ended = false) (hv : ∀ e ∈ m.events, e.1 < 3) (r : List Fr) (f : Fr) (i : S43) : qz m (m.does r f i) := by
 unfold Mc.does
 split
 ·split
  ·exact .end_ 4 4 (by decide) rfl rfl rfl hv
  ·exact .on rfl rfl hd hv
 split
 ·split
  ·exact .end_ 3 0 (by decide) rfl rfl rfl hv
  split
  ·exact .on rfl rfl hd hv
  ·exact .on rfl rfl hd hv
 split
 ·exact .on rfl rfl hd (sP hv (by decide))
 split
 ·split
  ·exact .end_ 4 5 (by decide) rfl rfl rfl hv
  ·exact .on rfl rfl hd (sP hv (by decide))
 split
 ·split
  ·exact .end_ 5 0 (by decide) rfl rfl rfl hv
  ·refine ⟨?_, ?_, fun _ => hd, (fun h => by rw [show m.ended = true from h] at hd; cases hd), fun _ => hv⟩
   ·show m.ticks + 1 + (m.fuel - 1) = _; omega
   ·rfl
 split
 ·exact .on rfl rfl hd hv
 ·exact .end_ 4 _ (by decide) rfl rfl rfl hv
theorem one_fate {m : Mc} (hd : m.ended = false) (hv : ∀ e ∈ m.events, e.1 < 3) : qz m m.one := by
 unfold Mc.one
 cases m.frames.getLast? with
 | none => exact .on rfl rfl hd hv
 | some f => exact does_fate hd hv _ _ _
theorem o8 : ∀ (k : Nat) {m : Mc}, m.ended = false → (∀ e ∈ m.events, e.1 < 3) → qz m (m.steps k) ∧ ((m.steps k).2 = false → (m.steps k).1.ended = true)
 | 0, m, hd, hv => ⟨.end_ 5 0 (by decide) rfl rfl rfl hv, fun _ => rfl⟩
 | k + 1, m, hd, hv => by
  have F := one_fate hd hv
  show qz m (if m.one.2 = true then (m.one.1, true) else if m.one.1.ended = true then (m.one.1, false) else Mc.steps k m.one.1) ∧ ((if m.one.2 = true then (m.one.1, true) else if m.one.1.ended = true then (m.one.1, false) else Mc.steps k m.one.1).2 = false → (if m.one.2 = true then (m.one.1, true) else if m.one.1.ended = true then (m.one.1, false) else Mc.steps k m.one.1).1.ended = true)
  by_cases ht : m.one.2 = true
  ·rw [if_pos ht]
   have e : (m.one.1, true) = m.one := by rw [← ht]
   rw [e]
   exact ⟨F, fun h => by rw [ht] at h; cases h⟩
  ·rw [if_neg ht]
   have ht := Zk ht
   have hs := F.ticks
   rw [ht, if_neg (by decide)] at hs
   by_cases hd : m.one.1.ended = true
   ·rw [if_pos hd]
    have e : (m.one.1, false) = m.one := by rw [← ht]
    rw [e]
    exact ⟨F, fun _ => hd⟩
   ·rw [if_neg hd]
    have hd := Zk hd
    obtain ⟨G, g⟩ := o8 k hd (F.evs hd)
    exact ⟨⟨G.sum.trans F.sum, by rw [G.ticks]; omega, G.goes, G.last, G.evs⟩, g⟩
structure Told (m : Mc) : Prop where
 last : m.ended = true → ∃ l x, m.events = l ++ [x] ∧ (∀ e ∈ l, e.1 < 3) ∧ 3 ≤ x.1
 evs : m.ended = false → ∀ e ∈ m.events, e.1 < 3
theorem kN {m : Mc} (T : Told m) : Told m.step.1 ∧ m.step.1.ticks + m.step.1.fuel = m.ticks + m.fuel ∧ m.step.1.ticks = m.ticks + (if m.step.2 = true then 1 else 0) ∧ (m.step.2 = false → m.step.1.ended = true) := by
 unfold Mc.step
 by_cases he : m.ended = true
 ·rw [if_pos he]
  exact ⟨T, rfl, by simp, fun _ => he⟩
 ·rw [if_neg he]
  have he := Zk he
  obtain ⟨F, h⟩ := o8 1048576 he (T.evs he)
  exact ⟨⟨F.last, F.evs⟩, F.sum, F.ticks, h⟩
theorem told_new (l : List S46) (input : List Int) (main fuel : Int) : Told ((mc0 l input fuel).eD main []) :=
 ⟨(fun h => by cases h), fun _ e he => by cases he⟩
theorem heap46 : Kd.Heap k46 := by
 unfold k46
 repeat (first | apply Kd.heap_iso | apply Kd.heap_pair | apply Kd.heap_slice | apply Kd.heap_int | apply Kd.heap_bool | unfold k43)
def iF (g : Nat) (m : Mc) (gr : Nat) (mr : Mc) (B : Nat) (w0 w : World) : Prop := ∃ Rd o Rr ro, o.g = g ∧ ro.g = gr ∧ MOn Rd w o m ∧ ROn Rr w ro mr ∧ (∀ k ∈ o.own, B ≤ k) ∧ (∀ k ∈ ro.own, B ≤ k) ∧ (∀ k ∈ o.own, k ∉ ro.own ∧ ¬ Rr k) ∧ (∀ k ∈ ro.own, ¬ Rd k) ∧ Below B w0 w
section
variable {g gr : Nat} {m mr : Mc} {B : Nat} {w0 w w' : World}
theorem iF.low (P : iF g m gr mr B w0 w) : Below B w0 w := by
 obtain ⟨_, _, _, _, _, _, _, _, _, _, _, _, h⟩ := P; exact h
theorem iF.on (P : iF g m gr mr B w0 w) (hB : B ≤ w0.heap.size) (hb : Below w.heap.size w w') : iF g m gr mr B w0 w' := by
 obtain ⟨Rd, o, Rr, ro, h1, h2, H, HR, h3, h4, h5, h6, h7⟩ := P
 exact ⟨Rd, o, Rr, ro, h1, h2, H.below hb, HR.below hb, h3, h4, h5, h6, h7.trans (hb.mono (Ze hB h7.size))⟩
theorem iF.step (P : iF g m gr mr B w0 w) (F : Fit m) (hB : B ≤ w0.heap.size) : Calls Tryd.prog 21 #[.pointer (some ⟨g, 0, none⟩)] w (fun e w' => e = .returned (.bool m.step.2) ∧ iF g m.step.1 gr mr B w0 w') := by
 obtain ⟨Rd, o, Rr, ro, rfl, h2, H, HR, h3, h4, h5, h6, h7⟩ := P
 refine (lg H F).mono ?_
 rintro e w' ⟨rfl, o', hs, hM, hm⟩
 have hsz := h7.size
 refine ⟨rfl, Rd, o', Rr, ro, hs.1, h2, hM, HR.mod hm (fun k hk hko => hk.elim (fun h => (h5 k hko).1 h) (fun h => (h5 k hko).2 h)), fun k hk => (hs.2 k hk).elim (h3 k) (fun h => by omega), h4, fun k hk => ?_, h6, h7.trans (Mod.below (a := w) hm (by omega) h3)⟩
 rcases hs.2 k hk with h | h
 ·exact h5 k h
 ·exact ⟨fun h' => by have := HR.lt k h'; omega, fun h' => by have := HR.low k h'; omega⟩
theorem iF.rstep (P : iF g m gr mr B w0 w) (F : Fit mr) (R : Rng mr) (he : mr.ended = false) (hB : B ≤ w0.heap.size) :
  Calls Tryd.prog 24 #[.pointer (some ⟨gr, 0, none⟩), .int .i64 1048576] w (fun e w' => e = .returned (.bool mr.step.2) ∧ ∃ mr', Sim mr' mr.step.1 ∧ iF g m gr mr' B w0 w') := by
 obtain ⟨Rd, o, Rr, ro, h1, rfl, H, HR, h3, h4, h5, h6, h7⟩ := P
 refine (qw HR F R he).mono ?_
 rintro e w' ⟨rfl, mr', hsim, ro', hs, hR, hm⟩
 have hsz := h7.size
 refine ⟨rfl, mr', hsim, Rd, o, Rr, ro', h1, hs.1, H.mod hm (fun k hk hko => hk.elim (fun h => (h5 k h).1 hko) (fun h => h6 k hko h)), hR, h3, fun k hk => (hs.2 k hk).elim (h4 k) (fun h => by omega), fun k hk => ⟨fun h' => ?_, (h5 k hk).2⟩, fun k hk h' => ?_, h7.trans (Mod.below (a := w) hm (by omega) h4)⟩
 ·rcases hs.2 k h' with h | h
  ·exact (h5 k hk).1 h
  ·have := H.lt k hk; omega
 ·rcases hs.2 k hk with h | h
  ·exact h6 k h h'
  ·have := H.low k h'; omega
structure Small (m : Mc) : Prop where
 evs : m.events.length ≤ 4398046511104
 cells : ∀ f ∈ m.frames, f.cells.length ≤ 1000000
 frames : m.frames.length ≤ 1000
theorem iF.same (P : iF g m gr mr B w0 w) (A : Alike mr m) (S : Small m) (hB : B ≤ w0.heap.size) :
  Calls Tryd.prog 23 #[.pointer (some ⟨g, 0, none⟩), .pointer (some ⟨gr, 0, none⟩)] w (fun e w' => e = .returned (.bool true) ∧ iF g m gr mr B w0 w') := by
 have P0 := P
 obtain ⟨Rd, o, Rr, ro, rfl, rfl, H, HR, h3, h4, h5, h6, h7⟩ := P
 refine (oC H HR A S.evs S.cells S.frames).mono ?_
 rintro e w' ⟨rfl, hb⟩
 exact ⟨rfl, P0.on hB hb⟩
theorem iF.ended (P : iF g m gr mr B w0 w) : w.cell? ⟨gr, 11, none⟩ = some (.bool mr.ended) := by
 obtain ⟨Rd, o, Rr, ro, rfl, rfl, H, HR, h3, h4, h5, h6, h7⟩ := P
 exact ae HR.blk 11
theorem Solo.pair {w1 : World} {l : List S46} {input : List Int} {main fuel : Int} {w2 : World} {e : Ending} (S : Solo g m w0.heap.size w0 w1) (h : uM (fun k => k < w0.heap.size) w1 l input main fuel e w2) :
  ∃ gr, e = .returned (.tuple #[.pointer (some ⟨gr, 0, none⟩), .int .i64 0]) ∧ iF g m gr ((mc0 l input fuel).eD main []) w0.heap.size w0 w2 := by
 obtain ⟨Rd, o, rfl, H, h3, h7⟩ := S
 obtain ⟨Rr, ro, rfl, HR, h4, h5, hb⟩ := h
 have hsz := h7.size
 refine ⟨ro.g, rfl, Rd, o, Rr, ro, rfl, rfl, H.below hb, HR, h3, fun k hk => Ze hsz (h4 k hk), fun k hk => ⟨fun h' => ?_, fun h' => ?_⟩, fun k hk h' => ?_, h7.trans (hb.mono hsz)⟩
 ·have := H.lt k hk; have := h4 k h'; omega
 ·have := H.lt k hk; have := h3 k hk; rcases h5 k h' with q | q <;> omega
 ·have := h4 k hk; have := H.low k h'; omega
end
def tH (x : S46) : Prop := x.f0.length ≤ 65536 ∧ ∀ j : Int, 0 ≤ j → j < x.f0.length → (az x.f0 j).f0 = 17 ∨ (az x.f0 j).f0 = 18 → 0 ≤ (az x.f0 j).f1 ∧ (az x.f0 j).f1 < x.f0.length
theorem slow_calls (w : World) (A0 : Option Addr) (c0 : Nat) (l : List S46) (hl : Kd.C k46 w A0 l.length l) (hc : l.length ≤ c0) (hn : l.length ≤ 1000) (hT : ∀ i : Int, 0 ≤ i → i < l.length → tH (au l i)) :
  Calls Tryd.prog 31 #[.slice A0 l.length c0] w fun e w' => ∃ b, e = .returned (.bool b) ∧ Below w.heap.size w w' := by
 have hu43 := Tryd.underlying43
 have HL := aa.mk hl; have HC := aa.mk hc; have HT := aa.mk hT
 clear hl hc hT
 go_enter Tryd.func31, Tryd.ntmps31
 go_wp2
 go_loopg [3] l.length (fun gk v3 W => ∃ (x : Nat), v3 = .int .i64 (x : Int) ∧ aa (gk + x = l.length) ∧ aa (Below w.heap.size w W))
 case atStart => exact ⟨0, rfl, ⟨rfl⟩, ⟨Below.refl _ _⟩⟩
 case round =>
  obtain ⟨x, rfl, A1, A2⟩ := hrel
  rcases Nat.eq_zero_or_pos gk with h0 | h0
  ·have hx : decide (x < l.length) = false := Zb (by have := A1.out; omega)
   clear h0
   go_wp2
   repeat (go_quiet (fail); try go_wp2)
   go_ret
   exact ⟨_, rfl, A2.out⟩
  ·obtain ⟨gO, rfl⟩ : ∃ j, gk = j + 1 := ⟨gk - 1, by omega⟩
   have hx : decide (x < l.length) = true := Za (by have := A1.out; omega)
   have hxb : (x : Int) ≤ 1000 := by have := A1.out; omega
   obtain ⟨y, hy⟩ : ∃ y, y = au l (x : Int) := ⟨_, rfl⟩
   have hLy : tH y := by rw [hy]; exact HT.out _ (by omega) (by have := A1.out; omega)
   have HLY := aa.mk hLy; have HY := aa.mk hy
   have hyl : (y.f0.length : Int) ≤ 65536 := by have := hLy.1; omega
   clear hLy hy
   go_wp2
   repeat (go_quiet (fail); try go_wp2)
   go_loopg [4] y.f0.length (fun gj v4 W => ∃ (z : Nat), v4 = .int .i64 (z : Int) ∧ aa (gj + z = y.f0.length) ∧ aa (Below w.heap.size w W))
   case atStart => exact ⟨0, rfl, ⟨rfl⟩, A2⟩
   case round =>
    clear A2
    obtain ⟨z, rfl, A3, A2⟩ := hrel
    obtain ⟨ad, B0, d0, hA0, hx0, _, _, _, hl0, hi0⟩ := fB (Kd.ek HL.out A2.out) (x : Int) (by omega) (by have := A1.out; omega)
    subst hA0
    simp only [Int.toNat_natCast] at hx0
    rw [← HY.out] at hx0 hl0 hi0
    have p1 := eq_true (show (0 : Int) ≤ (x : Int) by omega); have p2 := eq_true (show (x : Int) < (l.length : Int) by have := A1.out; omega)
    have HL0 := aa.mk hl0; have HI0 := aa.mk hi0
    clear hl0 hi0
    rcases Nat.eq_zero_or_pos gk with h1 | h1
    ·have hz : decide (z < y.f0.length) = false := Zb (by have := A3.out; omega)
     clear h1
     go_wp2
     repeat (go_quiet (fail); try go_wp2)
     go_roundg gO
     case measure => omega
     case rel => exact ⟨x + 1, by go_num, ⟨by have := A1.out; omega⟩, A2⟩
    ·obtain ⟨gk, rfl⟩ : ∃ j, gk = j + 1 := ⟨gk - 1, by omega⟩
     have hz : decide (z < y.f0.length) = true := Za (by have := A3.out; omega)
     have hzb : (z : Int) ≤ 65536 := by have := A3.out; omega
     obtain ⟨ad1, hB0, hz0, hz1, hz2⟩ := jP HI0.out (z : Int) (by omega) (by have := A3.out; omega)
     subst hB0
     simp only [Int.toNat_natCast] at hz0 hz1 hz2
     obtain ⟨i, hi⟩ : ∃ i, i = az y.f0 (z : Int) := ⟨_, rfl⟩
     rw [← hi] at hz0 hz1 hz2
     have HI := aa.mk hi
     have p3 := eq_true (show (0 : Int) ≤ (z : Int) by omega); have p4 := eq_true (show (z : Int) < (y.f0.length : Int) by have := A3.out; omega)
     have HD : aa (i.f0 = 17 ∨ i.f0 = 18 → 0 ≤ i.f1 ∧ i.f1 < y.f0.length) := ⟨fun h => by rw [HI.out] at h ⊢; exact HLY.out.2 z (by omega) (of_eq_true p4) h⟩
     clear h1 hi HI
     obtain ⟨F0, F1, F2⟩ := i
     simp only at hz0 hz1 hz2
     by_cases k1 : F0 = 17
     ·subst k1
      have HDT := aa.mk (HD.out (Or.inl rfl)); clear HD
      have HBX := aa.mk (bV wr (.cells #[.int .i64 17, .int .i64 F1, .int .i64 F2] 43))
      have q0 : (wr.alloc (.cells #[.int .i64 17, .int .i64 F1, .int .i64 F2] 43)).cell? ⟨wr.heap.size, 0, none⟩ = some (.int .i64 17) := ae HBX.out 0
      have q1 : (wr.alloc (.cells #[.int .i64 17, .int .i64 F1, .int .i64 F2] 43)).cell? ⟨wr.heap.size, 1, none⟩ = some (.int .i64 F1) := ae HBX.out 1
      have q2 := Lib.cell?_alloc_some (.cells #[.int .i64 17, .int .i64 F1, .int .i64 F2] 43) hx0
      by_cases k3 : F1 ≤ (z : Int)
      ·have e3 : decide (F1 ≤ (z : Int)) = true := Za k3
       have t0 : 0 ≤ F1 := HDT.out.1; have t1 : F1 < y.f0.length := HDT.out.2
       obtain ⟨ad2, hB2, hu0, hu1, hu2⟩ := jP HI0.out F1 t0 t1
       obtain rfl : ad1 = ad2 := Zg hB2
       generalize (az y.f0 F1).f0 = u at hu0
       have p5 := eq_true t0; have p6 := eq_true t1
       have q3 := Lib.cell?_alloc_some (.cells #[.int .i64 17, .int .i64 F1, .int .i64 F2] 43) hu0
       clear hB2 hu0 hu1 hu2 t0 t1 k3
       by_cases k4 : u = 24
       ·subst k4
        go_wp2
        repeat (go_quiet (fail); try go_wp2)
        go_roundg gk
        case measure => omega
        case rel => exact ⟨z + 1, by go_num, ⟨by have := A3.out; omega⟩, ⟨by repeat (first | apply bP | apply bv | apply dm | exact A2.out)⟩⟩
       ·have e4 : (u != 24) = true := bne_iff_ne.2 k4
        clear k4
        go_wp2
        repeat (go_quiet (fail); try go_wp2)
        go_ret
        exact ⟨_, rfl, by repeat (first | apply bP | apply bv | apply dm | exact A2.out)⟩
      ·have e3 : decide (F1 ≤ (z : Int)) = false := Zb k3
       clear k3
       go_wp2
       repeat (go_quiet (fail); try go_wp2)
       go_roundg gk
       case measure => omega
       case rel => exact ⟨z + 1, by go_num, ⟨by have := A3.out; omega⟩, ⟨by repeat (first | apply bP | apply bv | apply dm | exact A2.out)⟩⟩
     by_cases k2 : F0 = 18
     ·subst k2
      have HDT := aa.mk (HD.out (Or.inr rfl)); clear HD
      have HBX := aa.mk (bV wr (.cells #[.int .i64 18, .int .i64 F1, .int .i64 F2] 43))
      have q0 : (wr.alloc (.cells #[.int .i64 18, .int .i64 F1, .int .i64 F2] 43)).cell? ⟨wr.heap.size, 0, none⟩ = some (.int .i64 18) := ae HBX.out 0
      have q1 : (wr.alloc (.cells #[.int .i64 18, .int .i64 F1, .int .i64 F2] 43)).cell? ⟨wr.heap.size, 1, none⟩ = some (.int .i64 F1) := ae HBX.out 1
      have q2 := Lib.cell?_alloc_some (.cells #[.int .i64 18, .int .i64 F1, .int .i64 F2] 43) hx0
      by_cases k3 : F1 ≤ (z : Int)
      ·have e3 : decide (F1 ≤ (z : Int)) = true := Za k3
       have t0 : 0 ≤ F1 := HDT.out.1; have t1 : F1 < y.f0.length := HDT.out.2
       obtain ⟨ad2, hB2, hu0, hu1, hu2⟩ := jP HI0.out F1 t0 t1
       obtain rfl : ad1 = ad2 := Zg hB2
       generalize (az y.f0 F1).f0 = u at hu0
       have p5 := eq_true t0; have p6 := eq_true t1
       have q3 := Lib.cell?_alloc_some (.cells #[.int .i64 18, .int .i64 F1, .int .i64 F2] 43) hu0
       clear hB2 hu0 hu1 hu2 t0 t1 k3
       by_cases k4 : u = 24
       ·subst k4
        go_wp2
        repeat (go_quiet (fail); try go_wp2)
        go_roundg gk
        case measure => omega
        case rel => exact ⟨z + 1, by go_num, ⟨by have := A3.out; omega⟩, ⟨by repeat (first | apply bP | apply bv | apply dm | exact A2.out)⟩⟩
       ·have e4 : (u != 24) = true := bne_iff_ne.2 k4
        clear k4
        go_wp2
        repeat (go_quiet (fail); try go_wp2)
        go_ret
        exact ⟨_, rfl, by repeat (first | apply bP | apply bv | apply dm | exact A2.out)⟩
      ·have e3 : decide (F1 ≤ (z : Int)) = false := Zb k3
       clear k3
       go_wp2
       repeat (go_quiet (fail); try go_wp2)
       go_roundg gk
       case measure => omega
       case rel => exact ⟨z + 1, by go_num, ⟨by have := A3.out; omega⟩, ⟨by repeat (first | apply bP | apply bv | apply dm | exact A2.out)⟩⟩
     have e1 : (F0 == 17) = false := beq_eq_false_iff_ne.2 k1
     have e2 : (F0 == 18) = false := beq_eq_false_iff_ne.2 k2
     have HBX := aa.mk (bV wr (.cells #[.int .i64 F0, .int .i64 F1, .int .i64 F2] 43))
     have q0 : (wr.alloc (.cells #[.int .i64 F0, .int .i64 F1, .int .i64 F2] 43)).cell? ⟨wr.heap.size, 0, none⟩ = some (.int .i64 F0) := ae HBX.out 0
     have q1 : (wr.alloc (.cells #[.int .i64 F0, .int .i64 F1, .int .i64 F2] 43)).cell? ⟨wr.heap.size, 1, none⟩ = some (.int .i64 F1) := ae HBX.out 1
     have q2 := Lib.cell?_alloc_some (.cells #[.int .i64 F0, .int .i64 F1, .int .i64 F2] 43) hx0
     clear k1 k2
     go_wp2
     repeat (go_quiet (fail); try go_wp2)
     go_roundg gk
     case measure => omega
     case rel => exact ⟨z + 1, by go_num, ⟨by have := A3.out; omega⟩, ⟨by repeat (first | apply bP | apply bv | apply dm | exact A2.out)⟩⟩
theorem nQ {l : List S46} (hf : jR l) {main : Int} {k : Nat} (h : aJ.f k l main = some true) : gM l main := by
 obtain ⟨r, hr, hi⟩ := Sound_ok l hf main
 obtain ⟨K, hK⟩ := hr
 have h1 := hK (max K k) (Nat.le_max_left _ _)
 have h2 := pF (g := fun k => aJ.f k l main) (fun k => aJ.mono l main k) (Nat.le_max_right K k) h
 have : r = true := by
  have := h1.symm.trans h2
  exact Zg this
 exact hi.1 this
theorem rM {l : List S46} {main : Int} (hS : gM l main) {input : List Int} (hi : input.length ≤ 1000) {fuel : Int} (h0 : 0 ≤ fuel) (h1 : fuel ≤ 1048576) : Fit ((mc0 l input fuel).eD main []) := by
 have a := hS.1
 have hz := il hS a.2.2.1 a.2.2.2.1
 obtain ⟨hs, _⟩ := hz
 obtain ⟨t1, t2, t3, t4, t5, t6, t7⟩ := hs.1
 refine ⟨⟨⟨main, hS⟩, fun _ => ⟨⟨a.2.2.1, a.2.2.2.1, ?_, 0, rfl, il hS a.2.2.1 a.2.2.2.1⟩, trivial⟩, (fun _ h => by cases h), fun _ => by show (1 : Nat) ≤ 50; decide, ⟨h0, Int.le_refl _, by show fuel + 0 ≤ 1048576; omega⟩, Nat.zero_le _, hi, by show ((0 : Nat) : Int) ≤ 0 * 1048577 + 1048577; decide⟩, fun _ => by show ((0 : Nat) : Int) ≤ 0 * 1048577; decide⟩
 show ((([] : List Int) ++ List.replicate ((rdC l main).f1.toNat - ([] : List Int).length) 0).length : Int) = (rdC l main).f1
 simp
 omega
section
variable (w : World) (A0 A2 : Option Addr) (c0 c2 : Nat) (l : List S46) (input : List Int) (main fuel : Int)
theorem qA (hl : Kd.C k46 w A0 l.length l) (hc : l.length ≤ c0) (hLd : Laid w) (k : Nat) (h : aJ.f k l main = some true) (hf : jR l) (hin : Kd.C (Kd.int .i64) w A2 input.length input) (hc2 : input.length ≤ c2) (hf0 : 0 ≤ fuel) (hf1 : fuel ≤ 1048576) (hi1 : input.length ≤ 1000) :
  Calls Tryd.prog 12 #[.slice A0 l.length c0, .int .i64 main, .slice A2 input.length c2, .int .i64 fuel] w fun e w' => ∃ g, e = .returned (.tuple #[.pointer (some ⟨g, 0, none⟩), .int .i64 0]) ∧ Solo g ((mc0 l input fuel).eD main []) w.heap.size w w' := by
 have hS := nQ hf h
 have a := hS.1
 obtain ⟨hs, _⟩ := il hS a.2.2.1 a.2.2.2.1
 obtain ⟨t1, t2, t3, t4, t5, t6, t7⟩ := hs.1
 have hins : ∀ x ∈ l, x.f0.length ≤ 65536 := fun x hx => by
  obtain ⟨i, hi, rfl⟩ := List.getElem_of_mem hx
  obtain ⟨hs, _⟩ := il hS (k := (i : Int)) (by omega) (by omega)
  have := hs.1.2.1
  rw [qi l i hi] at this
  exact this
 refine (ui w A0 A2 c0 c2 l input main fuel hl hc hLd k h hin hc2 hf0 hf1 hi1 a.2.1 hins a.2.2.1 a.2.2.2.1 ⟨t3, t4⟩).mono ?_
 rintro e w' ⟨Rd, o, rfl, hM, hlow, hb⟩
 exact ⟨o.g, rfl, Rd, o, rfl, hM, fun k hk => hlow k (.inr hk), hb⟩
theorem new_duo {g1 : Nat} {m1 : Mc} {B : Nat} {w0 : World} (S : Solo g1 m1 B w0 w) (hB : B ≤ w0.heap.size) (hl : Kd.C k46 w A0 l.length l) (hc : l.length ≤ c0) (hLd : Laid w) (k : Nat) (h : aJ.f k l main = some true) (hf : jR l) (hin : Kd.C (Kd.int .i64) w A2 input.length input) (hc2 : input.length ≤ c2) (hf0 : 0 ≤ fuel) (hf1 : fuel ≤ 1048576) (hi1 : input.length ≤ 1000) :
  Calls Tryd.prog 12 #[.slice A0 l.length c0, .int .i64 main, .slice A2 input.length c2, .int .i64 fuel] w fun e w' => ∃ g, e = .returned (.tuple #[.pointer (some ⟨g, 0, none⟩), .int .i64 0]) ∧ Duo g1 m1 g ((mc0 l input fuel).eD main []) B w0 w' := by
 have hS := nQ hf h
 have a := hS.1
 obtain ⟨hs, _⟩ := il hS a.2.2.1 a.2.2.2.1
 obtain ⟨t1, t2, t3, t4, t5, t6, t7⟩ := hs.1
 have hins : ∀ x ∈ l, x.f0.length ≤ 65536 := fun x hx => by
  obtain ⟨i, hi, rfl⟩ := List.getElem_of_mem hx
  obtain ⟨hs, _⟩ := il hS (k := (i : Int)) (by omega) (by omega)
  have := hs.1.2.1
  rw [qi l i hi] at this
  exact this
 refine (ui w A0 A2 c0 c2 l input main fuel hl hc hLd k h hin hc2 hf0 hf1 hi1 a.2.1 hins a.2.2.1 a.2.2.2.1 ⟨t3, t4⟩).mono ?_
 rintro e w' ⟨Rd, o, rfl, hM, hlow, hb⟩
 obtain ⟨Rd1, o1, hg1, hM1, hl1, hw1⟩ := S
 have hBw := Ze hB hw1.size
 exact ⟨o.g, rfl, Rd1, o1, Rd, o, hg1, rfl, hM1.below hb, hM, hl1, fun k hk => Ze hBw (hlow k (.inr hk)),
  fun k hk => ⟨fun h => by have := hM1.lt k hk; have := hlow k (.inr h); omega, fun h => by have := hM1.lt k hk; have := hlow k (.inl h); omega⟩, fun k hk h => by have := hM1.low k h; have := hlow k (.inr hk); omega, hw1.trans (hb.mono hBw)⟩
end
def pU : List S43 := [⟨24, 0, 1⟩, ⟨1, 5, 0⟩, ⟨21, 0, 0⟩, ⟨24, 1, 3⟩, ⟨20, 0, 0⟩]
def pX : List S46 := [⟨pU, 0, 0, false⟩]
theorem rD : aJ.f 60 pX 0 = some true := by kernel_rfl
def km (fuel : Int) : Mc := (mc0 pX [] fuel).eD 0 []
theorem km9 : (km 9).step.2 = true ∧ (km 9).step.1.step.2 = true ∧ (km 9).step.1.step.1.step.2 = false ∧ (km 9).step.1.step.1.step.1.ticks = 2 ∧ (km 9).step.1.step.1.step.1.events = [(1, 5), (3, 0)] ∧ (km 9).step.1.step.1.step.1.ended = true ∧ (km 9).step.1.step.1.step.1.frames.length = 0 := by
 refine ⟨?_, ?_, ?_, ?_, ?_, ?_, ?_⟩ <;> kernel_rfl
theorem km1 : (km 1).step.2 = true ∧ (km 1).step.1.step.2 = false ∧ (km 1).step.1.step.1.events = [(1, 5), (5, 0)] ∧ (km 1).step.1.step.1.frames.length = 1 := by
 refine ⟨?_, ?_, ?_, ?_⟩ <;> kernel_rfl
theorem leads_of {l : List S46} {main : Int} (hS : gM l main) (i : Int) (h0 : 0 ≤ i) (h1 : i < l.length) : tH (au l i) := by
 obtain ⟨hs, _⟩ := il hS h0 h1
 obtain ⟨t1, t2, t3, t4, t5, t6, t7⟩ := hs.1
 refine ⟨t2, fun j j0 j1 hj => ?_⟩
 have hm := (hs.2 (az (au l i).f0 j) (by
  rw [show az (au l i).f0 j = (au l i).f0[j.toNat]'(by omega) by simp [az, List.getD, show j.toNat < (au l i).f0.length by omega]]
  exact List.getElem_mem _)).2
 unfold dX at hm
 rw [if_neg (by omega), if_neg (by omega), if_pos hj] at hm
 exact Zc hm
theorem great_ok (l : List S46) (hl : l.length ≤ 10000000000000) (hb : ∀ x ∈ l, x.f0.length ≤ 1000000000000000) : ∃ k r, aH.f k l = some r := by
 have loop : ∀ (d i : Nat), i + d = l.length → ∃ r, Ev (fun k => aH.l0 k l i) r := by
  intro d
  induction d with
  | zero =>
   intro i hi
   obtain rfl : i = l.length := by omega
   refine ⟨false, YE.evs ?_⟩
   simp only [aH.l0, ff (Int.lt_irrefl (l.length : Int)), if_false]; exact Ev.now _
  | succ d ih =>
   intro i hi
   have c1 := tt (show (i : Int) < (l.length : Int) by omega)
   have c2 := tt (show (0 : Int) ≤ (i : Int) by omega)
   have e2 : wrap64 ((i : Int) + 1) = ((i + 1 : Nat) : Int) := by rw [w64 (by omega) (by omega)]; rfl
   obtain ⟨r, hr⟩ := ih (i + 1) (by omega)
   by_cases h1 : (au l (i : Int)).f1 > 300
   ·by_cases h2 : (au l (i : Int)).f1 ≤ 65536
    ·refine ⟨true, YE.evs ?_⟩
     simp only [aH.l0, c1, c2, tt h1, tt h2, if_true]; exact Ev.now _
    ·refine ⟨r, YE.evs ?_⟩
     simp only [aH.l0, c1, c2, tt h1, ff h2, if_true, if_false, e2]; exact hr
   ·refine ⟨r, YE.evs ?_⟩
    simp only [aH.l0, c1, c2, ff h1, if_true, if_false, e2]; exact hr
 have j : ∀ b, ∃ r, Ev (fun k => aH.j0 k l b) r := by
  intro b
  by_cases h : b = true
  ·refine ⟨true, YE.evs ?_⟩
   simp only [aH.j0, tt h, if_true]; exact Ev.now _
  ·obtain ⟨r, hr⟩ := loop l.length 0 (by omega)
   refine ⟨r, YE.evs ?_⟩
   simp only [aH.j0, ff h, if_false]; exact hr
 have all : ∃ r, Ev (fun k => aH.f k l) r := by
  unfold aH.f
  by_cases h : (l.length : Int) > 50
  ·simp only [tt h, if_true]; exact j true
  ·obtain ⟨t, ht⟩ := Size_ok l hl hb 1000 (by decide)
   obtain ⟨r, hr⟩ := j (decide (t > 1000))
   refine ⟨r, ?_⟩
   simp only [ff h, if_false]
   exact Ev.bind ht hr
 obtain ⟨r, k, hk⟩ := all
 exact ⟨k, r, hk k (Zd _)⟩
def gI (fuel : Int) : Int := if fuel > 200 then (if fuel ≤ 1048576 then 200 else fuel) else fuel
theorem oM (fuel : Int) : dC.f fuel = some (gI fuel) := by
 unfold dC.f gI
 split
 ·split <;> rfl
 ·rfl
theorem few_range {fuel : Int} (h0 : 0 ≤ gI fuel) (h1 : gI fuel ≤ 1048576) : gI fuel ≤ 200 := by
 unfold gI at *
 split at * <;> (try split at *) <;> omega
def ni (l : List S46) (input : List Int) (main fuel : Int) (w : World) (e : Ending) (w' : World) : Prop :=
 Below w.heap.size w w' ∧ (e = .returned (.tuple #[.pointer none, .pointer none, .bool false, .bool true]) ∨
  ∃ g gr b, e = .returned (.tuple #[.pointer (some ⟨g, 0, none⟩), .pointer (some ⟨gr, 0, none⟩), .bool b, .bool true]) ∧ iF g ((mc0 l input (gI fuel)).eD main []) gr ((mc0 l input (gI fuel)).eD main []) w.heap.size w w' ∧ gM l main ∧ 0 ≤ gI fuel ∧ gI fuel ≤ 200 ∧ input.length ≤ 200)
theorem rboth_great (w : World) (A0 A2 : Option Addr) (c0 c2 : Nat) (l : List S46) (input : List Int) (main fuel : Int) (hl : Kd.C k46 w A0 l.length l) (hc : l.length ≤ c0) (hLd : Laid w) (hf : jR l) (hin : Kd.C (Kd.int .i64) w A2 input.length input) (hc2 : input.length ≤ c2) (kg : Nat) (hg : aH.f kg l = some true) : Calls Tryd.prog 10 #[.slice A0 l.length c0, .int .i64 main, .slice A2 input.length c2, .int .i64 fuel] w (ni l input main fuel w) := by
 have HL := aa.mk hl; have HC := aa.mk hc; have HG := aa.mk hg
 clear hl hc hg hLd hf hin
 go_enter Tryd.func10, Tryd.ntmps10
 go_wp2_with (first
  | ((with_reducible refine ah (f := 25) rfl ?_); (try (refine aG (by rfl) ?_; dsimp only)); refine gl 17 Tryd.func25 #[.slice A0 l.length c0] ?_; (with_reducible refine (aH.calls kg A0 c0 l true w HL.out HC.out HG.out).mono ?_); rintro e w0 ⟨rfl, nd, rfl⟩; have HB := aa.mk (bv (Below.refl w.heap.size w) nd); refine ⟨_, rfl, ?_⟩))
 exact bodyPost_ret (v := .tuple #[.pointer none, .pointer none, .bool false, .bool true]) (by simp [results, Tryd.results10, go_sem]) rfl ⟨HB.out, .inl rfl⟩
theorem rboth_long (w : World) (A0 A2 : Option Addr) (c0 c2 : Nat) (l : List S46) (input : List Int) (main fuel : Int) (hl : Kd.C k46 w A0 l.length l) (hc : l.length ≤ c0) (hLd : Laid w) (hf : jR l) (hin : Kd.C (Kd.int .i64) w A2 input.length input) (hc2 : input.length ≤ c2) (kg : Nat) (hg : aH.f kg l = some false) (h1 : 200 < input.length) (h2 : input.length ≤ 1000) : Calls Tryd.prog 10 #[.slice A0 l.length c0, .int .i64 main, .slice A2 input.length c2, .int .i64 fuel] w (ni l input main fuel w) := by
 have HL := aa.mk hl; have HC := aa.mk hc; have HG := aa.mk hg
 have e1 : decide (200 < (input.length : Int)) = true := Za (by omega)
 have e2 : decide ((input.length : Int) ≤ 1000) = true := Za (by omega)
 clear hl hc hg hLd hf hin h1 h2
 go_enter Tryd.func10, Tryd.ntmps10
 go_wp2_with (first
  | ((with_reducible refine ah (f := 25) rfl ?_); (try (refine aG (by rfl) ?_; dsimp only)); refine gl 17 Tryd.func25 #[.slice A0 l.length c0] ?_; (with_reducible refine (aH.calls kg A0 c0 l false w HL.out HC.out HG.out).mono ?_); rintro e w0 ⟨rfl, nd, rfl⟩; have HB := aa.mk (bv (Below.refl w.heap.size w) nd); refine ⟨_, rfl, ?_⟩))
 exact bodyPost_ret (v := .tuple #[.pointer none, .pointer none, .bool false, .bool true]) (by simp [results, Tryd.results10, go_sem]) rfl ⟨HB.out, .inl rfl⟩
theorem kT (w : World) (A0 A2 : Option Addr) (c0 c2 : Nat) (l : List S46) (input : List Int) (main fuel : Int) (hl : Kd.C k46 w A0 l.length l) (hc : l.length ≤ c0) (hLd : Laid w) (hf : jR l) (hin : Kd.C (Kd.int .i64) w A2 input.length input) (hc2 : input.length ≤ c2) (kg : Nat) (hg : aH.f kg l = some false) (h1 : ¬ (200 < input.length ∧ input.length ≤ 1000)) (er : Int) (h0 : er = 1 ∨ er = 60)
  (HN : ∀ W, Below w.heap.size w W → Calls Tryd.prog 12 #[.slice A0 l.length c0, .int .i64 main, .slice A2 input.length c2, .int .i64 (gI fuel)] W fun e w' => e = .returned (.tuple #[.pointer none, .int .i64 er]) ∧ Below W.heap.size W w')
  (HR : ∀ W, Below w.heap.size w W → Calls Tryd.prog 26 #[.slice A0 l.length c0, .int .i64 main, .slice A2 input.length c2, .int .i64 (gI fuel)] W fun e w' => e = .returned (.tuple #[.pointer none, .int .i64 er]) ∧ Below W.heap.size W w') :
  Calls Tryd.prog 10 #[.slice A0 l.length c0, .int .i64 main, .slice A2 input.length c2, .int .i64 fuel] w (ni l input main fuel w) := by
 have HL := aa.mk hl; have HC := aa.mk hc; have HG := aa.mk hg; have HN := aa.mk HN; have HR := aa.mk HR
 clear hl hc hg hLd hf hin
 by_cases h2 : 200 < input.length
 ·have e1 : decide (200 < (input.length : Int)) = true := Za (by omega)
  have e2 : decide ((input.length : Int) ≤ 1000) = false := Zb (by omega)
  clear h1 h2
  rcases h0 with rfl | rfl
  all_goals
   go_enter Tryd.func10, Tryd.ntmps10
   go_wp2_with (first
    | ((with_reducible refine ah (f := 25) rfl ?_); (try (refine aG (by rfl) ?_; dsimp only)); refine gl 17 Tryd.func25 #[.slice A0 l.length c0] ?_; (with_reducible refine (aH.calls kg A0 c0 l false w HL.out HC.out HG.out).mono ?_); rintro e w0 ⟨rfl, nd, rfl⟩; have HB := aa.mk (bv (Below.refl w.heap.size w) nd); refine ⟨_, rfl, ?_⟩)
    | ((with_reducible refine ah (f := 13) rfl ?_); (try (refine aG (by rfl) ?_; dsimp only)); refine gl 33 Tryd.func13 #[.int .i64 fuel] ?_; (with_reducible refine (dC.calls fuel _ _ (oM fuel)).mono ?_); rintro e w1 ⟨rfl, ndw1, rfl⟩; have HB := aa.mk (bv HB.out ndw1); refine ⟨_, rfl, ?_⟩)
    | ((with_reducible refine ah (f := 12) rfl ?_); (try (refine aG (by rfl) ?_; dsimp only)); refine gl 34 Tryd.func12 #[.slice A0 l.length c0, .int .i64 main, .slice A2 input.length c2, .int .i64 (gI fuel)] ?_; (with_reducible refine (HN.out _ HB.out).mono ?_); rintro e w2 ⟨rfl, hb⟩; have HB := aa.mk (HB.out.trans (hb.mono HB.out.size)); clear hb; refine ⟨_, rfl, ?_⟩)
    | ((with_reducible refine ah (f := 13) rfl ?_); (try (refine aG (by rfl) ?_; dsimp only)); refine gl 42 Tryd.func13 #[.int .i64 fuel] ?_; (with_reducible refine (dC.calls fuel _ _ (oM fuel)).mono ?_); rintro e w3 ⟨rfl, ndw3, rfl⟩; have HB := aa.mk (bv HB.out ndw3); refine ⟨_, rfl, ?_⟩)
    | ((with_reducible refine ah (f := 26) rfl ?_); (try (refine aG (by rfl) ?_; dsimp only)); refine gl 43 Tryd.func26 #[.slice A0 l.length c0, .int .i64 main, .slice A2 input.length c2, .int .i64 (gI fuel)] ?_; (with_reducible refine (HR.out _ HB.out).mono ?_); rintro e w4 ⟨rfl, hb⟩; have HB := aa.mk (HB.out.trans (hb.mono HB.out.size)); clear hb; refine ⟨_, rfl, ?_⟩))
   exact bodyPost_ret (v := .tuple #[.pointer none, .pointer none, .bool false, .bool true]) (by simp [results, Tryd.results10, go_sem]) rfl ⟨HB.out, .inl rfl⟩
 ·have e1 : decide (200 < (input.length : Int)) = false := Zb (by omega)
  clear h1 h2
  rcases h0 with rfl | rfl
  all_goals
   go_enter Tryd.func10, Tryd.ntmps10
   go_wp2_with (first
    | ((with_reducible refine ah (f := 25) rfl ?_); (try (refine aG (by rfl) ?_; dsimp only)); refine gl 17 Tryd.func25 #[.slice A0 l.length c0] ?_; (with_reducible refine (aH.calls kg A0 c0 l false w HL.out HC.out HG.out).mono ?_); rintro e w0 ⟨rfl, nd, rfl⟩; have HB := aa.mk (bv (Below.refl w.heap.size w) nd); refine ⟨_, rfl, ?_⟩)
    | ((with_reducible refine ah (f := 13) rfl ?_); (try (refine aG (by rfl) ?_; dsimp only)); refine gl 33 Tryd.func13 #[.int .i64 fuel] ?_; (with_reducible refine (dC.calls fuel _ _ (oM fuel)).mono ?_); rintro e w1 ⟨rfl, ndw1, rfl⟩; have HB := aa.mk (bv HB.out ndw1); refine ⟨_, rfl, ?_⟩)
    | ((with_reducible refine ah (f := 12) rfl ?_); (try (refine aG (by rfl) ?_; dsimp only)); refine gl 34 Tryd.func12 #[.slice A0 l.length c0, .int .i64 main, .slice A2 input.length c2, .int .i64 (gI fuel)] ?_; (with_reducible refine (HN.out _ HB.out).mono ?_); rintro e w2 ⟨rfl, hb⟩; have HB := aa.mk (HB.out.trans (hb.mono HB.out.size)); clear hb; refine ⟨_, rfl, ?_⟩)
    | ((with_reducible refine ah (f := 13) rfl ?_); (try (refine aG (by rfl) ?_; dsimp only)); refine gl 42 Tryd.func13 #[.int .i64 fuel] ?_; (with_reducible refine (dC.calls fuel _ _ (oM fuel)).mono ?_); rintro e w3 ⟨rfl, ndw3, rfl⟩; have HB := aa.mk (bv HB.out ndw3); refine ⟨_, rfl, ?_⟩)
    | ((with_reducible refine ah (f := 26) rfl ?_); (try (refine aG (by rfl) ?_; dsimp only)); refine gl 43 Tryd.func26 #[.slice A0 l.length c0, .int .i64 main, .slice A2 input.length c2, .int .i64 (gI fuel)] ?_; (with_reducible refine (HR.out _ HB.out).mono ?_); rintro e w4 ⟨rfl, hb⟩; have HB := aa.mk (HB.out.trans (hb.mono HB.out.size)); clear hb; refine ⟨_, rfl, ?_⟩))
   exact bodyPost_ret (v := .tuple #[.pointer none, .pointer none, .bool false, .bool true]) (by simp [results, Tryd.results10, go_sem]) rfl ⟨HB.out, .inl rfl⟩
theorem rboth_there (w : World) (A0 A2 : Option Addr) (c0 c2 : Nat) (l : List S46) (input : List Int) (main fuel : Int) (hl : Kd.C k46 w A0 l.length l) (hc : l.length ≤ c0) (hLd : Laid w) (hf : jR l) (hin : Kd.C (Kd.int .i64) w A2 input.length input) (hc2 : input.length ≤ c2) (kg : Nat) (hg : aH.f kg l = some false) (h1 : input.length ≤ 200) (hS : gM l main) (hf0 : 0 ≤ gI fuel) (hf1 : gI fuel ≤ 200)
  (HN : ∀ W, Below w.heap.size w W → Calls Tryd.prog 12 #[.slice A0 l.length c0, .int .i64 main, .slice A2 input.length c2, .int .i64 (gI fuel)] W fun e w' => ∃ g, e = .returned (.tuple #[.pointer (some ⟨g, 0, none⟩), .int .i64 0]) ∧ Solo g ((mc0 l input (gI fuel)).eD main []) W.heap.size W w')
  (HR : ∀ W, Below w.heap.size w W → Calls Tryd.prog 26 #[.slice A0 l.length c0, .int .i64 main, .slice A2 input.length c2, .int .i64 (gI fuel)] W (uM (fun k => k < w.heap.size) W l input main (gI fuel)))
  (HS : ∀ W, Below w.heap.size w W → Calls Tryd.prog 31 #[.slice A0 l.length c0] W fun e w' => ∃ b, e = .returned (.bool b) ∧ Below W.heap.size W w') :
  Calls Tryd.prog 10 #[.slice A0 l.length c0, .int .i64 main, .slice A2 input.length c2, .int .i64 fuel] w (ni l input main fuel w) := by
 have HL := aa.mk hl; have HC := aa.mk hc; have HG := aa.mk hg; have HN := aa.mk HN; have HR := aa.mk HR; have HS := aa.mk HS
 have HALL : aa (gM l main ∧ 0 ≤ gI fuel ∧ gI fuel ≤ 200 ∧ input.length ≤ 200) := ⟨hS, hf0, hf1, h1⟩
 have e1 : decide (200 < (input.length : Int)) = false := Zb (by omega)
 clear hl hc hg hLd hf hin h1 hS hf0 hf1
 go_enter Tryd.func10, Tryd.ntmps10
 go_wp2_with (first
  | ((with_reducible refine ah (f := 25) rfl ?_); (try (refine aG (by rfl) ?_; dsimp only)); refine gl 17 Tryd.func25 #[.slice A0 l.length c0] ?_; (with_reducible refine (aH.calls kg A0 c0 l false w HL.out HC.out HG.out).mono ?_); rintro e w0 ⟨rfl, nd, rfl⟩; have HB := aa.mk (bv (Below.refl w.heap.size w) nd); refine ⟨_, rfl, ?_⟩)
  | ((with_reducible refine ah (f := 13) rfl ?_); (try (refine aG (by rfl) ?_; dsimp only)); refine gl 33 Tryd.func13 #[.int .i64 fuel] ?_; (with_reducible refine (dC.calls fuel _ _ (oM fuel)).mono ?_); rintro e w1 ⟨rfl, ndw1, rfl⟩; have HB := aa.mk (bv HB.out ndw1); refine ⟨_, rfl, ?_⟩)
  | ((with_reducible refine ah (f := 12) rfl ?_); (try (refine aG (by rfl) ?_; dsimp only)); refine gl 34 Tryd.func12 #[.slice A0 l.length c0, .int .i64 main, .slice A2 input.length c2, .int .i64 (gI fuel)] ?_; (with_reducible refine (HN.out _ HB.out).mono ?_); rintro e w2 ⟨gm, rfl, S0⟩; have S1 := aa.mk (S0.weak HB.out HB.out.size); clear S0; refine ⟨_, rfl, ?_⟩)
  | ((with_reducible refine ah (f := 13) rfl ?_); (try (refine aG (by rfl) ?_; dsimp only)); refine gl 42 Tryd.func13 #[.int .i64 fuel] ?_; (with_reducible refine (dC.calls fuel _ _ (oM fuel)).mono ?_); rintro e w3 ⟨rfl, nd3, rfl⟩; have S1 := aa.mk (S1.out.on (bv (Below.refl _ _) nd3)); refine ⟨_, rfl, ?_⟩)
  | ((with_reducible refine ah (f := 26) rfl ?_); (try (refine aG (by rfl) ?_; dsimp only)); refine gl 43 Tryd.func26 #[.slice A0 l.length c0, .int .i64 main, .slice A2 input.length c2, .int .i64 (gI fuel)] ?_; (with_reducible refine (HR.out _ S1.out.low).mono ?_); rintro e w4 hrn; obtain ⟨gr, rfl, P2⟩ := S1.out.pair hrn; have S2 := aa.mk P2; clear hrn P2; refine ⟨_, rfl, ?_⟩)
  | ((with_reducible refine ah (f := 31) rfl ?_); (try (refine aG (by rfl) ?_; dsimp only)); refine gl 58 Tryd.func31 #[.slice A0 l.length c0] ?_; (with_reducible refine (HS.out _ S2.out.low).mono ?_); rintro e w5 ⟨bs, rfl, hb⟩; have S3 := aa.mk (S2.out.on (Zd _) hb); clear hb; refine ⟨_, rfl, ?_⟩))
 exact bodyPost_ret (v := .tuple #[.pointer (some ⟨gm, 0, none⟩), .pointer (some ⟨gr, 0, none⟩), .bool (!bs), .bool true]) (by simp [results, Tryd.results10, go_sem]) rfl ⟨S3.out.low, .inr ⟨gm, gr, !bs, rfl, S3.out, HALL.out⟩⟩
theorem rboth_law (w : World) (A0 A2 : Option Addr) (c0 c2 : Nat) (l : List S46) (input : List Int) (main fuel : Int) (hl : Kd.C k46 w A0 l.length l) (hc : l.length ≤ c0) (hLd : Laid w) (hf : jR l) (hin : Kd.C (Kd.int .i64) w A2 input.length input) (hc2 : input.length ≤ c2) (hn : l.length ≤ 10000000000000) (hb : ∀ x ∈ l, x.f0.length ≤ 1000000000000000) :
  Calls Tryd.prog 10 #[.slice A0 l.length c0, .int .i64 main, .slice A2 input.length c2, .int .i64 fuel] w (ni l input main fuel w) := by
 obtain ⟨kg, r, hg⟩ := great_ok l hn hb
 cases r with
 | true => exact rboth_great w A0 A2 c0 c2 l input main fuel hl hc hLd hf hin hc2 kg hg
 | false =>
  by_cases h1 : 200 < input.length ∧ input.length ≤ 1000
  ·exact rboth_long w A0 A2 c0 c2 l input main fuel hl hc hLd hf hin hc2 kg hg h1.1 h1.2
  obtain ⟨r, ⟨K1, e1⟩, ⟨K2, e2⟩, hi⟩ := Sound_both l hf main
  have e1 := e1 K1 (Zd _)
  have e2 := e2 K2 (Zd _)
  cases r with
  | false =>
   refine kT w A0 A2 c0 c2 l input main fuel hl hc hLd hf hin hc2 kg hg h1 60 (.inr rfl) (fun W hW => ?_) (fun W hW => ?_)
   ·exact new_unsound W A0 c0 l main (gI fuel) (Kd.ek hl hW) hc (hLd.below hW) K1 e1 _
   ·exact refnew_unsound W A0 c0 l main (gI fuel) (Kd.ek hl hW) hc K2 e2 _
  | true =>
   have hS := hi.1 rfl
   by_cases hbad : gI fuel < 0 ∨ 1048576 < gI fuel ∨ 1000 < input.length
   ·refine kT w A0 A2 c0 c2 l input main fuel hl hc hLd hf hin hc2 kg hg h1 1 (.inl rfl) (fun W hW => ?_) (fun W hW => ?_)
    ·exact new_args W A0 A2 c0 c2 l main (gI fuel) (Kd.ek hl hW) hc (hLd.below hW) K1 e1 _ hbad
    ·exact refnew_args W A0 A2 c0 c2 l main (gI fuel) (Kd.ek hl hW) hc K2 e2 _ hbad
   ·have f0 : 0 ≤ gI fuel := by omega
    have f1 : gI fuel ≤ 200 := few_range f0 (by omega)
    have a := hS.1
    obtain ⟨hs, _⟩ := il hS a.2.2.1 a.2.2.2.1
    obtain ⟨t1, t2, t3, t4, t5, t6, t7⟩ := hs.1
    refine rboth_there w A0 A2 c0 c2 l input main fuel hl hc hLd hf hin hc2 kg hg (by omega) hS f0 f1 (fun W hW => ?_) (fun W hW => ?_) (fun W hW => ?_)
    ·exact qA W A0 A2 c0 c2 l input main (gI fuel) (Kd.ek hl hW) hc (hLd.below hW) K1 e1 hf (Kd.ek hin hW) hc2 f0 (by omega) (by omega)
    ·exact refnew_on W A0 A2 c0 c2 l input main (gI fuel) (fun k hk => Zf hk hW.size) (Kd.rY (Kd.C_F heap46 hl) hW) hc K2 e2 (Kd.ek hin hW) hc2 f0 (by omega) (by omega) a.2.2.1 a.2.2.2.1 ⟨t3, t4⟩
    ·exact slow_calls W A0 c0 l (Kd.ek hl hW) hc (by have := a.2.1; omega) (leads_of hS)
def l9 (m : Mc) : Prop := ∀ f ∈ m.frames, f.cells.length ≤ 65536
theorem qQ (f : Fr) (i : S43) : (cO f i).1.cells.length = f.cells.length := by
 unfold cO
 by_cases h1 : i.f0 = 1
 ·rw [if_pos h1]
 rw [if_neg h1]
 by_cases h2 : i.f0 = 2
 ·rw [if_pos h2]
 rw [if_neg h2]
 by_cases h3 : i.f0 = 3
 ·rw [if_pos h3]; simp
 rw [if_neg h3]
 by_cases h4 : i.f0 = 4
 ·rw [if_pos h4]; split <;> rfl
 rw [if_neg h4]
 by_cases h5 : i.f0 = 5
 ·rw [if_pos h5]; split <;> simp
 rw [if_neg h5]
 by_cases h6 : i.f0 = 6
 ·rw [if_pos h6]; exact gX _ _ _
 rw [if_neg h6]
 by_cases h15 : i.f0 = 15
 ·rw [if_pos h15]
 rw [if_neg h15]
 by_cases h16 : i.f0 = 16
 ·rw [if_pos h16]
 rw [if_neg h16]
 by_cases h17 : i.f0 = 17
 ·rw [if_pos h17]
 rw [if_neg h17]
 by_cases h18 : i.f0 = 18
 ·rw [if_pos h18]
 rw [if_neg h18]
 by_cases h23 : i.f0 = 23
 ·rw [if_pos h23]
 rw [if_neg h23]
 by_cases h25 : i.f0 = 25
 ·rw [if_pos h25]
 rw [if_neg h25]
theorem nD (l : List S46) (k : Int) (args : List Int) : (iL l k args).cells.length = args.length + ((au l k).f1.toNat - args.length) := by
 simp [iL]
theorem fO {r : List Fr} {f : Fr} (h : ∀ g ∈ r, g.cells.length ≤ 65536) (hf : f.cells.length ≤ 65536) : ∀ g ∈ r ++ [f], g.cells.length ≤ 65536 := fun g hg => (Zn.1 hg).elim (h g) (fun e => by simp at e; exact e ▸ hf)
theorem one_cells {m : Mc} {r : List Fr} {f : Fr} (F : Fits m r f) (C : l9 m) : l9 m.one.1 ∧ m.one.1.frames.length ≤ 51 := by
 have hr : ∀ g ∈ r, g.cells.length ≤ 65536 := fun g hg => C g (by rw [F.fr]; simp [hg])
 have hf : f.cells.length ≤ 65536 := C f (by rw [F.fr]; simp)
 have hd := F.deep
 have hcall := F.call
 rw [iw F.fr]
 generalize m.ins f = i at *
 unfold Mc.does l9
 split
 ·rename_i h19
  obtain ⟨a0, a1, a2, a3, a4, a5⟩ := hcall h19
  split
  ·exact ⟨fO hr hf, by simp [Mc.endM]; omega⟩
  ·refine ⟨fO (fO hr hf) ?_, by simp [Mc.eD]; omega⟩
   refine Ze (Nat.le_of_eq (nD _ _ _)) ?_
   show (f.stack.drop (f.stack.length - i.f2.toNat)).length + ((au m.codes i.f1).f1.toNat - (f.stack.drop (f.stack.length - i.f2.toNat)).length) ≤ 65536
   rw [List.length_drop]
   omega
 ·split
  ·split
   ·exact ⟨fun g hg => by simp [Mc.endM] at hg, by simp [Mc.endM]⟩
   ·split
    ·refine ⟨fun g hg => ?_, ?_⟩
     ·have hg : g ∈ fU r (({ f with at_ := f.at_ + 1 } : Fr).stack.getLastD 0) := hg
      unfold fU at hg
      rcases Zn.1 hg with h | h
      ·exact hr g (List.dropLast_subset r h)
      ·rcases e : r.getLast? with _ | q
       ·rw [e] at h; simp at h
       ·rw [e] at h
        simp at h
        subst h
        exact hr q (List.mem_of_getLast? e)
     ·show (fU r _).length ≤ 51
      unfold fU
      rw [List.length_append, List.length_dropLast]
      split <;> simp <;> omega
    ·exact ⟨hr, by show r.length ≤ 51; omega⟩
  ·split
   ·exact ⟨fO hr hf, by simp; omega⟩
   ·split
    ·split
     ·exact ⟨fO hr hf, by simp [Mc.endM]; omega⟩
     ·exact ⟨fO hr hf, by simp; omega⟩
    ·split
     ·split
      ·exact ⟨fO hr hf, by simp [Mc.endM]; omega⟩
      ·exact ⟨fO hr hf, by simp; omega⟩
     ·split
      ·exact ⟨fO hr (by rw [qQ]; exact hf), by simp; omega⟩
      ·exact ⟨fO hr (by rw [qQ]; exact hf), by simp [Mc.endM]; omega⟩
theorem mJ : ∀ (k : Nat) {m : Mc}, Inv k m → m.ended = false → l9 m → l9 (m.steps k).1 ∧ (m.steps k).1.frames.length ≤ 51
 | 0, m, I, he, C => by
  obtain ⟨r, f, F⟩ := road.fits 0 m I he
  exact ⟨C, by show m.frames.length ≤ 51; rw [F.fr]; have := F.deep; simp; omega⟩
 | k + 1, m, I, he, C => by
  obtain ⟨r, f, F⟩ := road.fits (k + 1) m I he
  have h := one_cells F C
  show l9 (if m.one.2 = true then (m.one.1, true) else if m.one.1.ended = true then (m.one.1, false) else Mc.steps k m.one.1).1 ∧ (if m.one.2 = true then (m.one.1, true) else if m.one.1.ended = true then (m.one.1, false) else Mc.steps k m.one.1).1.frames.length ≤ 51
  by_cases ht : m.one.2 = true
  ·rw [if_pos ht]; exact h
  ·rw [if_neg ht]
   by_cases hd : m.one.1.ended = true
   ·rw [if_pos hd]; exact h
   ·rw [if_neg hd]
    have hd' := Zk hd
    exact mJ k (road.next k m I he (Zk ht) hd') hd' h.1
structure Reach (m : Mc) : Prop where
 fit : Fit m
 told : Told m
 rng : Rng m
 cells : l9 m
 frames : m.frames.length ≤ 51
theorem Reach.small {m : Mc} (R : Reach m) : Small m := ⟨by have := R.fit.evb; omega, fun f hf => by have := R.cells f hf; omega, by have := R.frames; omega⟩
theorem Reach.step {m : Mc} (R : Reach m) : Reach m.step.1 := by
 refine ⟨(gL R.fit).1, (kN R.told).1, step_rng R.rng, ?_, ?_⟩ <;>
 ·unfold Mc.step
  by_cases he : m.ended = true
  ·rw [if_pos he]; first | exact R.cells | exact R.frames
  ·rw [if_neg he]
   have h := mJ 1048576 R.fit.inv (Zk he) R.cells
   first | exact h.1 | exact h.2
theorem reach_new {l : List S46} {main : Int} (hS : gM l main) (hf : jR l) {input : List Int} (hi : input.length ≤ 1000) (hin : ∀ x ∈ input, (Lit.int .i64 x).wf = true) {fuel : Int} (h0 : 0 ≤ fuel) (h1 : fuel ≤ 1048576) : Reach ((mc0 l input fuel).eD main []) := by
 have a := hS.1
 obtain ⟨hs, _⟩ := il hS a.2.2.1 a.2.2.2.1
 obtain ⟨t1, t2, t3, t4, t5, t6, t7⟩ := hs.1
 have hc : ((mc0 l input fuel).eD main []).frames = [iL l main []] := rfl
 refine ⟨rM hS hi h0 h1, told_new l input main fuel, ⟨fun k p => ?_, fun x hx => qD (hin x hx), fun f hf' => ?_⟩, fun f hf' => ?_, by rw [hc]; exact Nat.le_of_lt (show 1 < 51 by decide)⟩
 ·show In64 (az (au l k).f0 p).f1
  have h1 : ∀ y ∈ (au l k).f0, In64 y.f1 := by
   intro y hy
   unfold au at hy
   rw [List.getD_eq_getElem?_getD] at hy
   rcases e : l[k.toNat]? with _ | q
   ·rw [e] at hy; cases hy
   ·rw [e] at hy
    exact qD (hf q (List.mem_of_getElem? e) y hy).2.1
  unfold az
  rw [List.getD_eq_getElem?_getD]
  rcases e : (au l k).f0[p.toNat]? with _ | q
  ·exact jB
  ·exact h1 q (List.mem_of_getElem? e)
 ·rw [hc] at hf'
  obtain rfl : f = iL l main [] := by simpa using hf'
  exact ⟨dO.nil, dO.app dO.nil (dO.rep _)⟩
 ·rw [hc] at hf'
  obtain rfl : f = iL l main [] := by simpa using hf'
  refine Ze (Nat.le_of_eq (nD _ _ _)) ?_
  have e1 : (au l main).f1 ≤ 65536 := t4
  show 0 + ((au l main).f1.toNat - 0) ≤ 65536
  omega
def l5 (m : Mc) : Prop := ∀ f ∈ m.frames, f.stack.length ≤ 1000000
theorem data_stack (f : Fr) (i : S43) : (cO f i).1.stack.length ≤ f.stack.length + 1 := by
 unfold cO
 by_cases h1 : i.f0 = 1
 ·rw [if_pos h1]; first | (simp; done) | (simp; omega) | (split <;> simp <;> omega)
 rw [if_neg h1]
 by_cases h2 : i.f0 = 2
 ·rw [if_pos h2]; first | (simp; done) | (simp; omega) | (split <;> simp <;> omega)
 rw [if_neg h2]
 by_cases h3 : i.f0 = 3
 ·rw [if_pos h3]; first | (simp; done) | (simp; omega) | (split <;> simp <;> omega)
 rw [if_neg h3]
 by_cases h4 : i.f0 = 4
 ·rw [if_pos h4]; first | (simp; done) | (simp; omega) | (split <;> simp <;> omega)
 rw [if_neg h4]
 by_cases h5 : i.f0 = 5
 ·rw [if_pos h5]; first | (simp; done) | (simp; omega) | (split <;> simp <;> omega)
 rw [if_neg h5]
 by_cases h6 : i.f0 = 6
 ·rw [if_pos h6]; first | (simp; done) | (simp; omega) | (split <;> simp <;> omega)
 rw [if_neg h6]
 by_cases h15 : i.f0 = 15
 ·rw [if_pos h15]; first | (simp; done) | (simp; omega) | (split <;> simp <;> omega)
 rw [if_neg h15]
 by_cases h16 : i.f0 = 16
 ·rw [if_pos h16]; first | (simp; done) | (simp; omega) | (split <;> simp <;> omega)
 rw [if_neg h16]
 by_cases h17 : i.f0 = 17
 ·rw [if_pos h17]; first | (simp; done) | (simp; omega) | (split <;> simp <;> omega)
 rw [if_neg h17]
 by_cases h18 : i.f0 = 18
 ·rw [if_pos h18]; first | (simp; done) | (simp; omega) | (split <;> simp <;> omega)
 rw [if_neg h18]
 by_cases h23 : i.f0 = 23
 ·rw [if_pos h23]; first | (simp; done) | (simp; omega) | (split <;> simp <;> omega)
 rw [if_neg h23]
 by_cases h25 : i.f0 = 25
 ·rw [if_pos h25]; first | (simp; done) | (simp; omega) | (split <;> simp <;> omega)
 rw [if_neg h25]
 simp
 omega
theorem fM {r : List Fr} {f : Fr} (h : ∀ g ∈ r, g.stack.length ≤ 1000000) (hf : f.stack.length ≤ 1000000) : ∀ g ∈ r ++ [f], g.stack.length ≤ 1000000 := fun g hg => (Zn.1 hg).elim (h g) (fun e => by simp at e; exact e ▸ hf)
theorem one_stack {m : Mc} {r : List Fr} {f : Fr} (F : Fits m r f) : l5 m.one.1 := by
 have hs := F.stack
 rw [F.fr] at hs
 have h0 : ∀ g ∈ r, g.stack.length ≤ 4096 := fun g hg => hs g (by simp [hg])
 have hr : ∀ g ∈ r, g.stack.length ≤ 1000000 := fun g hg => Ze (h0 g hg) (by decide)
 have hf : f.stack.length ≤ 4096 := hs f (by simp)
 rw [iw F.fr]
 generalize m.ins f = i
 unfold Mc.does l5
 split
 ·split
  ·exact fM hr (by simp; omega)
  ·exact fM (fM hr (by simp; omega)) (Nat.zero_le _)
 ·split
  ·split
   ·exact fun g hg => by simp [Mc.endM] at hg
   ·split
    ·intro g hg
     have hg : g ∈ fU r (({ f with at_ := f.at_ + 1 } : Fr).stack.getLastD 0) := hg
     unfold fU at hg
     rcases Zn.1 hg with h | h
     ·exact hr g (List.dropLast_subset r h)
     ·rcases e : r.getLast? with _ | q
      ·rw [e] at h; simp at h
      ·rw [e] at h
       simp at h
       subst h
       have := h0 q (List.mem_of_getLast? e)
       simp
       omega
    ·exact hr
  ·split
   ·exact fM hr (by simp; omega)
   ·split
    ·split
     ·exact fM hr (by simp; omega)
     ·exact fM hr (by simp; omega)
    ·split
     ·split
      ·exact fM hr (by simp; omega)
      ·exact fM hr (by simp; omega)
     ·have h := data_stack { f with at_ := f.at_ + 1 } i
      simp only at h
      split
      ·exact fM hr (by omega)
      ·exact fM hr (by omega)
theorem mq : ∀ (k : Nat) {m : Mc}, Inv k m → m.ended = false → l5 (m.steps k).1
 | 0, m, I, he => by
  obtain ⟨r, f, F⟩ := road.fits 0 m I he
  exact fun g hg => Ze (F.stack g hg) (by decide)
 | k + 1, m, I, he => by
  obtain ⟨r, f, F⟩ := road.fits (k + 1) m I he
  have h := one_stack F
  show l5 (if m.one.2 = true then (m.one.1, true) else if m.one.1.ended = true then (m.one.1, false) else Mc.steps k m.one.1).1
  by_cases ht : m.one.2 = true
  ·rw [if_pos ht]; exact h
  ·rw [if_neg ht]
   by_cases hd : m.one.1.ended = true
   ·rw [if_pos hd]; exact h
   ·rw [if_neg hd]
    have hd' := Zk hd
    exact mq k (road.next k m I he (Zk ht) hd') hd'
theorem step_stack {m : Mc} (R : Reach m) (h : l5 m) : l5 m.step.1 := by
 unfold Mc.step
 by_cases he : m.ended = true
 ·rw [if_pos he]; exact h
 ·rw [if_neg he]; exact mq 1048576 R.fit.inv (Zk he)
theorem oo {m : Mc} (h : m.ended = true) : m.step = (m, false) := by unfold Mc.step; rw [if_pos h]
theorem nz {m : Mc} (h : m.ended = true) : ∀ n, (m.endP n).1 = m
 | 0 => rfl
 | n + 1 => by unfold Mc.endP; rw [oo h]; rfl
theorem endP_next {m : Mc} (R : Reach m) {n : Nat} (hn : m.fuel.toNat < n) : ∃ n', m.step.1.fuel.toNat < n' ∧ (m.step.1.endP n').1 = (m.endP n).1 := by
 obtain ⟨k, rfl⟩ : ∃ k, n = k + 1 := ⟨n - 1, by omega⟩
 obtain ⟨q1, q2, q3, q4⟩ := kN R.told
 show ∃ n', m.step.1.fuel.toNat < n' ∧ (m.step.1.endP n').1 = (if m.step.2 = true then Mc.endP k m.step.1 else (m.step.1, m.step.1.ended)).1
 by_cases h : m.step.2 = true
 ·rw [if_pos h]
  rw [h, if_pos rfl] at q3
  have := R.step.fit.good.fuel.1
  exact ⟨k, by omega, rfl⟩
 ·rw [if_neg h]
  exact ⟨m.step.1.fuel.toNat + 1, by omega, nz (q4 (Zk h)) _⟩
theorem step_less {m : Mc} (R : Reach m) : m.step.1.fuel ≤ m.fuel := by
 obtain ⟨q1, q2, q3, q4⟩ := kN R.told
 split at q3 <;> omega
theorem among_is (n : Int) (N : Nat) (h0 : 1 ≤ N) (h1 : N ≤ 1000) : ∃ d : Nat, d < N ∧ dF.f n N = some (d : Int) := by
 unfold dF.f
 rw [if_neg (by omega), if_neg (by omega)]
 have h1 := Int.tmod_lt_of_pos n (show (0 : Int) < N by omega)
 have h2 : -(N : Int) < Int.tmod n N := Int.lt_tmod_of_pos n (by omega)
 generalize Int.tmod n N = x at h1 h2
 by_cases h : x < 0
 ·rw [if_pos h]
  refine ⟨(x + N).toNat, by omega, ?_⟩
  congr 1
  unfold wrap64; omega
 ·rw [if_neg h]
  exact ⟨x.toNat, by omega, by congr 1; omega⟩
structure kv (w W : World) (gm : Nat) (fv : Value) (hs : List Ho) (fs : List Fr) : Prop where
 fr : W.ownsRow 0 69 1 fv fs.length (hs.map Ho.ptr)
 frs : iP (di W) hs fs
 nd : ([gm] ++ (fv.ownBlock.toList ++ hs.flatMap Ho.blocks)).Nodup
 new : ∀ k ∈ [gm] ++ (fv.ownBlock.toList ++ hs.flatMap Ho.blocks), w.heap.size ≤ k
theorem kv.lt {w W : World} {gm : Nat} {fv : Value} {hs : List Ho} {fs : List Fr} (C : kv w W gm fv hs fs) (hg : gm < W.heap.size) : ∀ k ∈ [gm] ++ (fv.ownBlock.toList ++ hs.flatMap Ho.blocks), k < W.heap.size := by
 intro k hk
 simp only [Zn, List.mem_singleton, Option.mem_toList] at hk
 rcases hk with rfl | hk | hk
 ·exact hg
 ·exact (C.fr.lt k hk).2
 ·exact fJ C.frs k hk
theorem kv.kept {w W W' : World} {gm : Nat} {fv : Value} {hs : List Ho} {fs : List Fr} (C : kv w W gm fv hs fs) (hk : ∀ k ∈ fv.ownBlock.toList ++ hs.flatMap Ho.blocks, W'.heap[k]? = W.heap[k]?) : kv w W' gm fv hs fs :=
 ⟨bQ C.fr (fun k e => hk k (by simp [e])), fe C.frs (fun k h => hk k (List.mem_append_right _ h)), C.nd, C.new⟩
theorem kv.add {w W W1 w2 : World} {gm : Nat} {fv v1 : Value} {hs : List Ho} {fs : List Fr} {h : Ho} {f : Fr} (C : kv w W gm fv hs fs) (hg : gm < W.heap.size) (hw : w.heap.size ≤ W.heap.size) (hM : Mod (fun _ => False) W W1) (HF : di W1 h f) (hnew : ∀ k ∈ h.blocks, W.heap.size ≤ k)
  (hgr : W1.grownBy w2 fv.ownBlock) (hown : w2.ownsRow 0 69 1 v1 (fs.length + 1) (hs.map Ho.ptr ++ [h.ptr])) (hat : v1.ownBlock = fv.ownBlock ∨ ∃ b, v1.ownBlock = some b ∧ W1.heap.size ≤ b) :
  kv w (w2.setCell ⟨gm, 1, none⟩ v1) gm v1 (hs ++ [h]) (fs ++ [f]) := by
 have hv := jq hat
 have hlt := C.lt hg
 have hsz := hM.size
 have nd := C.nd
 have hgfv : fv.ownBlock ≠ some gm := fun e => by simp [e] at nd
 have hghs : gm ∉ hs.flatMap Ho.blocks := fun e => by rw [List.nodup_append] at nd; exact nd.2.2 gm (by simp) gm (List.mem_append_right _ e) rfl
 have hfvh : ∀ k, fv.ownBlock = some k → k ∉ hs.flatMap Ho.blocks := fun k e h' => by
  rw [List.nodup_append] at nd
  have nd2 := nd.2.1
  rw [List.nodup_append] at nd2
  exact nd2.2.2 k (by simp [e]) k h' rfl
 have hv1g : v1.ownBlock ≠ some gm := fun e => by
  rcases hv gm e with q | q
  ·exact hgfv q
  ·omega
 have hM2 : Mod (fun k => k = gm ∨ fv.ownBlock = some k) W1 (w2.setCell ⟨gm, 1, none⟩ v1) := ((Mod.refl _ W1).grown hgr (fun k e _ => .inr e)).setCell (p := ⟨gm, 1, none⟩) (fun _ => .inl rfl) _
 refine ⟨?_, ?_, ?_, ?_⟩
 ·rw [show (fs ++ [f]).length = fs.length + 1 by simp, List.map_append]
  exact dh hown (p := ⟨gm, 1, none⟩) (fun e => hv1g e.symm) _
 ·refine jd (fe (C.frs) (fun k q => ?_)) (HF.mod hM2 (fun k hk => ?_))
  ·have h1 := fJ C.frs k q
   rw [hM2.block k (by omega) (fun q' => q'.elim (fun e => hghs (e ▸ q)) (fun e => hfvh k e q))]
   exact hM.block k h1 (fun h => h)
  ·have := hnew k hk
   rintro (rfl | e)
   ·omega
   ·have := (C.fr.lt k e).2; omega
 ·rw [List.flatMap_append, show [h].flatMap Ho.blocks = h.blocks by simp, ← List.append_assoc, ← List.append_assoc, List.nodup_append]
  refine ⟨?_, HF.nd, fun a ha b hb e => ?_⟩
  ·rw [List.append_assoc]
   exact iD nd hlt (fun k e => (hv k e).imp_right (Ze hsz))
  ·subst e
   have h1 := hnew a hb
   have h2 := HF.lt a hb
   simp only [Zn, List.mem_singleton, Option.mem_toList] at ha
   rcases ha with (rfl | ha) | ha
   ·omega
   ·rcases hv a ha with q | q
    ·have := (C.fr.lt a q).2; omega
    ·omega
   ·have := fJ C.frs a ha; omega
 ·intro k hk
  rw [List.flatMap_append, show [h].flatMap Ho.blocks = h.blocks by simp] at hk
  simp only [Zn, List.mem_singleton, Option.mem_toList] at hk
  rcases hk with rfl | hk | hk | hk
  ·exact C.new _ (by simp)
  ·rcases hv k hk with q | q
   ·exact C.new k (by simp [q])
   ·omega
  ·exact C.new k (by simp only [Zn]; exact .inr (.inr hk))
  ·have := hnew k hk; omega
theorem all2_at {α β : Type} {R : α → β → Prop} {l : List α} {m : List β} (h : iP R l m) : ∀ (k : Nat) (b : β), m[k]? = some b → ∃ a, l[k]? = some a ∧ R a b := by
 induction h with
 | nil => intro k b hk; simp at hk
 | cons h1 _ ih =>
  intro k b hk
  cases k with
  | zero => exact ⟨_, rfl, by simp at hk; exact hk ▸ h1⟩
  | succ k => exact ih k b hk
theorem frOn_made {w : World} {g : Nat} {vc vs u v : Value} {f : Fr} (hb : w.heap[g]? = some (.cells #[.int .i64 f.pr, .int .i64 f.at_, .int .i64 f.mark, u, v] 73 (0, 0))) (hc : w.ownsRow 0 2 1 vc f.cells.length (ints f.cells)) (hs : w.ownsRow 0 2 1 vs f.stack.length (ints f.stack)) (nc : vc.ownBlock ≠ some g) (ns : vs.ownBlock ≠ some g) (ncs : ∀ k, vs.ownBlock = some k → vc.ownBlock ≠ some k) : di ((w.setCell ⟨g, 3, none⟩ vc).setCell ⟨g, 4, none⟩ vs) ⟨g, vc, vs⟩ f := by
 refine ⟨dK (dK hb 3 vc) 4 vs, dh (dh hc (p := ⟨g, 3, none⟩) (fun e => nc e.symm) _) (p := ⟨g, 4, none⟩) (fun e => nc e.symm) _, dh (dh hs (p := ⟨g, 3, none⟩) (fun e => ns e.symm) _) (p := ⟨g, 4, none⟩) (fun e => ns e.symm) _, ?_⟩
 simp only [Ho.blocks, List.nodup_cons, Zn, Option.mem_toList, List.nodup_append]
 refine ⟨fun h => h.elim (fun e => nc e) (fun e => ns e), by cases vc.ownBlock <;> simp, by cases vs.ownBlock <;> simp, fun a ha b hb e => ?_⟩
 subst e
 exact ncs a (by simpa using hb) (by simpa using ha)
theorem cp_succ (x : Nat) (h : x < 1000) : wrap64 ((x : Int) + 1) = ((x + 1 : Nat) : Int) := (IntWalk.wrap64_in _ ⟨by omega, by omega⟩).trans rfl
theorem copy_fin {Rd : Nat → Prop} {w wr w1 : World} {o : MHo} {m : Mc} {gm : Nat} {fvx v1 : Value} {hsx : List Ho} (H : MOn Rd w o m) (C : kv w wr gm fvx hsx m.frames) (hb : wr.heap[gm]? = some (.cells (lV ⟨gm, o.cv, fvx, o.iv, o.ev, hsx⟩ m) 67 (0, 0))) (B : Below w.heap.size w wr) (hg : wr.grownBy w1 none) (hown : w1.ownsRow 0 38 2 v1 m.events.length (evs m.events)) (hn : ∀ k, v1.ownBlock = some k → wr.heap.size ≤ k) :
  MOn Rd (w1.setCell ⟨gm, 10, none⟩ v1) ⟨gm, o.cv, fvx, o.iv, v1, hsx⟩ m ∧ (∀ k ∈ MHo.own ⟨gm, o.cv, fvx, o.iv, v1, hsx⟩, w.heap.size ≤ k) ∧ Below w.heap.size w (w1.setCell ⟨gm, 10, none⟩ v1) := by
 have hgl := bG hb
 have hM : Mod (fun k => k = gm) wr (w1.setCell ⟨gm, 10, none⟩ v1) := ((Mod.refl (fun k => k = gm) wr).grown hg (fun k e _ => by cases e)).setCell (S := fun k => k = gm) (p := ⟨gm, 10, none⟩) (fun _ => rfl) _
 have hgw : w.heap.size ≤ gm := C.new gm (by simp)
 have hB : Below w.heap.size w (w1.setCell ⟨gm, 10, none⟩ v1) := by
  refine B.trans (Mod.below (a := w) hM B.size (fun k e => ?_))
  rw [e]; exact hgw
 have hlt := C.lt hgl
 have nd := C.nd
 have hmn : ∀ k ∈ fvx.ownBlock.toList ++ hsx.flatMap Ho.blocks, k ≠ gm := fun k hk e => by
  subst e
  exact (List.nodup_append.1 nd).2.2 k (by simp) k hk rfl
 have hkeep : ∀ k ∈ fvx.ownBlock.toList ++ hsx.flatMap Ho.blocks, (w1.setCell ⟨gm, 10, none⟩ v1).heap[k]? = wr.heap[k]? := fun k hk => hM.block k (hlt k (List.mem_append_right _ hk)) (hmn k hk)
 have C2 := C.kept hkeep
 have HB := H.below hB
 have hnw : ∀ k ∈ MHo.own ⟨gm, o.cv, fvx, o.iv, v1, hsx⟩, w.heap.size ≤ k := fun k hk => by
  simp only [MHo.own, Zn, List.mem_singleton, Option.mem_toList] at hk
  rcases hk with rfl | hk | hk | hk
  ·exact hgw
  ·exact C.new k (by simp [hk])
  ·exact Ze B.size (hn k hk)
  ·exact C.new k (by simp only [Zn]; exact .inr (.inr hk))
 refine ⟨⟨dK ((hg.block gm hgl (by simp)).trans hb) 10 v1, C2.fr, dh hown (p := ⟨gm, 10, none⟩) (fun e => by have := hn gm e.symm; omega) _, C2.frs, ?_, fun k hk hr => ?_, HB.low, HB.cs, HB.inp⟩, hnw, hB⟩
 ·have e : MHo.own ⟨gm, o.cv, fvx, o.iv, v1, hsx⟩ = ([gm] ++ fvx.ownBlock.toList) ++ (v1.ownBlock.toList ++ hsx.flatMap Ho.blocks) := by simp [MHo.own]
  rw [e]
  refine iD (x := none) (N := wr.heap.size) ?_ (fun k hk => hlt k ?_) (fun k e => .inr (hn k e))
  ·simpa using nd
  ·simpa using hk
 ·have := hnw k hk
  have := H.low k hr
  omega
section
variable {Rd : Nat → Prop} {w : World} {o : MHo} {m : Mc}
theorem copy_on (H : MOn Rd w o m) (he : m.events.length ≤ 4398046511104) (hc : ∀ f ∈ m.frames, f.cells.length ≤ 1000000 ∧ f.stack.length ≤ 1000000) (hn : m.frames.length ≤ 1000) :
  Calls Tryd.prog 28 #[o.ptr] w (fun e w' => ∃ o2, e = .returned (MHo.ptr o2) ∧ MOn Rd w' o2 m ∧ (∀ k ∈ o2.own, w.heap.size ≤ k) ∧ Below w.heap.size w w') := by
 have hu24 := Tryd.underlying24
 obtain ⟨FA, FC, hfv, hf1, hf2, hfno, hfcell⟩ := gp H.fr
 obtain ⟨EA, EC, hev, he1, he2, heno, hecell⟩ := gp H.ev
 obtain ⟨CA, CC, hcv, _, _⟩ := H.cs
 obtain ⟨IA, IC, hiv, _, _⟩ := H.inp
 obtain ⟨FN, hFN⟩ : ∃ FN, FN = m.frames.length := ⟨_, rfl⟩
 obtain ⟨EN, hEN⟩ : ∃ EN, EN = m.events.length := ⟨_, rfl⟩
 obtain ⟨CN, hCN⟩ : ∃ CN, CN = m.codes.length := ⟨_, rfl⟩
 obtain ⟨IN, hIN⟩ : ∃ IN, IN = m.input.length := ⟨_, rfl⟩
 rw [← hFN] at hfv hfno
 rw [← hEN] at hev heno
 rw [← hCN] at hcv
 rw [← hIN] at hiv
 have hblk : w.heap[o.g]? = some (.cells #[.slice CA CN CC, .slice FA FN FC, .slice IA IN IC, .int .i64 (m.read : Int), .int .i64 m.fuel, .int .i64 m.ticks, .int .i64 m.tick.1, .int .i64 m.tick.2.1, .int .i64 m.tick.2.2.1, .int .i64 m.tick.2.2.2, .slice EA EN EC, .bool m.ended] 67 (0, 0)) := by have h := H.blk; unfold lV at h; rw [hcv, hfv, hiv, hev] at h; exact h
 have c0 : w.cell? ⟨o.g, 0, none⟩ = some (.slice CA CN CC) := ae hblk 0
 have c1 : w.cell? ⟨o.g, 1, none⟩ = some (.slice FA FN FC) := ae hblk 1
 have c2 : w.cell? ⟨o.g, 2, none⟩ = some (.slice IA IN IC) := ae hblk 2
 have c3 : w.cell? ⟨o.g, 3, none⟩ = some (.int .i64 (m.read : Int)) := ae hblk 3
 have c4 : w.cell? ⟨o.g, 4, none⟩ = some (.int .i64 m.fuel) := ae hblk 4
 have c5 : w.cell? ⟨o.g, 5, none⟩ = some (.int .i64 m.ticks) := ae hblk 5
 have c6 : w.cell? ⟨o.g, 6, none⟩ = some (.int .i64 m.tick.1) := ae hblk 6
 have c7 : w.cell? ⟨o.g, 7, none⟩ = some (.int .i64 m.tick.2.1) := ae hblk 7
 have c8 : w.cell? ⟨o.g, 8, none⟩ = some (.int .i64 m.tick.2.2.1) := ae hblk 8
 have c9 : w.cell? ⟨o.g, 9, none⟩ = some (.int .i64 m.tick.2.2.2) := ae hblk 9
 have c10 : w.cell? ⟨o.g, 10, none⟩ = some (.slice EA EN EC) := ae hblk 10
 have c11 : w.cell? ⟨o.g, 11, none⟩ = some (.bool m.ended) := ae hblk 11
 have hgl := bG hblk
 have HH := aa.mk H; have HFV := aa.mk hfv; have HEV := aa.mk hev; have HCV := aa.mk hcv; have HIV := aa.mk hiv; have HFN := aa.mk hFN; have HEN := aa.mk hEN; have HFNO := aa.mk hfno; have HENO := aa.mk heno; have HFCL := aa.mk hfcell; have HECL := aa.mk hecell; have HHE := aa.mk he; have HHC := aa.mk hc; have HHN := aa.mk hn; have HBLK := aa.mk hblk; have HGL := aa.mk hgl
 have d1 : (w.alloc (.cells #[.slice CA CN CC, .slice none 0 0, .slice IA IN IC, .int .i64 (m.read : Int), .int .i64 m.fuel, .int .i64 m.ticks, .int .i64 m.tick.1, .int .i64 m.tick.2.1, .int .i64 m.tick.2.2.1, .int .i64 m.tick.2.2.2, .slice EA EN EC, .bool m.ended] 67)).cell? ⟨o.g, 1, none⟩ = some (.slice FA FN FC) := ae (aX hblk _) 1
 have HB1 : aa ((w.alloc (.cells #[.slice CA CN CC, .slice none 0 0, .slice IA IN IC, .int .i64 (m.read : Int), .int .i64 m.fuel, .int .i64 m.ticks, .int .i64 m.tick.1, .int .i64 m.tick.2.1, .int .i64 m.tick.2.2.1, .int .i64 m.tick.2.2.2, .slice EA EN EC, .bool m.ended] 67)).heap[w.heap.size]? = some (.cells #[.slice CA CN CC, .slice none 0 0, .slice IA IN IC, .int .i64 (m.read : Int), .int .i64 m.fuel, .int .i64 m.ticks, .int .i64 m.tick.1, .int .i64 m.tick.2.1, .int .i64 m.tick.2.2.1, .int .i64 m.tick.2.2.2, .slice EA EN EC, .bool m.ended] 67 (0, 0))) := ⟨bV w _⟩
 clear H hfv hev hcv hiv hFN hEN hCN hIN hfno heno hfcell hecell he hc hn hblk hgl
 show Calls Tryd.prog 28 #[.pointer (some ⟨o.g, 0, none⟩)] w _
 go_enter Tryd.func28, Tryd.ntmps28
 go_wp2
 obtain ⟨gm, hgm⟩ : ∃ gm, gm = w.heap.size := ⟨_, rfl⟩
 rw [← hgm] at HB1 ⊢
 have HGM := aa.mk hgm
 clear hgm d1 c0 c1 c2 c3 c4 c5 c6 c7 c8 c9 c10 c11
 go_loopg [18] FN (fun gk v18 W => ∃ (x : Nat) (fvx : Value) (hsx : List Ho), v18 = .int .i64 (x : Int) ∧ aa (gk + x = FN) ∧ aa (kv w W gm fvx hsx (m.frames.take x)) ∧ aa (W.heap[gm]? = some (.cells #[.slice CA CN CC, fvx, .slice IA IN IC, .int .i64 (m.read : Int), .int .i64 m.fuel, .int .i64 m.ticks, .int .i64 m.tick.1, .int .i64 m.tick.2.1, .int .i64 m.tick.2.2.1, .int .i64 m.tick.2.2.2, .slice EA EN EC, .bool m.ended] 67 (0, 0))) ∧ aa (Below w.heap.size w W))
 case atStart =>
  refine ⟨0, .slice none 0 0, [], rfl, ⟨by omega⟩, ⟨⟨⟨rfl, .inl ⟨rfl, rfl⟩⟩, .nil, by simp [Value.ownBlock], fun k hk => ?_⟩⟩, HB1, ⟨bP (Below.refl _ _) _⟩⟩
  have : k = gm := by simpa [Value.ownBlock] using hk
  rw [this, HGM.out]; exact Zd _
 case round =>
  obtain ⟨x, fvx, hsx, rfl, A1, A2, A3, A4⟩ := hrel
  obtain ⟨XA, XC, hfvx, _, _, _, _⟩ := gp A2.out.fr
  have hgml : gm < wr.heap.size := bG A3.out
  have hog : o.g < w.heap.size := HGL.out
  by_cases hx : x < FN
  ·obtain ⟨gk1, hgk⟩ : ∃ g, gk = g + 1 := ⟨gk - 1, by have := A1.out; omega⟩
   subst hgk
   have g1 : decide ((x : Int) < (FN : Int)) = true := Za (by omega)
   have g2 : decide (x < FN) = true := Za hx
   have q0 : (0 : Int) ≤ (x : Int) := by omega
   have q1 : (x : Int) < (FN : Int) := by omega
   have HMr : MOn Rd wr o m := HH.out.below A4.out
   have hxl : x < m.frames.length := by rw [← HFN.out]; exact hx
   obtain ⟨f, hf⟩ : ∃ f, m.frames[x]? = some f := ⟨_, Zi hxl⟩
   obtain ⟨h, hh, hF⟩ := all2_at HMr.frs x f hf
   obtain ⟨A', C', hA', _, _, _, hc'⟩ := gp HMr.fr
   rw [HFV.out] at hA'
   obtain ⟨rfl, -, rfl⟩ := Value.slice.inj hA'
   rcases FA with _ | fa
   ·have := (HFNO.out rfl).1; omega
   have hpc : wr.cell? (fa.add x) = some h.ptr := hc' fa rfl x h.ptr (by rw [List.getElem?_map, hh]; rfl)
   obtain ⟨g, vc, vs⟩ := h
   obtain ⟨PA, PC, hvc, _, _, _, _⟩ := eQ hF.cs
   obtain ⟨QA, QC, hvs, _, _, _, _⟩ := eQ hF.st
   simp only at hvc hvs
   obtain ⟨PN, hPN⟩ : ∃ PN, PN = f.cells.length := ⟨_, rfl⟩
   obtain ⟨QN, hQN⟩ : ∃ QN, QN = f.stack.length := ⟨_, rfl⟩
   rw [← hPN] at hvc
   rw [← hQN] at hvs
   subst hvc; subst hvs
   have hpc' : wr.cell? (fa.add x) = some (.pointer (some ⟨g, 0, none⟩)) := hpc
   have hb0 := hF.blk
   simp only at hb0
   have r0 : wr.cell? ⟨g, 0, none⟩ = some (.int .i64 f.pr) := ae hb0 0
   have r1 : wr.cell? ⟨g, 1, none⟩ = some (.int .i64 f.at_) := ae hb0 1
   have r2 : wr.cell? ⟨g, 2, none⟩ = some (.int .i64 f.mark) := ae hb0 2
   have r3 : wr.cell? ⟨g, 3, none⟩ = some (.slice PA PN PC) := ae hb0 3
   have r4 : wr.cell? ⟨g, 4, none⟩ = some (.slice QA QN QC) := ae hb0 4
   obtain ⟨hcl, hsl⟩ := HHC.out f (List.mem_of_getElem? hf)
   have hggl := bG hb0
   obtain ⟨gf, hgf⟩ : ∃ gf, gf = wr.heap.size := ⟨_, rfl⟩
   obtain ⟨W1, hW1⟩ : ∃ W1, W1 = wr.alloc (.cells #[.int .i64 f.pr, .int .i64 f.at_, .int .i64 f.mark, .slice PA PN PC, .slice QA QN QC] 73) := ⟨_, rfl⟩
   have hsz1 : W1.heap.size = wr.heap.size + 1 := by rw [hW1]; simp
   have hbg : W1.drew.heap[g]? = some (.cells #[.int .i64 f.pr, .int .i64 f.at_, .int .i64 f.mark, .slice PA PN PC, .slice QA QN QC] 73 (0, 0)) := by rw [hW1]; exact aX hb0 _
   have HG1 : aa (W1.drew.heap[gf]? = some (.cells #[.int .i64 f.pr, .int .i64 f.at_, .int .i64 f.mark, .slice PA PN PC, .slice QA QN QC] 73 (0, 0))) := ⟨by rw [hW1, hgf]; exact bV wr _⟩
   have HGF1 : aa (gf < W1.drew.heap.size) := ⟨by show gf < W1.heap.size; omega⟩
   have hgg : g < W1.drew.heap.size := by show g < W1.heap.size; omega
   have sgo : ∀ {W : World}, Below W1.drew.heap.size W1.drew W → (W.cell? ⟨g, 3, none⟩ = some (.slice PA PN PC) ∧ W.cell? ⟨g, 4, none⟩ = some (.slice QA QN QC)) := fun hb => by
    have h := (hb.block g hgg).trans hbg
    exact ⟨ae h 3, ae h 4⟩
   have S0 := sgo (Below.refl _ W1.drew)
   have S0' : W1.cell? ⟨g, 3, none⟩ = some (.slice PA PN PC) ∧ W1.cell? ⟨g, 4, none⟩ = some (.slice QA QN QC) := S0
   have HC0 : aa (W1.drew.ownsRow 0 2 1 (.slice PA PN PC) f.cells.length (ints f.cells)) := ⟨by rw [hW1]; exact (hF.cs.alloc _).drew⟩
   have HS0 : aa (W1.drew.ownsRow 0 2 1 (.slice QA QN QC) f.stack.length (ints f.stack)) := ⟨by rw [hW1]; exact (hF.st.alloc _).drew⟩
   have HL1 := aa.mk hcl; have HL2 := aa.mk hsl; have HGF := aa.mk hgf; have HW1 := aa.mk hW1; have HHF := aa.mk hf; have HHX := aa.mk hfvx; have HGGL := aa.mk hggl; have HSZ1 := aa.mk hsz1; have HHB0 := aa.mk hb0; have HGML := aa.mk hgml
   clear hA' hc' hpc hPN hQN hb0 hcl hsl HMr hxl hF hh hfvx hf hsz1 hgg hggl hgml hog hbg
   go_wp2
   rw [← hgf, ← hW1]
   clear hgf hW1
   go_region_held3 (fun W => W.cell? ⟨g, 3, none⟩ = some (.slice PA PN PC) ∧ W.cell? ⟨g, 4, none⟩ = some (.slice QA QN QC)) (first | exact S0 | exact S0' | assumption | go_keep) (first | (refine gD (by rfl) (.tmp 28) rfl (.slice PA PN PC) f.cells rfl HC0.out HL1.out ?_; intro vC wA hown hb hv; obtain ⟨vCA, vCc, hvC, _, _, _, _⟩ := eQ hown; subst hvC; have HBA := aa.mk hb; have sA := sgo hb; have HCA := aa.mk hown; have HVCn := aa.mk hv; have HS1 : aa (wA.ownsRow 0 2 1 (.slice QA QN QC) f.stack.length (ints f.stack)) := ⟨bQ HS0.out (fun k e => hb.block k (HS0.out.lt k e).2)⟩; clear hown hb hv) | (refine gD (by rfl) (.tmp 33) rfl (.slice QA QN QC) f.stack rfl HS0.out HL2.out ?_; intro vS wA hown hb hv; obtain ⟨vSA, vSc, hvS, _, _, _, _⟩ := eQ hown; subst hvS; have HBA := aa.mk hb; have sA := sgo hb; have HSA := aa.mk hown; have HVSn := aa.mk hv; have HC1 : aa (wA.ownsRow 0 2 1 (.slice PA PN PC) f.cells.length (ints f.cells)) := ⟨bQ HC0.out (fun k e => hb.block k (HC0.out.lt k e).2)⟩; clear hown hb hv) | (refine gD (by rfl) (.tmp 33) rfl (.slice QA QN QC) f.stack rfl HS1.out HL2.out ?_; intro vS wB hown hb hv; obtain ⟨vSA, vSc, hvS, _, _, _, _⟩ := eQ hown; subst hvS; have HBB : aa (Below W1.drew.heap.size W1.drew wB) := ⟨HBA.out.trans (hb.mono HBA.out.size)⟩; have sB := sgo HBB.out; have kg := (HBB.out.block gf HGF1.out).trans HG1.out; have k3 : wB.cell? ⟨gf, 3, none⟩ = some (.slice PA PN PC) := ae kg 3; have k4 : wB.cell? ⟨gf, 4, none⟩ = some (.slice QA QN QC) := ae kg 4; have f3 := ai kg 3; have f4 := ai kg 4; have t1 : ((wB.setCell ⟨gf, 3, none⟩ (.slice vCA f.cells.length vCc)).cell? ⟨g, 3, none⟩ = some (.slice PA PN PC) ∧ (wB.setCell ⟨gf, 3, none⟩ (.slice vCA f.cells.length vCc)).cell? ⟨g, 4, none⟩ = some (.slice QA QN QC)) := (by have e := Below.heap_setCell wB ⟨gf, 3, none⟩ (.slice vCA f.cells.length vCc) g (by have := HGGL.out; have := HGF.out; show g ≠ gf; omega); exact ⟨(World.cell?_of_block (a := ⟨g, 3, none⟩) e).trans sB.1, (World.cell?_of_block (a := ⟨g, 4, none⟩) e).trans sB.2⟩); have t2 : (((wB.setCell ⟨gf, 3, none⟩ (.slice vCA f.cells.length vCc)).setCell ⟨gf, 4, none⟩ (.slice vSA f.stack.length vSc)).cell? ⟨g, 3, none⟩ = some (.slice PA PN PC) ∧ ((wB.setCell ⟨gf, 3, none⟩ (.slice vCA f.cells.length vCc)).setCell ⟨gf, 4, none⟩ (.slice vSA f.stack.length vSc)).cell? ⟨g, 4, none⟩ = some (.slice QA QN QC)) := (by have e := Below.heap_setCell (wB.setCell ⟨gf, 3, none⟩ (.slice vCA f.cells.length vCc)) ⟨gf, 4, none⟩ (.slice vSA f.stack.length vSc) g (by have := HGGL.out; have := HGF.out; show g ≠ gf; omega); exact ⟨(World.cell?_of_block (a := ⟨g, 3, none⟩) e).trans t1.1, (World.cell?_of_block (a := ⟨g, 4, none⟩) e).trans t1.2⟩); have HC9 : aa (wB.ownsRow 0 2 1 (.slice vCA f.cells.length vCc) f.cells.length (ints f.cells)) := ⟨bQ HCA.out (fun k e => hb.block k (HCA.out.lt k e).2)⟩; have HS9 := aa.mk hown; have HNC : aa (∀ k, (Value.slice vCA f.cells.length vCc).ownBlock = some k → W1.heap.size ≤ k) := ⟨HVCn.out⟩; have HNS : aa (∀ k, (Value.slice vSA f.stack.length vSc).ownBlock = some k → W1.heap.size ≤ k ∧ (Value.slice vCA f.cells.length vCc).ownBlock ≠ some k) := ⟨(fun k e => ⟨Ze HBA.out.size (hv k e), fun e' => (by have h1 := hv k e; have h2 := (HCA.out.lt k e').2; omega)⟩)⟩; clear hown hb hv) | (refine gD (by rfl) (.tmp 28) rfl (.slice PA PN PC) f.cells rfl HC1.out HL1.out ?_; intro vC wB hown hb hv; obtain ⟨vCA, vCc, hvC, _, _, _, _⟩ := eQ hown; subst hvC; have HBB : aa (Below W1.drew.heap.size W1.drew wB) := ⟨HBA.out.trans (hb.mono HBA.out.size)⟩; have sB := sgo HBB.out; have kg := (HBB.out.block gf HGF1.out).trans HG1.out; have k3 : wB.cell? ⟨gf, 3, none⟩ = some (.slice PA PN PC) := ae kg 3; have k4 : wB.cell? ⟨gf, 4, none⟩ = some (.slice QA QN QC) := ae kg 4; have f3 := ai kg 3; have f4 := ai kg 4; have t1 : ((wB.setCell ⟨gf, 3, none⟩ (.slice vCA f.cells.length vCc)).cell? ⟨g, 3, none⟩ = some (.slice PA PN PC) ∧ (wB.setCell ⟨gf, 3, none⟩ (.slice vCA f.cells.length vCc)).cell? ⟨g, 4, none⟩ = some (.slice QA QN QC)) := (by have e := Below.heap_setCell wB ⟨gf, 3, none⟩ (.slice vCA f.cells.length vCc) g (by have := HGGL.out; have := HGF.out; show g ≠ gf; omega); exact ⟨(World.cell?_of_block (a := ⟨g, 3, none⟩) e).trans sB.1, (World.cell?_of_block (a := ⟨g, 4, none⟩) e).trans sB.2⟩); have t2 : (((wB.setCell ⟨gf, 3, none⟩ (.slice vCA f.cells.length vCc)).setCell ⟨gf, 4, none⟩ (.slice vSA f.stack.length vSc)).cell? ⟨g, 3, none⟩ = some (.slice PA PN PC) ∧ ((wB.setCell ⟨gf, 3, none⟩ (.slice vCA f.cells.length vCc)).setCell ⟨gf, 4, none⟩ (.slice vSA f.stack.length vSc)).cell? ⟨g, 4, none⟩ = some (.slice QA QN QC)) := (by have e := Below.heap_setCell (wB.setCell ⟨gf, 3, none⟩ (.slice vCA f.cells.length vCc)) ⟨gf, 4, none⟩ (.slice vSA f.stack.length vSc) g (by have := HGGL.out; have := HGF.out; show g ≠ gf; omega); exact ⟨(World.cell?_of_block (a := ⟨g, 3, none⟩) e).trans t1.1, (World.cell?_of_block (a := ⟨g, 4, none⟩) e).trans t1.2⟩); have HS9 : aa (wB.ownsRow 0 2 1 (.slice vSA f.stack.length vSc) f.stack.length (ints f.stack)) := ⟨bQ HSA.out (fun k e => hb.block k (HSA.out.lt k e).2)⟩; have HC9 := aa.mk hown; have HNC : aa (∀ k, (Value.slice vCA f.cells.length vCc).ownBlock = some k → W1.heap.size ≤ k) := ⟨(fun k e => Ze HBA.out.size (hv k e))⟩; have HNS : aa (∀ k, (Value.slice vSA f.stack.length vSc).ownBlock = some k → W1.heap.size ≤ k ∧ (Value.slice vCA f.cells.length vCc).ownBlock ≠ some k) := ⟨(fun k e => ⟨HVSn.out k e, fun e' => (by have h1 := hv k e'; have h2 := (HSA.out.lt k e).2; omega)⟩)⟩; clear hown hb hv))
   have HX1 : aa (Mod (fun _ => False) wr ((wB.setCell ⟨gf, 3, none⟩ (.slice vCA f.cells.length vCc)).setCell ⟨gf, 4, none⟩ (.slice vSA f.stack.length vSc))) := ⟨by
    have h1 : Mod (fun _ => False) wr W1.drew := by rw [HW1.out]; exact ((Mod.refl _ wr).alloc _).drew
    have h2 := h1.trans (Mod.of_below HBB.out (fun _ => False)) (fun _ _ h => h)
    exact (h2.setCell (p := ⟨gf, 3, none⟩) (fun hk => by have := HGF.out; simp only at hk; omega) _).setCell (p := ⟨gf, 4, none⟩) (fun hk => by have := HGF.out; simp only at hk; omega) _⟩
   have hgW : gf < W1.heap.size := HGF1.out
   have HF1 : aa (di ((wB.setCell ⟨gf, 3, none⟩ (.slice vCA f.cells.length vCc)).setCell ⟨gf, 4, none⟩ (.slice vSA f.stack.length vSc)) ⟨gf, .slice vCA f.cells.length vCc, .slice vSA f.stack.length vSc⟩ f) := ⟨frOn_made kg HC9.out HS9.out (fun e => by have := HNC.out gf e; omega) (fun e => by have := (HNS.out gf e).1; omega) (fun k e => (HNS.out k e).2)⟩
   have HN1 : aa (∀ k ∈ Ho.blocks ⟨gf, .slice vCA f.cells.length vCc, .slice vSA f.stack.length vSc⟩, wr.heap.size ≤ k) := ⟨fun k hk => by
    simp only [Ho.blocks, List.mem_cons, Zn, Option.mem_toList] at hk
    have h1 := HSZ1.out
    have h2 := HGF.out
    rcases hk with rfl | e | e
    ·omega
    ·have := HNC.out k e; omega
    ·have := (HNS.out k e).1; omega⟩
   clear hgW k3 k4 f3 f4 sA sB S0 S0' r0 r1 r2 r3 r4 hpc' sgo t1 t2 HC9 HS9 HNC HNS HBA HBB HCA HVCn HS1 HG1 HC0 HS0 kg
   obtain ⟨wE, hwE⟩ : ∃ wE, wE = ((wB.setCell ⟨gf, 3, none⟩ (.slice vCA f.cells.length vCc)).setCell ⟨gf, 4, none⟩ (.slice vSA f.stack.length vSc)) := ⟨_, rfl⟩
   rw [← hwE] at HX1 HF1 ⊢
   clear hwE
   have HT : aa ((m.frames.take x).length = x) := ⟨by have h1 := (List.getElem?_eq_some_iff.1 HHF.out).1; simp; omega⟩
   have e1 : wE.cell? ⟨gm, 1, none⟩ = some (.slice XA x XC) := by
    have h := ae ((HX1.out.block gm HGML.out (fun h => h)).trans A3.out) 1
    have h3 := HHX.out
    rw [HT.out] at h3
    rw [← h3]; exact h
   have HOX : aa (wE.ownsRow 0 69 1 (.slice XA x XC) x (hsx.map Ho.ptr)) := ⟨by
    have h := A2.out.fr
    have h3 := HHX.out
    rw [HT.out] at h3 h
    rw [h3] at h
    exact bQ h (fun k e => HX1.out.block k (h.lt k e).2 (fun h => h))⟩
   have HX2 : aa (fvx = .slice XA x XC) := ⟨by have h3 := HHX.out; rw [HT.out] at h3; exact h3⟩
   clear HHX
   go_wp2_with (at_builtin; refine dS 0 rfl (.tmp 38) (.tmp 39) 65 69 (.pointer none) 1 8 rfl Tryd.underlying65 nP rfl (by decide) (by decide) (.slice XA x XC) x (hsx.map Ho.ptr) [.pointer (some ⟨gf, 0, none⟩)] rfl rfl rfl ?c2 HOX.out (Below.refl 0 _) (Nat.zero_le _) (by have := HHN.out; have := HFN.out; omega) ?grow)
   case c2 => intro u hu; simp at hu; subst hu; rfl
   case grow =>
    intro v1 w1 hown _ hgrow hat
    obtain ⟨g1, cap1, rfl⟩ : ∃ g1 cap1, v1 = .slice (some ⟨g1, 0, none⟩) (x + 1) cap1 := by
     rcases hown.2 with ⟨_, h⟩ | ⟨g1, cap1, _, h, _⟩
     ·omega
     ·exact ⟨g1, cap1, h⟩
    have HO := aa.mk hown; have HG := aa.mk hgrow; have HAT := aa.mk hat
    have HNG : aa ((Value.slice XA x XC).ownBlock ≠ some gm) := ⟨fun e => by
     have nd := A2.out.nd
     rw [HX2.out] at nd
     simp [e] at nd⟩
    have hb := cZ ((HX1.out.block gm HGML.out (fun h => h)).trans A3.out) hgrow (Ne.symm HNG.out)
    have y2 : w1.frozen? ⟨gm, 1, none⟩ = false := ai hb 1
    have y1 : w1.cell? ⟨gm, 1, none⟩ = some (.slice XA x XC) := by rw [ae hb, ← HX2.out]; rfl
    have HB9 := aa.mk hb
    clear hown hgrow hat hb
    go_wp2
    go_roundg gk1
    case measure => omega
    case rel =>
     have hb1 := HHN.out; have hb2 := HFN.out
     have hm2 : Mod (fun k => k = gm ∨ fvx.ownBlock = some k) wE (w1.setCell ⟨gm, 1, none⟩ (.slice (some ⟨g1, 0, none⟩) (x + 1) cap1)) := ((Mod.refl _ wE).grown HG.out (fun k e _ => .inr (by rw [HX2.out]; exact e))).setCell (p := ⟨gm, 1, none⟩) (fun _ => .inl rfl) _
     have hnew := A2.out.new
     have hA := kv.add A2.out HGML.out A4.out.size HX1.out HF1.out HN1.out (by rw [HX2.out]; exact HG.out) (by rw [HT.out]; exact HO.out) (by rw [HX2.out]; exact HAT.out)
     rw [show m.frames.take x ++ [f] = m.frames.take (x + 1) by rw [List.take_add_one, HHF.out]; rfl] at hA
     have hxk : gk1 + (x + 1) = FN := by have := A1.out; omega
     refine ⟨x + 1, _, _, congrArg (Value.int .i64) (cp_succ x (by omega)), ⟨hxk⟩, ⟨hA⟩, ⟨dK HB9.out 1 _⟩, ⟨A4.out.trans (Mod.below (a := w) ((HX1.out.mono (fun _ _ h => h.elim)).trans hm2 (fun _ _ h => h)) A4.out.size (fun k hk => ?_))⟩⟩
     rcases hk with rfl | hk
     ·exact hnew _ (by simp)
     ·exact hnew k (by simp [hk])
  ·have g1 : decide ((x : Int) < (FN : Int)) = false := Zb (by omega)
   have g2 : decide (x < FN) = false := Zb hx
   have hxe : x = FN := by have := A1.out; omega
   subst hxe
   have e10 : wr.cell? ⟨o.g, 10, none⟩ = some (.slice EA EN EC) := ae ((A4.out.block o.g HGL.out).trans HBLK.out) 10
   have HMr : aa (MOn Rd wr o m) := ⟨HH.out.below A4.out⟩
   have HX2 := aa.mk hfvx; have HGML := aa.mk hgml
   have HE := aa.mk (show (evs m.events).length = EN * 2 by rw [nZ, HEN.out])
   have HEC : aa (∀ ad, EA = some ad → ∀ j u, (evs m.events)[j]? = some u → wr.cell? (ad.add j) = some u) := ⟨fun ad e j u hj => by
    obtain ⟨A', C', hA', _, _, _, hc'⟩ := gp HMr.out.ev
    rw [HEV.out] at hA'
    obtain ⟨rfl, -, rfl⟩ := Value.slice.inj hA'
    exact hc' ad e j u hj⟩
   clear hfvx hgml hog
   go_wp2_with (at_builtin; refine fV rfl (.const (.slice none 0 0)) (.tmp 46) 35 rfl 38 (.agg #[.int .i64 0, .int .i64 0]) 2 16 Tryd.underlying35 kY rfl (by decide) rfl EA EN EC rfl (evs m.events) HE.out HENO.out HEC.out (rO _) (by have := HHE.out; have := HEN.out; omega) (by have := HHE.out; have := HEN.out; omega) ?fresh)
   case fresh =>
    intro v1 w1 hown hg hv1
    obtain ⟨VA, Vc, hv, _, _, _, _⟩ := gp hown
    subst hv
    have hb := (hg.block gm HGML.out (by simp)).trans A3.out
    have y1 : w1.cell? ⟨gm, 10, none⟩ = some (.slice EA EN EC) := ae hb 10
    have y2 : w1.frozen? ⟨gm, 10, none⟩ = false := ai hb 10
    have HF : aa (MOn Rd (w1.setCell ⟨gm, 10, none⟩ (.slice VA EN Vc)) ⟨gm, o.cv, fvx, o.iv, .slice VA EN Vc, hsx⟩ m ∧ (∀ k ∈ MHo.own ⟨gm, o.cv, fvx, o.iv, .slice VA EN Vc, hsx⟩, w.heap.size ≤ k) ∧ Below w.heap.size w (w1.setCell ⟨gm, 10, none⟩ (.slice VA EN Vc))) := ⟨by
     have hC := A2.out
     have h1 : m.frames.take x = m.frames := by rw [HFN.out, List.take_length]
     rw [h1] at hC
     refine copy_fin HH.out hC ?_ A4.out hg (by rw [← HEN.out]; exact hown) hv1
     have h2 := A3.out
     rw [← HCV.out, ← HIV.out, ← HEV.out] at h2
     exact h2⟩
    clear hown hg hv1 hb
    go_wp2
    go_ret
    exact ⟨_, rfl, HF.out⟩
end
def Tri (g : Nat) (m : Mc) (gc : Nat) (c : Mc) (gr : Nat) (mr : Mc) (B : Nat) (w0 w : World) : Prop :=
 ∃ Rd o Rc oc Rr ro, (o.g = g ∧ oc.g = gc ∧ ro.g = gr) ∧ (MOn Rd w o m ∧ MOn Rc w oc c ∧ ROn Rr w ro mr) ∧ ((∀ k ∈ o.own, B ≤ k) ∧ (∀ k ∈ oc.own, B ≤ k) ∧ (∀ k ∈ ro.own, B ≤ k)) ∧
  (∀ k ∈ o.own, (k ∉ oc.own ∧ ¬ Rc k) ∧ (k ∉ ro.own ∧ ¬ Rr k)) ∧ (∀ k ∈ oc.own, ¬ Rd k ∧ (k ∉ ro.own ∧ ¬ Rr k)) ∧ (∀ k ∈ ro.own, ¬ Rd k ∧ ¬ Rc k) ∧ Below B w0 w
section
variable {g gc gr : Nat} {m c mr : Mc} {B : Nat} {w0 w w' : World}
theorem Tri.low (T : Tri g m gc c gr mr B w0 w) : Below B w0 w := by
 obtain ⟨_, _, _, _, _, _, _, _, _, _, _, _, h⟩ := T; exact h
theorem Tri.swap (T : Tri g m gc c gr mr B w0 w) : Tri gc c g m gr mr B w0 w := by
 obtain ⟨Rd, o, Rc, oc, Rr, ro, ⟨a1, a2, a3⟩, ⟨b1, b2, b3⟩, ⟨c1, c2, c3⟩, d1, d2, d3, h⟩ := T
 exact ⟨Rc, oc, Rd, o, Rr, ro, ⟨a2, a1, a3⟩, ⟨b2, b1, b3⟩, ⟨c2, c1, c3⟩, fun k hk => ⟨⟨fun h => (d1 k h).1.1 hk, (d2 k hk).1⟩, (d2 k hk).2⟩, fun k hk => ⟨(d1 k hk).1.2, (d1 k hk).2⟩, fun k hk => ⟨(d3 k hk).2, (d3 k hk).1⟩, h⟩
theorem Tri.pair (T : Tri g m gc c gr mr B w0 w) : iF g m gr mr B w0 w := by
 obtain ⟨Rd, o, Rc, oc, Rr, ro, ⟨a1, a2, a3⟩, ⟨b1, b2, b3⟩, ⟨c1, c2, c3⟩, d1, d2, d3, h⟩ := T
 exact ⟨Rd, o, Rr, ro, a1, a3, b1, b3, c1, c3, fun k hk => (d1 k hk).2, fun k hk => (d3 k hk).1, h⟩
theorem Tri.on (T : Tri g m gc c gr mr B w0 w) (hB : B ≤ w0.heap.size) (hb : Below w.heap.size w w') : Tri g m gc c gr mr B w0 w' := by
 obtain ⟨Rd, o, Rc, oc, Rr, ro, a, ⟨b1, b2, b3⟩, c, d1, d2, d3, h⟩ := T
 exact ⟨Rd, o, Rc, oc, Rr, ro, a, ⟨b1.below hb, b2.below hb, b3.below hb⟩, c, d1, d2, d3, h.trans (hb.mono (Ze hB h.size))⟩
theorem Tri.moved {Rd Rc Rr : Nat → Prop} {o oc o' : MHo} {ro : RMo} {m' : Mc} (hB : B ≤ w0.heap.size) (hs : Sub w o o') (hM : MOn Rd w' o' m') (hm : Mod (fun k => k ∈ o.own) w w')
  (a : o.g = g ∧ oc.g = gc ∧ ro.g = gr) (b : MOn Rd w o m ∧ MOn Rc w oc c ∧ ROn Rr w ro mr) (cc : (∀ k ∈ o.own, B ≤ k) ∧ (∀ k ∈ oc.own, B ≤ k) ∧ (∀ k ∈ ro.own, B ≤ k))
  (d1 : ∀ k ∈ o.own, (k ∉ oc.own ∧ ¬ Rc k) ∧ (k ∉ ro.own ∧ ¬ Rr k)) (d2 : ∀ k ∈ oc.own, ¬ Rd k ∧ (k ∉ ro.own ∧ ¬ Rr k)) (d3 : ∀ k ∈ ro.own, ¬ Rd k ∧ ¬ Rc k) (h : Below B w0 w) : Tri g m' gc c gr mr B w0 w' := by
 obtain ⟨a1, a2, a3⟩ := a
 obtain ⟨b1, b2, b3⟩ := b
 obtain ⟨c1, c2, c3⟩ := cc
 have hsz := h.size
 refine ⟨Rd, o', Rc, oc, Rr, ro, ⟨hs.1.trans a1, a2, a3⟩, ⟨hM, b2.mod hm (fun k hk hko => hk.elim (fun h => (d1 k hko).1.1 h) (fun h => (d1 k hko).1.2 h)), b3.mod hm (fun k hk hko => hk.elim (fun h => (d1 k hko).2.1 h) (fun h => (d1 k hko).2.2 h))⟩,
  ⟨fun k hk => (hs.2 k hk).elim (c1 k) (fun h => by omega), c2, c3⟩, fun k hk => ?_, d2, d3, h.trans (Mod.below (a := w) hm (by omega) c1)⟩
 rcases hs.2 k hk with h | h
 ·exact d1 k h
 ·exact ⟨⟨fun h' => by have := b2.lt k h'; omega, fun h' => by have := b2.low k h'; omega⟩, fun h' => by have := b3.lt k h'; omega, fun h' => by have := b3.low k h'; omega⟩
theorem Tri.step (T : Tri g m gc c gr mr B w0 w) (F : Fit m) (hB : B ≤ w0.heap.size) : Calls Tryd.prog 21 #[.pointer (some ⟨g, 0, none⟩)] w (fun e w' => e = .returned (.bool m.step.2) ∧ Tri g m.step.1 gc c gr mr B w0 w') := by
 obtain ⟨Rd, o, Rc, oc, Rr, ro, a, b, cc, d1, d2, d3, h⟩ := T
 have h1 := lg b.1 F
 rw [MHo.ptr, a.1] at h1
 refine h1.mono ?_
 rintro e w' ⟨rfl, o', hs, hM, hm⟩
 exact ⟨rfl, Tri.moved hB hs hM hm a b cc d1 d2 d3 h⟩
theorem Tri.end_ (T : Tri g m gc c gr mr B w0 w) (F : Fit m) (hB : B ≤ w0.heap.size) (most : Nat) (hmo : most ≤ 1000000) : Calls Tryd.prog 15 #[.pointer (some ⟨g, 0, none⟩), .int .i64 most] w (fun e w' => e = .returned (.bool (m.endP (most + 1)).2) ∧ Tri g (m.endP (most + 1)).1 gc c gr mr B w0 w') := by
 obtain ⟨Rd, o, Rc, oc, Rr, ro, a, b, cc, d1, d2, d3, h⟩ := T
 have h1 := rV b.1 F most hmo
 rw [MHo.ptr, a.1] at h1
 refine h1.mono ?_
 rintro e w' ⟨rfl, o', hs, hM, hm⟩
 exact ⟨rfl, Tri.moved hB hs hM hm a b cc d1 d2 d3 h⟩
theorem Tri.rstep (T : Tri g m gc c gr mr B w0 w) (F : Fit mr) (R : Rng mr) (he : mr.ended = false) (hB : B ≤ w0.heap.size) :
  Calls Tryd.prog 24 #[.pointer (some ⟨gr, 0, none⟩), .int .i64 1048576] w (fun e w' => e = .returned (.bool mr.step.2) ∧ ∃ mr', Sim mr' mr.step.1 ∧ Tri g m gc c gr mr' B w0 w') := by
 obtain ⟨Rd, o, Rc, oc, Rr, ro, ⟨a1, a2, a3⟩, ⟨b1, b2, b3⟩, ⟨c1, c2, c3⟩, d1, d2, d3, h⟩ := T
 have h1 := qw b3 F R he
 rw [RMo.ptr, a3] at h1
 refine h1.mono ?_
 rintro e w' ⟨rfl, mr', hsim, ro', hs, hR, hm⟩
 have hsz := h.size
 refine ⟨rfl, mr', hsim, Rd, o, Rc, oc, Rr, ro', ⟨a1, a2, hs.1.trans a3⟩, ⟨b1.mod hm (fun k hk hko => hk.elim (fun h => (d1 k h).2.1 hko) (fun h => (d3 k hko).1 h)), b2.mod hm (fun k hk hko => hk.elim (fun h => (d2 k h).2.1 hko) (fun h => (d3 k hko).2 h)), hR⟩, ⟨c1, c2, fun k hk => (hs.2 k hk).elim (c3 k) (fun h => by omega)⟩,
  fun k hk => ⟨(d1 k hk).1, fun h' => ?_, (d1 k hk).2.2⟩, fun k hk => ⟨(d2 k hk).1, fun h' => ?_, (d2 k hk).2.2⟩, fun k hk => ⟨fun h' => ?_, fun h' => ?_⟩, h.trans (Mod.below (a := w) hm (by omega) c3)⟩
 ·rcases hs.2 k h' with h | h
  ·exact (d1 k hk).2.1 h
  ·have := b1.lt k hk; omega
 ·rcases hs.2 k h' with h | h
  ·exact (d2 k hk).2.1 h
  ·have := b2.lt k hk; omega
 ·rcases hs.2 k hk with h | h
  ·exact (d3 k h).1 h'
  ·have := b1.low k h'; omega
 ·rcases hs.2 k hk with h | h
  ·exact (d3 k h).2 h'
  ·have := b2.low k h'; omega
theorem Tri.same (T : Tri g m gc c gr mr B w0 w) (A : Alike mr m) (S : Small m) (hB : B ≤ w0.heap.size) :
  Calls Tryd.prog 23 #[.pointer (some ⟨g, 0, none⟩), .pointer (some ⟨gr, 0, none⟩)] w (fun e w' => e = .returned (.bool true) ∧ Tri g m gc c gr mr B w0 w') := by
 have T0 := T
 obtain ⟨Rd, o, Rc, oc, Rr, ro, ⟨rfl, rfl, rfl⟩, ⟨b1, b2, b3⟩, cc, d1, d2, d3, h⟩ := T
 refine (oC b1 b3 A S.evs S.cells S.frames).mono ?_
 rintro e w' ⟨rfl, hb⟩
 exact ⟨rfl, T0.on hB hb⟩
theorem Tri.ended (T : Tri g m gc c gr mr B w0 w) : w.cell? ⟨gr, 11, none⟩ = some (.bool mr.ended) := T.pair.ended
theorem iF.copy (P : iF g m gr mr B w0 w) (S : Small m) (hst : ∀ f ∈ m.frames, f.stack.length ≤ 1000000) (hB : B ≤ w0.heap.size) :
  Calls Tryd.prog 28 #[.pointer (some ⟨g, 0, none⟩)] w (fun e w' => ∃ gc, e = .returned (.pointer (some ⟨gc, 0, none⟩)) ∧ Tri g m gc m gr mr B w0 w') := by
 obtain ⟨Rd, o, Rr, ro, rfl, rfl, H, HR, h3, h4, h5, h6, h7⟩ := P
 refine (copy_on H S.evs (fun f hf => ⟨S.cells f hf, hst f hf⟩) S.frames).mono ?_
 rintro e w' ⟨oc, rfl, HC, hn, hb⟩
 have hsz := h7.size
 refine ⟨oc.g, rfl, Rd, o, Rd, oc, Rr, ro, ⟨rfl, rfl, rfl⟩, ⟨H.below hb, HC, HR.below hb⟩, ⟨h3, fun k hk => Ze (Ze hB hsz) (hn k hk), h4⟩, fun k hk => ⟨⟨fun h => ?_, fun h => H.rd k hk h⟩, h5 k hk⟩, fun k hk => ⟨fun h => ?_, fun h => ?_, fun h => ?_⟩, fun k hk => ⟨h6 k hk, h6 k hk⟩, h7.trans (hb.mono (Ze hB hsz))⟩
 ·have := H.lt k hk; have := hn k h; omega
 ·have := H.low k h; have := hn k hk; omega
 ·have := HR.lt k h; have := hn k hk; omega
 ·have := HR.low k h; have := hn k hk; omega
end
section
variable {g g1 g2 : Nat} {m m1 m2 : Mc} {B : Nat} {w0 w w' : World}
theorem Solo.ticks (S : Solo g m B w0 w) : Calls Tryd.prog 18 #[.pointer (some ⟨g, 0, none⟩)] w fun e w' => e = .returned (.int .i64 m.ticks) ∧ Below w.heap.size w w' := by
 obtain ⟨Rd, o, hg, hM, _⟩ := S
 have h := qx hM; rw [MHo.ptr, hg] at h; exact h
theorem Solo.ended (S : Solo g m B w0 w) : Calls Tryd.prog 30 #[.pointer (some ⟨g, 0, none⟩)] w fun e w' => e = .returned (.bool m.ended) ∧ Below w.heap.size w w' := by
 obtain ⟨Rd, o, hg, hM, _⟩ := S
 have h := o5 hM; rw [MHo.ptr, hg] at h; exact h
theorem Solo.frames (S : Solo g m B w0 w) : Calls Tryd.prog 20 #[.pointer (some ⟨g, 0, none⟩)] w fun e w' => e = .returned (.int .i64 (m.frames.length : Nat)) ∧ Below w.heap.size w w' := by
 obtain ⟨Rd, o, hg, hM, _⟩ := S
 have h := oF hM; rw [MHo.ptr, hg] at h; exact h
theorem Solo.count (S : Solo g m B w0 w) : Calls Tryd.prog 22 #[.pointer (some ⟨g, 0, none⟩)] w fun e w' => e = .returned (.int .i64 (m.events.length : Nat)) ∧ Below w.heap.size w w' := by
 obtain ⟨Rd, o, hg, hM, _⟩ := S
 have h := qy hM; rw [MHo.ptr, hg] at h; exact h
theorem Solo.events (S : Solo g m B w0 w) (hl : m.events.length ≤ 4398046511104) : Calls Tryd.prog 16 #[.pointer (some ⟨g, 0, none⟩)] w fun e w' => ∃ v1, e = .returned v1 ∧ w'.ownsRow 0 38 2 v1 m.events.length (evs m.events) ∧ Below w.heap.size w w' := by
 obtain ⟨Rd, o, hg, hM, _⟩ := S
 have h := oU hM hl; rw [MHo.ptr, hg] at h
 exact h.mono (fun e w' ⟨v1, a, b, _, c⟩ => ⟨v1, a, b, c⟩)
end
theorem ol {w : World} {v : Value} {a b c d : Int} (h : w.ownsRow 0 38 2 v 2 (evs [(a, b), (c, d)])) : ∃ k cap, v = .slice (some ⟨k, 0, none⟩) 2 cap ∧ k < w.heap.size ∧ w.cell? ⟨k, 0, none⟩ = some (.int .i64 a) ∧ w.cell? ⟨k, 1, none⟩ = some (.int .i64 b) ∧ w.cell? ⟨k, 2, none⟩ = some (.int .i64 c) ∧ w.cell? ⟨k, 3, none⟩ = some (.int .i64 d) := by
 rcases h.2 with ⟨_, h0⟩ | ⟨k, cap, cur, rfl, _, hh, _⟩
 ·cases h0
 ·refine ⟨k, cap, rfl, bG hh, ?_, ?_, ?_, ?_⟩
  ·simpa [Addr.add] using h.cells (g := k) rfl 0 (.int .i64 a) rfl
  ·simpa [Addr.add] using h.cells (g := k) rfl 1 (.int .i64 b) rfl
  ·simpa [Addr.add] using h.cells (g := k) rfl 2 (.int .i64 c) rfl
  ·simpa [Addr.add] using h.cells (g := k) rfl 3 (.int .i64 d) rfl
theorem rJ (fuel : Int) (h0 : 0 ≤ fuel) (h1 : fuel ≤ 1048576) : Fit (km fuel) := rM (nQ (by
 intro x hx y hy
 have : x = ⟨pU, 0, 0, false⟩ := by simpa [pX] using hx
 subst this
 have : ∀ y ∈ pU, (Lit.int .i64 y.f0).wf = true ∧ ((Lit.int .i64 y.f1).wf = true ∧ (Lit.int .i64 y.f2).wf = true) := by decide
 exact this y hy) rD) (by simp) h0 h1
theorem uG : jR pX := by
 intro x hx y hy
 have : x = ⟨pU, 0, 0, false⟩ := by simpa [pX] using hx
 subst this
 have : ∀ y ∈ pU, (Lit.int .i64 y.f0).wf = true ∧ ((Lit.int .i64 y.f1).wf = true ∧ (Lit.int .i64 y.f2).wf = true) := by decide
 exact this y hy
theorem oN (w : World) (hLd : Laid w) : Calls Tryd.prog 11 #[] w fun e w' => e = .returned (.bool true) ∧ Below w.heap.size w w' := by
 obtain ⟨W, hW⟩ : ∃ W, W = (w.alloc (.cells #[.int .i64 24, .int .i64 0, .int .i64 1, .int .i64 1, .int .i64 5, .int .i64 0, .int .i64 21, .int .i64 0, .int .i64 0, .int .i64 24, .int .i64 1, .int .i64 3, .int .i64 20, .int .i64 0, .int .i64 0] 43)).alloc (.cells #[.slice (some ⟨w.heap.size, 0, none⟩) 5 5, .int .i64 0, .int .i64 0, .bool false] 46) := ⟨_, rfl⟩
 have hbW : Below w.heap.size w W := by rw [hW]; exact bP (bP (Below.refl _ _) _) _
 have hr : Kd.C k43 W (some ⟨w.heap.size, 0, none⟩) pU.length pU := ins_row (t := 43) (by rw [hW]; exact aX (bV w _) _) (by decide)
 have hC : Kd.C k46 W (some ⟨w.heap.size + 1, 0, none⟩) pX.length pX := by
  refine cod_row (t := 46) (cs := [.slice (some ⟨w.heap.size, 0, none⟩) 5 5, .int .i64 0, .int .i64 0, .bool false]) ((bJ.none _ _).snoc (p := (⟨pU, 0, 0, false⟩ : S46)) (k46_mk W ⟨pU, 0, 0, false⟩ (c0 := 5) (by decide) hr) rfl) ?_ (by decide)
  rw [hW]
  have := bV (w.alloc (.cells #[.int .i64 24, .int .i64 0, .int .i64 1, .int .i64 1, .int .i64 5, .int .i64 0, .int .i64 21, .int .i64 0, .int .i64 0, .int .i64 24, .int .i64 1, .int .i64 3, .int .i64 20, .int .i64 0, .int .i64 0] 43)) (.cells #[.slice (some ⟨w.heap.size, 0, none⟩) 5 5, .int .i64 0, .int .i64 0, .bool false] 46)
  rwa [show (w.alloc (.cells #[.int .i64 24, .int .i64 0, .int .i64 1, .int .i64 1, .int .i64 5, .int .i64 0, .int .i64 21, .int .i64 0, .int .i64 0, .int .i64 24, .int .i64 1, .int .i64 3, .int .i64 20, .int .i64 0, .int .i64 0] 43)).heap.size = w.heap.size + 1 by simp] at this
 have hLW := hLd.below hbW
 have hnil : ∀ X : World, Kd.C (Kd.int .i64) X none ([] : List Int).length [] := fun X => Kd.uA _ X
 have HN1 : aa (Calls Tryd.prog 12 #[.slice (some ⟨w.heap.size + 1, 0, none⟩) 1 1, .int .i64 0, .slice none 0 0, .int .i64 9] W (fun e w1 => ∃ g, e = .returned (.tuple #[.pointer (some ⟨g, 0, none⟩), .int .i64 0]) ∧ Solo g (km 9) W.heap.size W w1)) := ⟨qA W _ none 1 0 pX [] 0 9 hC (Zd _) hLW 60 rD uG (hnil W) (Zd _) (by decide) (by decide) (by decide)⟩
 have HN2 : aa (∀ w1 g, Solo g (km 9) W.heap.size W w1 → Calls Tryd.prog 12 #[.slice (some ⟨w.heap.size + 1, 0, none⟩) 1 1, .int .i64 0, .slice none 0 0, .int .i64 1] w1 (fun e w2 => ∃ g2, e = .returned (.tuple #[.pointer (some ⟨g2, 0, none⟩), .int .i64 0]) ∧ Duo g (km 9) g2 (km 1) W.heap.size W w2)) := ⟨fun w1 g S => by
  obtain ⟨_, _, _, _, _, hb⟩ := id S
  exact new_duo w1 _ none 1 0 pX [] 0 1 S (Zd _) (Kd.ek hC hb) (Zd _) (hLW.below hb) 60 rD uG (hnil w1) (Zd _) (by decide) (by decide) (by decide)⟩
 have HBW := aa.mk hbW
 have HN1 : aa (Calls Tryd.prog 12 #[.slice (some ⟨w.heap.size + 1, 0, none⟩) 1 1, .int .i64 0, .slice none 0 0, .int .i64 9] ((w.alloc (.cells #[.int .i64 24, .int .i64 0, .int .i64 1, .int .i64 1, .int .i64 5, .int .i64 0, .int .i64 21, .int .i64 0, .int .i64 0, .int .i64 24, .int .i64 1, .int .i64 3, .int .i64 20, .int .i64 0, .int .i64 0] 43)).alloc (.cells #[.slice (some ⟨w.heap.size, 0, none⟩) 5 5, .int .i64 0, .int .i64 0, .bool false] 46)) (fun e w1 => ∃ g, e = .returned (.tuple #[.pointer (some ⟨g, 0, none⟩), .int .i64 0]) ∧ Solo g (km 9) W.heap.size W w1)) := ⟨by rw [← hW]; exact HN1.out⟩
 clear hLd hbW hr hC hLW hnil
 have HWW := aa.mk hW; clear hW
 go_enter Tryd.func11, Tryd.ntmps11
 go_wp2_with (first
  | ((with_reducible refine ah (f := 12) rfl ?_); (try (refine aG (by rfl) ?_; dsimp only)); refine gl 18 Tryd.func12 #[.slice (some ⟨w.heap.size + 1, 0, none⟩) 1 1, .int .i64 0, .slice none 0 0, .int .i64 9] ?_; (with_reducible refine (HN1.out).mono ?_); rintro e w1 ⟨gm, rfl, S1⟩; have HN2 := aa.mk (HN2.out w1 gm S1); clear S1; refine ⟨_, rfl, ?_⟩)
  | ((with_reducible refine ah (f := 12) rfl ?_); (try (refine aG (by rfl) ?_; dsimp only)); refine gl 23 Tryd.func12 #[.slice (some ⟨w.heap.size + 1, 0, none⟩) 1 1, .int .i64 0, .slice none 0 0, .int .i64 1] ?_; (with_reducible refine (HN2.out).mono ?_); rintro e w2 ⟨gn, rfl, D0⟩; have H1 : aa (Calls Tryd.prog 21 #[.pointer (some ⟨gm, 0, none⟩)] _ (fun e w' => e = .returned (.bool true) ∧ Duo gm (km 9).step.1 gn (km 1) W.heap.size W w')) := ⟨by have h := D0.step (rJ 9 (by decide) (by decide)) (Zd _); rw [km9.1] at h; exact h⟩; clear D0; refine ⟨_, rfl, ?_⟩)
  | ((with_reducible refine ah (f := 21) rfl ?_); (try (refine aG (by rfl) ?_; dsimp only)); refine gl 34 Tryd.func21 #[.pointer (some ⟨gm, 0, none⟩)] ?_; (with_reducible refine (H1.out).mono ?_); rintro e w3 ⟨rfl, D1⟩; have H2 : aa (Calls Tryd.prog 21 #[.pointer (some ⟨gm, 0, none⟩)] _ (fun e w' => e = .returned (.bool true) ∧ Duo gm (km 9).step.1.step.1 gn (km 1) W.heap.size W w')) := ⟨by have h := D1.step (gL (rJ 9 (by decide) (by decide))).1 (Zd _); rw [km9.2.1] at h; exact h⟩; clear D1; refine ⟨_, rfl, ?_⟩)
  | ((with_reducible refine ah (f := 21) rfl ?_); (try (refine aG (by rfl) ?_; dsimp only)); refine gl 39 Tryd.func21 #[.pointer (some ⟨gm, 0, none⟩)] ?_; (with_reducible refine (H2.out).mono ?_); rintro e w4 ⟨rfl, D2⟩; have H3 : aa (Calls Tryd.prog 21 #[.pointer (some ⟨gm, 0, none⟩)] _ (fun e w' => e = .returned (.bool false) ∧ Duo gm (km 9).step.1.step.1.step.1 gn (km 1) W.heap.size W w')) := ⟨by have h := D2.step (gL (gL (rJ 9 (by decide) (by decide))).1).1 (Zd _); rw [km9.2.2.1] at h; exact h⟩; clear D2; refine ⟨_, rfl, ?_⟩)
  | ((with_reducible refine ah (f := 21) rfl ?_); (try (refine aG (by rfl) ?_; dsimp only)); refine gl 44 Tryd.func21 #[.pointer (some ⟨gm, 0, none⟩)] ?_; (with_reducible refine (H3.out).mono ?_); rintro e w5 ⟨rfl, D3⟩; have H4 : aa (Calls Tryd.prog 21 #[.pointer (some ⟨gn, 0, none⟩)] _ (fun e w' => e = .returned (.bool true) ∧ Duo gn (km 1).step.1 gm (km 9).step.1.step.1.step.1 W.heap.size W w')) := ⟨by have h := D3.swap.step (rJ 1 (by decide) (by decide)) (Zd _); rw [km1.1] at h; exact h⟩; clear D3; refine ⟨_, rfl, ?_⟩)
  | ((with_reducible refine ah (f := 21) rfl ?_); (try (refine aG (by rfl) ?_; dsimp only)); refine gl 48 Tryd.func21 #[.pointer (some ⟨gn, 0, none⟩)] ?_; (with_reducible refine (H4.out).mono ?_); rintro e w6 ⟨rfl, D4⟩; have H5 : aa (Calls Tryd.prog 21 #[.pointer (some ⟨gn, 0, none⟩)] _ (fun e w' => e = .returned (.bool false) ∧ Duo gn (km 1).step.1.step.1 gm (km 9).step.1.step.1.step.1 W.heap.size W w')) := ⟨by have h := D4.step (gL (rJ 1 (by decide) (by decide))).1 (Zd _); rw [km1.2.1] at h; exact h⟩; clear D4; refine ⟨_, rfl, ?_⟩)
  | ((with_reducible refine ah (f := 21) rfl ?_); (try (refine aG (by rfl) ?_; dsimp only)); refine gl 53 Tryd.func21 #[.pointer (some ⟨gn, 0, none⟩)] ?_; (with_reducible refine (H5.out).mono ?_); rintro e w7 ⟨rfl, D5⟩; have H6 := aa.mk (D5.swap.solo.events (Nat.le_of_succ_le (Nat.le_of_succ_le (gL (gL (gL (rJ 9 (by decide) (by decide))).1).1).1.evb))); have D5 := aa.mk D5; refine ⟨_, rfl, ?_⟩)
  | ((with_reducible refine ah (f := 16) rfl ?_); (try (refine aG (by rfl) ?_; dsimp only)); refine gl 56 Tryd.func16 #[.pointer (some ⟨gm, 0, none⟩)] ?_; (with_reducible refine (H6.out).mono ?_); rintro e w8 ⟨va, rfl, ha, hb⟩; have D6 := aa.mk (D5.out.below (Zd _) hb); rw [show ((km 9).step.1.step.1.step.1).events = [(1, 5), (3, 0)] from km9.2.2.2.2.1] at ha; obtain ⟨ka, ca, rfl, hka, xa0, xa1, xa2, xa3⟩ := ol ha; have H7 := aa.mk (D6.out.solo.events (Nat.le_of_succ_le (Nat.le_of_succ_le (gL (gL (rJ 1 (by decide) (by decide))).1).1.evb))); clear ha hb; refine ⟨_, rfl, ?_⟩)
  | ((with_reducible refine ah (f := 16) rfl ?_); (try (refine aG (by rfl) ?_; dsimp only)); refine gl 58 Tryd.func16 #[.pointer (some ⟨gn, 0, none⟩)] ?_; (with_reducible refine (H7.out).mono ?_); rintro e w9 ⟨vb, rfl, ha, hb⟩; have D7 := aa.mk (D6.out.below (Zd _) hb); rw [show ((km 1).step.1.step.1).events = [(1, 5), (5, 0)] from km1.2.2.1] at ha; obtain ⟨kb, cb, rfl, hkb, xb0, xb1, xb2, xb3⟩ := ol ha; have XA := aa.mk (And.intro ((hb.cell hka).trans xa0) (And.intro ((hb.cell hka).trans xa1) (And.intro ((hb.cell hka).trans xa2) (Zf hka hb.size)))); have XB := aa.mk (And.intro xb2 hkb); clear xa0 xa1 xa2 xa3 xb0 xb1 xb2 xb3 ha hb hka hkb; have H8 : aa (Calls Tryd.prog 18 #[.pointer (some ⟨gm, 0, none⟩)] w9 (fun e w' => e = .returned (.int .i64 2) ∧ Below w9.heap.size w9 w')) := ⟨by have h := D7.out.swap.solo.ticks; rw [km9.2.2.2.1] at h; exact h⟩; refine ⟨_, rfl, ?_⟩)
  | ((with_reducible refine ah (f := 18) rfl ?_); (try (refine aG (by rfl) ?_; dsimp only)); refine gl 60 Tryd.func18 #[.pointer (some ⟨gm, 0, none⟩)] ?_; (with_reducible refine (H8.out).mono ?_); rintro e w10 ⟨rfl, hb⟩; have D8 := aa.mk (D7.out.below (Zd _) hb); have xa0 := (hb.cell XA.out.2.2.2).trans XA.out.1; have xa1 := (hb.cell XA.out.2.2.2).trans XA.out.2.1; have xa2 := (hb.cell XA.out.2.2.2).trans XA.out.2.2.1; have xb2 := (hb.cell XB.out.2).trans XB.out.1; clear hb; have H9 : aa (Calls Tryd.prog 30 #[.pointer (some ⟨gm, 0, none⟩)] w10 (fun e w' => e = .returned (.bool true) ∧ Below w10.heap.size w10 w')) := ⟨by have h := D8.out.swap.solo.ended; rw [km9.2.2.2.2.2.1] at h; exact h⟩; refine ⟨_, rfl, ?_⟩)
  | ((with_reducible refine ah (f := 30) rfl ?_); (try (refine aG (by rfl) ?_; dsimp only)); refine gl 95 Tryd.func30 #[.pointer (some ⟨gm, 0, none⟩)] ?_; (with_reducible refine (H9.out).mono ?_); rintro e w11 ⟨rfl, hb⟩; have D9 := aa.mk (D8.out.below (Zd _) hb); clear hb; have H10 : aa (Calls Tryd.prog 20 #[.pointer (some ⟨gm, 0, none⟩)] w11 (fun e w' => e = .returned (.int .i64 0) ∧ Below w11.heap.size w11 w')) := ⟨by have h := D9.out.swap.solo.frames; rw [km9.2.2.2.2.2.2] at h; exact h⟩; refine ⟨_, rfl, ?_⟩)
  | ((with_reducible refine ah (f := 20) rfl ?_); (try (refine aG (by rfl) ?_; dsimp only)); refine gl 99 Tryd.func20 #[.pointer (some ⟨gm, 0, none⟩)] ?_; (with_reducible refine (H10.out).mono ?_); rintro e w12 ⟨rfl, hb⟩; have D10 := aa.mk (D9.out.below (Zd _) hb); clear hb; have H11 : aa (Calls Tryd.prog 20 #[.pointer (some ⟨gn, 0, none⟩)] w12 (fun e w' => e = .returned (.int .i64 1) ∧ Below w12.heap.size w12 w')) := ⟨by have h := D10.out.solo.frames; rw [km1.2.2.2] at h; exact h⟩; refine ⟨_, rfl, ?_⟩)
  | ((with_reducible refine ah (f := 20) rfl ?_); (try (refine aG (by rfl) ?_; dsimp only)); refine gl 104 Tryd.func20 #[.pointer (some ⟨gn, 0, none⟩)] ?_; (with_reducible refine (H11.out).mono ?_); rintro e w13 ⟨rfl, hb⟩; have HF : aa (Below w.heap.size w w13) := ⟨by obtain ⟨_, _, _, _, _, _, _, _, _, _, _, _, h9⟩ := D10.out; exact HBW.out.trans ((h9.trans (hb.mono h9.size)).mono HBW.out.size)⟩; clear hb; refine ⟨_, rfl, ?_⟩))
 go_ret
 exact ⟨rfl, HF.out⟩
theorem vmCopies_calls (A0 : Option Addr) (c0 : Nat) (l : List S46) (main : Int) (A2 : Option Addr) (c2 : Nat) (input : List Int) (fuel at_ : Int) (w : World) (hLd : Laid w) (hl : Kd.C k46 w A0 l.length l) (hc : l.length ≤ c0) (hin : Kd.C (Kd.int .i64) w A2 input.length input) (hc2 : input.length ≤ c2)
  (g0 : l.length * 48 ≤ 140737488351232 ∧ ∀ x ∈ l, ((x.f0.length * 24 ≤ 140737488351232 ∧ ∀ y3 ∈ x.f0, ((Lit.int .i64 y3.f0).wf = true ∧ ((Lit.int .i64 y3.f1).wf = true ∧ (Lit.int .i64 y3.f2).wf = true))) ∧ ((Lit.int .i64 x.f1).wf = true ∧ ((Lit.int .i64 x.f2).wf = true ∧ True))))
  (_ : (Lit.int .i64 main).wf = true) (hwf : input.length * 8 ≤ 140737488351232 ∧ ∀ x ∈ input, (Lit.int .i64 x).wf = true) (_ : (Lit.int .i64 fuel).wf = true) (_ : (Lit.int .i64 at_).wf = true) :
  Calls Tryd.prog 8 #[.slice A0 l.length c0, .int .i64 main, .slice A2 input.length c2, .int .i64 fuel, .int .i64 at_] w fun e w' => e = .returned (.bool true) ∧ Below w.heap.size w w' := by
 have HBO := aa.mk (rboth_law w A0 A2 c0 c2 l input main fuel hl hc hLd (fun x hx y hy => (g0.2 x hx).1.2 y hy) hin hc2 (by omega) (fun x hx => by have := (g0.2 x hx).1.1; omega))
 have HLD := aa.mk hLd
 have HFC : aa (jR l) := ⟨fun x hx y hy => (g0.2 x hx).1.2 y hy⟩
 have HWF := aa.mk hwf.2
 obtain ⟨d, hd, hA⟩ := among_is at_ 60 (by decide) (by decide)
 have HA : aa (dF.f at_ 60 = some (d : Int)) := ⟨hA⟩
 have HD := aa.mk hd
 clear hl hc hin hLd g0 hwf hA hd
 go_enter Tryd.func8, Tryd.ntmps8
 go_wp2_with (first
  | ((with_reducible refine ah (f := 10) rfl ?_); (try (refine aG (by rfl) ?_; dsimp only)); refine gl 22 Tryd.func10 #[.slice A0 l.length c0, .int .i64 main, .slice A2 input.length c2, .int .i64 fuel] ?_; (with_reducible refine (HBO.out).mono ?_); rintro e w1 ⟨hb, h⟩; have HB := aa.mk hb; clear hb; rcases h with rfl | ⟨gm, gr, b, rfl, P0, hS, hf0, hf1, hi⟩; rotate_left; have P0 := aa.mk P0; have HR0 := aa.mk (reach_new hS HFC.out (show input.length ≤ 1000 by omega) HWF.out hf0 (show gI fuel ≤ 1048576 by omega)); have HF2 := aa.mk hf1; clear hS hf0 hf1 hi; cases b; all_goals (refine ⟨_, rfl, ?_⟩))
  | ((with_reducible refine ah (f := 11) rfl ?_); (try (refine aG (by rfl) ?_; dsimp only)); refine gl 35 Tryd.func11 #[] ?_; (with_reducible refine (oN _ (HLD.out.below HB.out)).mono ?_); rintro e w9 ⟨rfl, hb⟩; have HZ : aa (Below w.heap.size w w9) := ⟨HB.out.trans (hb.mono HB.out.size)⟩; clear hb; refine ⟨_, rfl, ?_⟩))
 rotate_left
 rotate_left
 all_goals try (go_ret; exact ⟨rfl, HZ.out⟩)
 go_loopg [15] d (fun gk v15 W => ∃ (x : Nat) (M mr : Mc), v15 = .int .i64 (x : Int) ∧ aa (gk + x = d) ∧ aa (iF gm M gr mr w.heap.size w W) ∧ aa (Sim mr M) ∧ aa (Reach M) ∧ aa (l5 M) ∧ aa (M.fuel ≤ 200))
 case atStart => exact ⟨0, _, _, rfl, ⟨rfl⟩, P0, ⟨.inl rfl⟩, HR0, ⟨fun f hf => by obtain rfl : f = iL l main [] := (by simpa using show f ∈ [iL l main []] from hf); exact Nat.zero_le _⟩, ⟨HF2.out⟩⟩
 case round =>
  obtain ⟨x, M, mr, rfl, B0, B1, B2, B3, B5, B6⟩ := hrel
  by_cases hx : x < d
  ·have g1 : decide (x < d) = true := Za hx
   obtain ⟨g, hg⟩ : ∃ g, gk = g + 1 := ⟨gk - 1, by have := B0.out; omega⟩
   subst hg
   have hx9 : x < 1000 := by have := HD.out; omega
   have HX := aa.mk hx
   clear hx
   rcases he : M.ended with _ | _
   ·have e1 : mr = M := B2.out.eq he
    subst e1
    have HS21 : aa (∀ {W : World}, iF gm mr gr mr w.heap.size w W → Calls Tryd.prog 21 #[.pointer (some ⟨gm, 0, none⟩)] W (fun e w' => e = .returned (.bool mr.step.2) ∧ iF gm mr.step.1 gr mr w.heap.size w w')) := ⟨fun P => P.step B3.out.fit (Zd _)⟩
    have HC11 : aa (∀ {W : World}, iF gm mr.step.1 gr mr w.heap.size w W → W.cell? ⟨gr, 11, none⟩ = some (.bool false)) := ⟨fun P => by rw [← he]; exact P.ended⟩
    have HS24 : aa (∀ {W : World}, iF gm mr.step.1 gr mr w.heap.size w W → Calls Tryd.prog 24 #[.pointer (some ⟨gr, 0, none⟩), .int .i64 1048576] W (fun e w' => e = .returned (.bool mr.step.2) ∧ ∃ mr', Sim mr' mr.step.1 ∧ iF gm mr.step.1 gr mr' w.heap.size w w')) := ⟨fun P => P.rstep B3.out.fit B3.out.rng he (Zd _)⟩
    clear he
    go_wp2_with (first
     | ((with_reducible refine ah (f := 14) rfl ?_); (try (refine aG (by rfl) ?_; dsimp only)); refine gl 39 Tryd.func14 #[.int .i64 at_, .int .i64 60] ?_; (with_reducible refine (dF.calls at_ 60 _ _ HA.out).mono ?_); rintro e w2 ⟨rfl, nd2, rfl⟩; have HB2 := aa.mk (bv (Below.refl wr.heap.size wr) nd2); refine ⟨_, rfl, ?_⟩)
     | ((with_reducible refine ah (f := 21) rfl ?_); (try (refine aG (by rfl) ?_; dsimp only)); refine gl 44 Tryd.func21 #[.pointer (some ⟨gm, 0, none⟩)] ?_; (with_reducible refine (HS21.out (B1.out.on (Zd _) HB2.out)).mono ?_); rintro e w3 ⟨rfl, P2⟩; have c11 := HC11.out P2; have HR24 := HS24.out P2; have P2 := aa.mk P2; refine ⟨_, rfl, ?_⟩)
     | ((with_reducible refine ah (f := 24) rfl ?_); (try (refine aG (by rfl) ?_; dsimp only)); refine gl 51 Tryd.func24 #[.pointer (some ⟨gr, 0, none⟩), .int .i64 1048576] ?_; (with_reducible refine (HR24).mono ?_); rintro e w4 ⟨rfl, mr2, hsim2, P3⟩; have HSIM2 := aa.mk hsim2; have P3 := aa.mk P3; clear HR24 hsim2; refine ⟨_, rfl, ?_⟩))
    go_roundg g
    case measure => omega
    case rel => exact ⟨x + 1, mr.step.1, mr2, by go_num, ⟨by have := B0.out; omega⟩, P3, HSIM2, ⟨B3.out.step⟩, ⟨step_stack B3.out B5.out⟩, ⟨Int.le_trans (step_less B3.out) B6.out⟩⟩
   ·have HS21 : aa (∀ {W : World}, iF gm M gr mr w.heap.size w W → Calls Tryd.prog 21 #[.pointer (some ⟨gm, 0, none⟩)] W (fun e w' => e = .returned (.bool false) ∧ iF gm M gr mr w.heap.size w w')) := ⟨fun P => by have h := P.step B3.out.fit (Zd _); rw [oo he] at h; exact h⟩
    have HC11 : aa (∀ {W : World}, iF gm M gr mr w.heap.size w W → W.cell? ⟨gr, 11, none⟩ = some (.bool true)) := ⟨fun P => by rw [← he, ← B2.out.alike.ended]; exact P.ended⟩
    clear he
    go_wp2_with (first
     | ((with_reducible refine ah (f := 14) rfl ?_); (try (refine aG (by rfl) ?_; dsimp only)); refine gl 39 Tryd.func14 #[.int .i64 at_, .int .i64 60] ?_; (with_reducible refine (dF.calls at_ 60 _ _ HA.out).mono ?_); rintro e w2 ⟨rfl, nd2, rfl⟩; have HB2 := aa.mk (bv (Below.refl wr.heap.size wr) nd2); refine ⟨_, rfl, ?_⟩)
     | ((with_reducible refine ah (f := 21) rfl ?_); (try (refine aG (by rfl) ?_; dsimp only)); refine gl 44 Tryd.func21 #[.pointer (some ⟨gm, 0, none⟩)] ?_; (with_reducible refine (HS21.out (B1.out.on (Zd _) HB2.out)).mono ?_); rintro e w3 ⟨rfl, P2⟩; have c11 := HC11.out P2; have P2 := aa.mk P2; refine ⟨_, rfl, ?_⟩))
    go_roundg g
    case measure => omega
    case rel => exact ⟨x + 1, M, mr, by go_num, ⟨by have := B0.out; omega⟩, P2, B2, B3, B5, B6⟩
  ·have g1 : decide (x < d) = false := Zb hx
   have HSB : aa (∀ f ∈ M.frames, f.stack.length ≤ 1000000) := ⟨B5.out⟩
   clear hx
   go_wp2_with (first
    | ((with_reducible refine ah (f := 14) rfl ?_); (try (refine aG (by rfl) ?_; dsimp only)); refine gl 39 Tryd.func14 #[.int .i64 at_, .int .i64 60] ?_; (with_reducible refine (dF.calls at_ 60 _ _ HA.out).mono ?_); rintro e w2 ⟨rfl, nd2, rfl⟩; have HB2 := aa.mk (bv (Below.refl wr.heap.size wr) nd2); refine ⟨_, rfl, ?_⟩)
    | ((with_reducible refine ah (f := 28) rfl ?_); (try (refine aG (by rfl) ?_; dsimp only)); refine gl 53 Tryd.func28 #[.pointer (some ⟨gm, 0, none⟩)] ?_; (with_reducible refine ((B1.out.on (Zd _) HB2.out).copy B3.out.small HSB.out (Zd _)).mono ?_); rintro e w3 ⟨gc, rfl, T0⟩; have T0 := aa.mk T0; refine ⟨_, rfl, ?_⟩)
    | (have HX : aa (Calls Tryd.prog 15 #[.pointer (some ⟨gm, 0, none⟩), .int .i64 300] _ (fun e w' => e = .returned (.bool (M.endP 301).2) ∧ Tri gm (M.endP 301).1 gc M gr mr w.heap.size w w')) := ⟨T0.out.end_ B3.out.fit (Zd _) 300 (by decide)⟩; (with_reducible refine ah (f := 15) rfl ?_); (try (refine aG (by rfl) ?_; dsimp only)); refine gl 57 Tryd.func15 #[.pointer (some ⟨gm, 0, none⟩), .int .i64 300] ?_; (with_reducible refine (HX.out).mono ?_); rintro e w4 ⟨rfl, T1⟩; have T1 := aa.mk T1.swap; refine ⟨_, rfl, ?_⟩)
    | ((with_reducible refine ah (f := 23) rfl ?_); (try (refine aG (by rfl) ?_; dsimp only)); refine gl 60 Tryd.func23 #[.pointer (some ⟨gc, 0, none⟩), .pointer (some ⟨gr, 0, none⟩)] ?_; (with_reducible refine (T1.out.same B2.out.alike B3.out.small (Zd _)).mono ?_); rintro e w5 ⟨rfl, T2⟩; have T2 := aa.mk T2; refine ⟨_, rfl, ?_⟩))
   go_loopg [] 201 (fun gk W => ∃ (C mr : Mc), aa (Tri gc C gm (M.endP 301).1 gr mr w.heap.size w W) ∧ aa (Sim mr C) ∧ aa (Reach C) ∧ aa (∃ n, C.fuel.toNat < n ∧ (C.endP n).1 = (M.endP 301).1) ∧ aa (C.ended = false → C.fuel.toNat + 1 ≤ gk))
   case atStart => exact ⟨M, mr, T2, B2, B3, ⟨301, by have := B6.out; omega, rfl⟩, ⟨fun _ => by have := B6.out; omega⟩⟩
   case round =>
    obtain ⟨C, mr9, D1, D2, D3, D4, D5⟩ := hrel
    have c11 : wr.cell? ⟨gr, 11, none⟩ = some (.bool C.ended) := by rw [← D2.out.alike.ended]; exact D1.out.ended
    rcases he : C.ended with _ | _
    ·rw [he] at c11
     have e1 : mr9 = C := D2.out.eq he
     subst e1
     obtain ⟨g, hg⟩ : ∃ g, gk = g + 1 := ⟨gk - 1, by have := D5.out he; omega⟩
     subst hg
     obtain ⟨b1, hb1⟩ : ∃ b1, b1 = mr9.step.2 := ⟨_, rfl⟩
     have HS21 : aa (Calls Tryd.prog 21 #[.pointer (some ⟨gc, 0, none⟩)] wr (fun e w' => e = .returned (.bool b1) ∧ Tri gc mr9.step.1 gm (M.endP 301).1 gr mr9 w.heap.size w w')) := ⟨by rw [hb1]; exact D1.out.step D3.out.fit (Zd _)⟩
     have HS24 : aa (∀ {W : World}, Tri gc mr9.step.1 gm (M.endP 301).1 gr mr9 w.heap.size w W → Calls Tryd.prog 24 #[.pointer (some ⟨gr, 0, none⟩), .int .i64 1048576] W (fun e w' => e = .returned (.bool b1) ∧ ∃ mr', Sim mr' mr9.step.1 ∧ Tri gc mr9.step.1 gm (M.endP 301).1 gr mr' w.heap.size w w')) := ⟨fun P => by rw [hb1]; exact P.rstep D3.out.fit D3.out.rng he (Zd _)⟩
     have HS23 : aa (∀ {W : World} {mr' : Mc}, Sim mr' mr9.step.1 → Tri gc mr9.step.1 gm (M.endP 301).1 gr mr' w.heap.size w W → Calls Tryd.prog 23 #[.pointer (some ⟨gc, 0, none⟩), .pointer (some ⟨gr, 0, none⟩)] W (fun e w' => e = .returned (.bool true) ∧ Tri gc mr9.step.1 gm (M.endP 301).1 gr mr' w.heap.size w w')) := ⟨fun hs P => P.same hs.alike D3.out.step.small (Zd _)⟩
     have hbb : (b1 != b1) = false := by cases b1 <;> rfl
     have HE := aa.mk he; have HB1 := aa.mk hb1
     clear he hb1
     go_wp2_with (first
      | ((with_reducible refine ah (f := 21) rfl ?_); (try (refine aG (by rfl) ?_; dsimp only)); refine gl 68 Tryd.func21 #[.pointer (some ⟨gc, 0, none⟩)] ?_; (with_reducible refine (HS21.out).mono ?_); rintro e w6 ⟨rfl, T3⟩; have HR24 := HS24.out T3; have T3 := aa.mk T3; refine ⟨_, rfl, ?_⟩)
      | ((with_reducible refine ah (f := 24) rfl ?_); (try (refine aG (by rfl) ?_; dsimp only)); refine gl 70 Tryd.func24 #[.pointer (some ⟨gr, 0, none⟩), .int .i64 1048576] ?_; (with_reducible refine (HR24).mono ?_); rintro e w7 ⟨rfl, mr2, hsim2, T4⟩; have hS23 := HS23.out hsim2 T4; have HSIM2 := aa.mk hsim2; have T4 := aa.mk T4; clear HR24 hsim2; refine ⟨_, rfl, ?_⟩)
      | ((with_reducible refine ah (f := 23) rfl ?_); (try (refine aG (by rfl) ?_; dsimp only)); refine gl 75 Tryd.func23 #[.pointer (some ⟨gc, 0, none⟩), .pointer (some ⟨gr, 0, none⟩)] ?_; (with_reducible refine (hS23).mono ?_); rintro e w8 ⟨rfl, T5⟩; have T5 := aa.mk T5; clear hS23; refine ⟨_, rfl, ?_⟩))
     go_roundg g
     case measure => omega
     case rel =>
      obtain ⟨n, hn, hn2⟩ := D4.out
      obtain ⟨n', hn', hn3⟩ := endP_next D3.out hn
      refine ⟨mr9.step.1, mr2, T5, HSIM2, ⟨D3.out.step⟩, ⟨n', hn', hn3.trans hn2⟩, ⟨fun hne => ?_⟩⟩
      obtain ⟨q1, q2, q3, q4⟩ := kN D3.out.told
      have h5 : mr9.step.2 = true := by
       rcases h : mr9.step.2 with _ | _
       ·rw [q4 h] at hne; cases hne
       ·rfl
      rw [h5, if_pos rfl] at q3
      have h6 := D3.out.step.fit.good.fuel.1
      have h7 := D5.out HE.out
      omega
    ·rw [he] at c11
     have HS23 : aa (Calls Tryd.prog 23 #[.pointer (some ⟨gm, 0, none⟩), .pointer (some ⟨gr, 0, none⟩)] wr (fun e w' => e = .returned (.bool true) ∧ Tri gm C gc C gr mr9 w.heap.size w w')) := ⟨by
      obtain ⟨n, hn, hn2⟩ := D4.out
      rw [nz he] at hn2
      have h := D1.out.swap
      rw [← hn2] at h
      exact h.same D2.out.alike D3.out.small (Zd _)⟩
     clear he
     go_wp2_with (first
      | ((with_reducible refine ah (f := 23) rfl ?_); (try (refine aG (by rfl) ?_; dsimp only)); refine gl 80 Tryd.func23 #[.pointer (some ⟨gm, 0, none⟩), .pointer (some ⟨gr, 0, none⟩)] ?_; (with_reducible refine (HS23.out).mono ?_); rintro e w6 ⟨rfl, T3⟩; have T3 := aa.mk T3; refine ⟨_, rfl, ?_⟩)
      | ((with_reducible refine ah (f := 11) rfl ?_); (try (refine aG (by rfl) ?_; dsimp only)); refine gl 82 Tryd.func11 #[] ?_; (with_reducible refine (oN _ (HLD.out.below T3.out.low)).mono ?_); rintro e w9 ⟨rfl, hb⟩; have HZ : aa (Below w.heap.size w w9) := ⟨T3.out.low.trans (hb.mono T3.out.low.size)⟩; clear hb; refine ⟨_, rfl, ?_⟩))
     go_ret
     exact ⟨rfl, HZ.out⟩
end Go.Proofs.YthckiolgpgplpaaDoor
