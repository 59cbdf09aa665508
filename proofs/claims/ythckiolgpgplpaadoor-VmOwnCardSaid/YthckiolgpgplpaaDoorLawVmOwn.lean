/- VmOwn: whatever comes in, the law answers true; what came in reads as it did. The two tables of package code start as the text lays them (the tied card). -/
import Derived.Test.YthckiolgpgplpaaDoorVM2
import Derived.Test.YthckiolgpgplpaaDoorTie
import Derived.Test.YthckiolgpgplpaaDoorCards
import Derived.ProofKit
import Derived.OpenShut
import Derived.ShutString
namespace Go.Proofs.YthckiolgpgplpaaDoor.vmOwn
open Go.ChangeShapes Go.WideShapes Go.ChangeAt Go.RowKit
open YC YA YB YD YE
open Go.ChangeMaps (open_string shut_string)
set_option linter.unusedVariables false
set_option linter.unusedSimpArgs false
theorem own : ownKnob Tryd.prog.godebug = none := by kernel_rfl
theorem laidOut : laidOutB Tryd.prog = true := by kernel_rfl
theorem opensS43 : kZ Tryd.prog k43 43 (fun x => ((Lit.int .i64 x.f0).wf = true ∧ ((Lit.int .i64 x.f1).wf = true ∧ (Lit.int .i64 x.f2).wf = true))) := lT (fun x : S43 => (x.f0, x.f1, x.f2)) (fun a => (⟨a.1, a.2.1, a.2.2⟩ : S43)) (fun _ => rfl) Tryd.underlying43 (by kernel_rfl) ((jc rfl (by kernel_rfl) (jm Tryd.underlying3) (jc rfl (by kernel_rfl) (jm Tryd.underlying2) (nO rfl (by kernel_rfl) (jm Tryd.underlying2))))) (fun _ h => h)
theorem opensS46 : kZ Tryd.prog k46 46 (fun x => ((x.f0.length * 24 ≤ 140737488351232 ∧ ∀ y3 ∈ x.f0, ((Lit.int .i64 y3.f0).wf = true ∧ ((Lit.int .i64 y3.f1).wf = true ∧ (Lit.int .i64 y3.f2).wf = true))) ∧ ((Lit.int .i64 x.f1).wf = true ∧ ((Lit.int .i64 x.f2).wf = true ∧ True)))) := lT (fun x : S46 => (x.f0, x.f1, x.f2, x.f3)) (fun a => (⟨a.1, a.2.1, a.2.2.1, a.2.2.2⟩ : S46)) (fun _ => rfl) Tryd.underlying46 (by kernel_rfl) ((jc rfl (by kernel_rfl) (kK (B := 24) Tryd.underlying44 (by kernel_rfl) (by kernel_rfl) opensS43) (jc rfl (by kernel_rfl) (jm Tryd.underlying3) (jc rfl (by kernel_rfl) (jm Tryd.underlying3) (nO rfl (by kernel_rfl) (opens_bool Tryd.underlying4)))))) (fun _ h => h)
set_option maxHeartbeats 4000000 in
set_option maxRecDepth 100000 in
theorem lifted (os : Os) (started : os.Started) (H : Type) (enc : TypeId × Value → H) :
    ReturnsInHanded {} Tryd.checked os 7 .any (fun w args => (Rows.vmOwnSpec.pre enc Tryd.prog Tryd.f7 Rows.vmOwnRow.domain false w args ∧ laidMet Tryd.prog [("parallax/code.words", Rows.laid_parallax_code_words), ("parallax/code.stack", Rows.laid_parallax_code_stack)] w) ∧ sizedMet enc Tryd.prog Tryd.f7 (OpenSpec.ofChange Rows.vmOwnSpec) false w args) (Rows.vmOwnSpec.post enc Tryd.prog Tryd.f7 false true false false) := by
  refine returnsInHanded_of_change_and (C := Tryd.checked) (X := fun w _ => laidMet Tryd.prog [("parallax/code.words", Rows.laid_parallax_code_words), ("parallax/code.stack", Rows.laid_parallax_code_stack)] w) (fun _ _ _ hh h => h.of_heap hh) own started (by kernel_rfl) Tryd.func7
    (ChangeSpec.witness_at (enc := enc) (C := Tryd.checked) (os := os) (X := fun w _ => laidMet Tryd.prog [("parallax/code.words", Rows.laid_parallax_code_words), ("parallax/code.stack", Rows.laid_parallax_code_stack)] w) false (pu os) #[.slice none 0 0, .int .i64 0, .slice none 0 0, .int .i64 0] 8 rfl (by kernel_rfl) (by kernel_rfl) (by kernel_rfl) (by kernel_rfl) (by kernel_rfl) (laidWorld_met os _)) ?_
  intro W base args ds gs before hval0 hW hcnd hsz0 hL0 _
  have HLd : Laid W := laid_of hL0
  have hsz : (DataW.weightsEach Tryd.prog (Tryd.f7.params.toList ++ Rows.vmOwnSpec.plain.varTypes Tryd.prog) (ds ++ gs)).all (· ≤ reachBytes) = true := hsz0
  have hval : ∀ (j : Nat) t v, Tryd.f7.params[j]? = some t → args[j]? = some v → Value.okWide Tryd.prog W .any base t v := hval0
  have hW' := hW
  obtain ⟨p, q, hA0, hV, rfl, hfz, hnd⟩ := hW
  have hA : DataW.TrodAll enc Tryd.prog W 0 (fun _ => true) true Tryd.f7.params.toList args.toList ds p := hA0
  rw [Tryd.params7] at hA hval hsz
  obtain ⟨v0, vs0, d0, ds0, p0, q0, hargs, rfl, rfl, h0, r0⟩ := trodAll_cons hA
  obtain ⟨v1, vs1, d1, ds1, p1, q1, rfl, rfl, rfl, h1, r1⟩ := trodAll_cons r0
  obtain ⟨v2, vs2, d2, ds2, p2, q2, rfl, rfl, rfl, h2, r2⟩ := trodAll_cons r1
  obtain ⟨v3, vs3, d3, ds3, p3, q3, rfl, rfl, rfl, h3, r3⟩ := trodAll_cons r2
  obtain ⟨rfl, rfl, rfl⟩ := trodAll_nil r3
  obtain rfl : args = #[v0, v1, v2, v3] := by cases args; simp_all
  obtain ⟨rfl, rfl⟩ := trodVars_none hV
  obtain ⟨A0, len0, cap0, rfl⟩ := okWide_slice Tryd.underlying22 (hval 0 22 v0 rfl rfl)
  have k0 := h0
  have lt0 : ∀ x ∈ p0, x.block < W.heap.size := by obtain ⟨m, hm⟩ := k0; exact DataW.trod_lt m _ _ _ hm
  obtain ⟨l0, e0, g0, hc0, hr0⟩ := kw (kK (B := 48) Tryd.underlying22 (by kernel_rfl) (by kernel_rfl) opensS46) h0 (oC hsz (j := 0) (t := 22) rfl rfl)
  subst e0
  obtain ⟨a1, rfl, rfl, rfl, g1⟩ := open_int Tryd.underlying3 (hval 1 3 v1 rfl rfl) h1
  obtain ⟨A2, len2, cap2, rfl⟩ := okWide_slice Tryd.underlying23 (hval 2 23 v2 rfl rfl)
  have k2 := h2
  have lt2 : ∀ x ∈ p2, x.block < W.heap.size := by obtain ⟨m, hm⟩ := k2; exact DataW.trod_lt m _ _ _ hm
  obtain ⟨l2, e2, g2, hc2, hr2⟩ := kw (kK (B := 8) Tryd.underlying23 (by kernel_rfl) (by kernel_rfl) (jm Tryd.underlying2)) h2 (oC hsz (j := 2) (t := 23) rfl rfl)
  subst e2
  obtain ⟨a3, rfl, rfl, rfl, g3⟩ := open_int Tryd.underlying3 (hval 3 3 v3 rfl rfl) h3
  clear hA0 hval0 hsz0 hsz
  refine (vmOwn_calls A0 cap0 l0 a1 A2 cap2 l2 a3 W HLd hr0 hc0 hr2 hc2 g0 g1 g2 g3).mono ?_
  rintro e W' ⟨he, bel⟩
  subst he
  exact ⟨_, rfl, _, _, _, [], _, [], hW', trodAll_mk1 (shut_bool Tryd.underlying4 _), (trodAll_cons_mk (Below.trod laidOut (by kernel_rfl) (Zc (by kernel_rfl)) k0 bel lt0) (trodAll_cons_mk (shut_int Tryd.underlying3 g1) (trodAll_cons_mk (Below.trod laidOut (by kernel_rfl) (Zc (by kernel_rfl)) k2 bel lt2) (trodAll_cons_mk (shut_int Tryd.underlying3 g3) trodAll_mk0)))), rfl, bel.frame _, fun h => by cases h⟩
theorem over : Rows.vmOwnRow.holds Tryd.pinned (OpenSpec.ofChange Rows.vmOwnSpec) :=
  OpenClaim.holds_of_wide 7 Tryd.f7 rfl rfl rfl rfl rfl rfl rfl ⟨rfl, rfl, rfl, rfl, rfl⟩ rfl rfl rfl rfl rfl (by kernel_rfl) Tryd.func7 (by kernel_rfl)
    (Zc (by kernel_rfl)) (by unfold Func.isWrapper; first | (rw [if_pos (by decide +kernel)]; kernel_rfl) | (rw [if_neg (by decide +kernel)]; exact ⟨rfl, rfl⟩))
    (fun os started H enc _ => lifted os started H enc)
theorem proved : Rows.VmOwnSaid := over
end Go.Proofs.YthckiolgpgplpaaDoor.vmOwn
namespace Go.Proofs.YthckiolgpgplpaaDoor
/-- The row, under a short name, for the claim. -/
theorem vmOwn_holds : Rows.VmOwnSaid := vmOwn.proved
open Go in
set_option maxRecDepth 100000 in
theorem vmOwn_card : Rows.VmOwnCardSaid :=
  Claim7.holds_tied_plain_at .later [] [.data, .data] true (true, "f43b2061a396961d450cbf9e3c14858ff886897926f3e566f73a37b3dca4831c") false vmOwn_holds (fun _ h => by cases h) (by kernel_rfl) (fun _ h => by cases h) vmOwn_row_tie rfl ⟨rfl, rfl⟩ (by kernel_rfl) rfl
    (fun f fn hf hfn => by
      obtain rfl : f = 7 := Zg ((show Tryd.prog.funcNamed Rows.vmOwnRow.func = some 7 by kernel_rfl).symm.trans hf) |>.symm
      obtain rfl : fn = Tryd.f7 := (Zg (Tryd.func7.symm.trans hfn)).symm
      refine ⟨by kernel_rfl, fun j t ht => ?_⟩
      rw [Tryd.params7] at ht
      rcases j with _ | j
      · obtain rfl : t = 22 := by simpa using ht.symm
        exact (show Tryd.prog.wantsStandIn 22 = false by kernel_rfl)
      rcases j with _ | j
      · obtain rfl : t = 3 := by simpa using ht.symm
        exact (show Tryd.prog.wantsStandIn 3 = false by kernel_rfl)
      rcases j with _ | j
      · obtain rfl : t = 23 := by simpa using ht.symm
        exact (show Tryd.prog.wantsStandIn 23 = false by kernel_rfl)
      rcases j with _ | j
      · obtain rfl : t = 3 := by simpa using ht.symm
        exact (show Tryd.prog.wantsStandIn 3 = false by kernel_rfl)
      simp at ht)
    (by kernel_rfl)
#print axioms vmOwn_card
end Go.Proofs.YthckiolgpgplpaaDoor
