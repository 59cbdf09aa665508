/- PeepOwn: whatever comes in, the law answers true; what came in reads as it did. The two tables of package code start as the text lays them (the tied card). -/
import Derived.Test.YtmbjogpphegoaaaDoorQM
import Derived.Test.YtmbjogpphegoaaaDoorTie
import Derived.Test.YtmbjogpphegoaaaDoorCards
import Derived.SevenTiedAt
import Derived.LaidLaws
import Derived.Test.YtmbjogpphegoaaaDoorRows
import Derived.Test.YtmbjogpphegoaaaDoorVPeepOwn
import Derived.WalkKit
import Derived.ProofKit
import Derived.OpenShut
import Derived.ShutString
import Derived.ChangeOld
import Derived.Below
import Derived.SizedLaws
namespace Go.Proofs.YtmbjogpphegoaaaDoor.peepOwn
open Go.ChangeShapes Go.WideShapes Go.ChangeAt Go.RowKit
open Go.Proofs.YtmbjogpphegoaaaDoorW.PrintWords Go.Proofs.YtmbjogpphegoaaaDoorW.PrintLast Go.Proofs.YtmbjogpphegoaaaDoorW.PrintMore Go.Proofs.YtmbjogpphegoaaaDoor.P Go.Proofs.YtmbjogpphegoaaaDoor.Q
open Go.ChangeMaps (open_string shut_string)
set_option linter.unusedVariables false
set_option linter.unusedSimpArgs false
theorem own : ownKnob Tryd.prog.godebug = none := by kernel_rfl
theorem laidOut : laidOutB Tryd.prog = true := by kernel_rfl
theorem opensS40 : Opens Tryd.prog k40 40 (fun x => ((Lit.int .i64 x.f0).wf = true ∧ ((Lit.int .i64 x.f1).wf = true ∧ (Lit.int .i64 x.f2).wf = true))) := opens_struct (fun x : S40 => (x.f0, x.f1, x.f2)) (fun a => (⟨a.1, a.2.1, a.2.2⟩ : S40)) (fun _ => rfl) Tryd.underlying40 (by kernel_rfl) ((opensF_cons rfl (by kernel_rfl) (opens_int Tryd.underlying3) (opensF_cons rfl (by kernel_rfl) (opens_int Tryd.underlying2) (opensF_one rfl (by kernel_rfl) (opens_int Tryd.underlying2))))) (fun _ h => h)
theorem opensS35 : Opens Tryd.prog k35 35 (fun x => ((x.f0.length * 24 ≤ 140737488351232 ∧ ∀ y3 ∈ x.f0, ((Lit.int .i64 y3.f0).wf = true ∧ ((Lit.int .i64 y3.f1).wf = true ∧ (Lit.int .i64 y3.f2).wf = true))) ∧ ((Lit.int .i64 x.f1).wf = true ∧ ((Lit.int .i64 x.f2).wf = true ∧ True)))) := opens_struct (fun x : S35 => (x.f0, x.f1, x.f2, x.f3)) (fun a => (⟨a.1, a.2.1, a.2.2.1, a.2.2.2⟩ : S35)) (fun _ => rfl) Tryd.underlying35 (by kernel_rfl) ((opensF_cons rfl (by kernel_rfl) (opens_slice (B := 24) Tryd.underlying33 (by kernel_rfl) (by kernel_rfl) opensS40) (opensF_cons rfl (by kernel_rfl) (opens_int Tryd.underlying3) (opensF_cons rfl (by kernel_rfl) (opens_int Tryd.underlying3) (opensF_one rfl (by kernel_rfl) (opens_bool Tryd.underlying4)))))) (fun _ h => h)
set_option maxHeartbeats 4000000 in
set_option maxRecDepth 100000 in
theorem lifted (os : Os) (started : os.Started) (H : Type) (enc : TypeId × Value → H) :
    ReturnsInHanded {} Tryd.checked os 6 .any (fun w args => (Rows.peepOwnSpec.pre enc Tryd.prog Tryd.f6 Rows.peepOwnRow.domain false w args ∧ laidMet Tryd.prog [("parallax/code.words", Rows.laid_parallax_code_words), ("parallax/code.stack", Rows.laid_parallax_code_stack)] w) ∧ sizedMet enc Tryd.prog Tryd.f6 (OpenSpec.ofChange Rows.peepOwnSpec) false w args) (Rows.peepOwnSpec.post enc Tryd.prog Tryd.f6 false true false false) := by
  refine returnsInHanded_of_change_and (C := Tryd.checked) (X := fun w _ => laidMet Tryd.prog [("parallax/code.words", Rows.laid_parallax_code_words), ("parallax/code.stack", Rows.laid_parallax_code_stack)] w) (fun _ _ _ hh h => h.of_heap hh) own started (by kernel_rfl) Tryd.func6
    (ChangeSpec.witness_at (enc := enc) (C := Tryd.checked) (os := os) (X := fun w _ => laidMet Tryd.prog [("parallax/code.words", Rows.laid_parallax_code_words), ("parallax/code.stack", Rows.laid_parallax_code_stack)] w) false (laidWorld os) #[.slice none 0 0, .int .i64 0] 8 rfl (by kernel_rfl) (by kernel_rfl) (by kernel_rfl) (by kernel_rfl) (by kernel_rfl) (laidWorld_met os _)) ?_
  intro W base args ds gs before hval0 hW hcnd hsz0 hL0 _
  have HLd : Laid W := laid_of hL0
  have hsz : (DataW.weightsEach Tryd.prog (Tryd.f6.params.toList ++ Rows.peepOwnSpec.plain.varTypes Tryd.prog) (ds ++ gs)).all (· ≤ reachBytes) = true := hsz0
  have hval : ∀ (j : Nat) t v, Tryd.f6.params[j]? = some t → args[j]? = some v → Value.okWide Tryd.prog W .any base t v := hval0
  have hW' := hW
  obtain ⟨p, q, hA0, hV, rfl, hfz, hnd⟩ := hW
  have hA : DataW.TrodAll enc Tryd.prog W 0 (fun _ => true) true Tryd.f6.params.toList args.toList ds p := hA0
  rw [Tryd.params6] at hA hval hsz
  obtain ⟨v0, vs0, d0, ds0, p0, q0, hargs, rfl, rfl, h0, r0⟩ := trodAll_cons hA
  obtain ⟨v1, vs1, d1, ds1, p1, q1, rfl, rfl, rfl, h1, r1⟩ := trodAll_cons r0
  obtain ⟨rfl, rfl, rfl⟩ := trodAll_nil r1
  obtain rfl : args = #[v0, v1] := by cases args; simp_all
  obtain ⟨rfl, rfl⟩ := trodVars_none hV
  obtain ⟨a0, len0, cap0, rfl⟩ := okWide_slice Tryd.underlying22 (hval 0 22 v0 rfl rfl)
  have k0 := h0
  have lt0 : ∀ x ∈ p0, x.block < W.heap.size := by obtain ⟨m, hm⟩ := k0; exact DataW.trod_lt m _ _ _ hm
  obtain ⟨l0, e0, g0, hc0, hr0⟩ := open_slice_arg (opens_slice (B := 48) Tryd.underlying22 (by kernel_rfl) (by kernel_rfl) opensS35) h0 (weights_at hsz (j := 0) (t := 22) rfl rfl)
  subst e0
  obtain ⟨a1, rfl, rfl, rfl, g1⟩ := open_int Tryd.underlying3 (hval 1 3 v1 rfl rfl) h1
  clear hA0 hval0 hsz0 hsz
  refine (peepOwn_calls a0 cap0 l0 a1 W HLd hr0 hc0 g0 g1).mono ?_
  rintro e W' ⟨he, bel0⟩
  have bel : Below W.heap.size W W' := by first | exact bel0 | exact bel0.below
  subst he
  exact ⟨_, rfl, _, _, _, [], _, [], hW', trodAll_mk1 (shut_bool Tryd.underlying4 _), (trodAll_cons_mk (Below.trod laidOut (by kernel_rfl) (of_decide_eq_true (by kernel_rfl)) k0 bel lt0) (trodAll_cons_mk (shut_int Tryd.underlying3 g1) trodAll_mk0)), rfl, bel.frame _, fun h => by cases h⟩
theorem over : Rows.peepOwnRow.holds Tryd.pinned (OpenSpec.ofChange Rows.peepOwnSpec) :=
  OpenClaim.holds_of_wide 6 Tryd.f6 rfl rfl rfl rfl rfl rfl rfl ⟨rfl, rfl, rfl, rfl, rfl⟩ rfl rfl rfl rfl rfl (by kernel_rfl) Tryd.func6 (by kernel_rfl)
    (of_decide_eq_true (by kernel_rfl)) (by unfold Func.isWrapper; first | (rw [if_pos (by decide +kernel)]; kernel_rfl) | (rw [if_neg (by decide +kernel)]; exact ⟨rfl, rfl⟩))
    (fun os started H enc _ => lifted os started H enc)
theorem proved : Rows.PeepOwnSaid := over
#print axioms proved
end Go.Proofs.YtmbjogpphegoaaaDoor.peepOwn
namespace Go.Proofs.YtmbjogpphegoaaaDoor
/-- The row, under a short name, for the claim. -/
theorem peepOwn_holds : Rows.PeepOwnSaid := peepOwn.proved
open Go in
set_option maxRecDepth 100000 in
theorem peepOwn_card : Rows.PeepOwnCardSaid :=
  Claim7.holds_tied_plain_at .later [] [.data, .data] true (true, "b5d74b9a2129f700c4eb77761e8b3d2b3dafcdad6581b5d85fe570427022a1f9") false peepOwn_holds (fun _ h => by cases h) (by kernel_rfl) (fun _ h => by cases h) peepOwn_row_tie rfl ⟨rfl, rfl⟩ (by kernel_rfl) rfl
    (fun f fn hf hfn => by
      obtain rfl : f = 6 := Option.some.inj ((show Tryd.prog.funcNamed Rows.peepOwnRow.func = some 6 by kernel_rfl).symm.trans hf) |>.symm
      obtain rfl : fn = Tryd.f6 := (Option.some.inj (Tryd.func6.symm.trans hfn)).symm
      refine ⟨by kernel_rfl, fun j t ht => ?_⟩
      rw [Tryd.params6] at ht
      rcases j with _ | j
      · obtain rfl : t = 22 := by simpa using ht.symm
        exact (show Tryd.prog.wantsStandIn 22 = false by kernel_rfl)
      rcases j with _ | j
      · obtain rfl : t = 3 := by simpa using ht.symm
        exact (show Tryd.prog.wantsStandIn 3 = false by kernel_rfl)
      simp at ht)
    (by kernel_rfl)
#print axioms peepOwn_card
end Go.Proofs.YtmbjogpphegoaaaDoor
