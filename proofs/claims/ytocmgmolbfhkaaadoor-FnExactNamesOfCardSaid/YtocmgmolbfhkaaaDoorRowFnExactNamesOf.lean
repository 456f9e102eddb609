/-
  The given statement of the law FnExactNamesOf: for every input the law returns true, and each argument reads behind the call as it read before. Proved over the plain statement. No condition beyond the given ones.
-/
import Derived.Test.YtocmgmolbfhkaaaDoorRows
import Derived.Test.YtocmgmolbfhkaaaDoorCards
import Derived.Test.YtocmgmolbfhkaaaDoorTie
import Derived.Test.YtocmgmolbfhkaaaDoorXDoor
import Derived.SevenTiedAt
import Derived.LaidMore
import Derived.Stop.Joined
import Derived.Test.YtocmgmolbfhkaaaDoorMFnExactNamesOfx11
import Derived.Test.YtocmgmolbfhkaaaDoorPureFnExactNamesOf
import Derived.Test.YtocmgmolbfhkaaaDoorVFnExactNamesOf
import Derived.WalkKit
import Derived.ProofKit
import Derived.OpenShut
import Derived.ShutString
import Derived.ChangeOld
import Derived.Below
import Derived.SizedLaws
namespace Go.Proofs.YtocmgmolbfhkaaaDoor.fnExactNamesOf
open Go.ChangeShapes Go.WideShapes Go.ChangeAt Go.RowKit Go.Proofs.YtocmgmolbfhkaaaDoorX Go.Proofs.YtocmgmolbfhkaaaDoor.MFnExactNamesOf Go.Proofs.YtocmgmolbfhkaaaDoorW.PrintWords
open Go.ChangeMaps (open_string shut_string)
set_option linter.unusedVariables false
theorem own : ownKnob Tryd.prog.godebug = none := by kernel_rfl
theorem laidOut : laidOutB Tryd.prog = true := by kernel_rfl
set_option maxRecDepth 100000 in
theorem lifted (os : Os) (started : os.Started) (H : Type) (enc : TypeId × Value → H) :
    ReturnsInHanded {} Tryd.checked os 7 .any (fun w args => (Rows.fnExactNamesOfSpec.pre enc Tryd.prog Tryd.f7 [] false w args ∧ laidMetH Tryd.prog laid3 w) ∧ sizedMet enc Tryd.prog Tryd.f7 (OpenSpec.ofChange Rows.fnExactNamesOfSpec) false w args) (Rows.fnExactNamesOfSpec.post enc Tryd.prog Tryd.f7 false true false false) := by
  refine returnsInHanded_of_change_and (C := Tryd.checked) (X := fun w _ => laidMetH Tryd.prog laid3 w) (fun _ _ _ hh h => h.of_heap hh) own started (by kernel_rfl) Tryd.func7
    (ChangeSpec.witness_shaped (enc := enc) (C := Tryd.checked) (os := os) (X := fun w _ => laidMetH Tryd.prog laid3 w) false (World.laidAll Tryd.prog os laid3) #[.agg #[.slice none 0 0, .slice none 0 0, .slice none 0 0, .int .i64 0]] 8 (World.laidAll_os _ _ _) (World.shaped_of_ZipB (by kernel_rfl) (by kernel_rfl)) (by kernel_rfl) (by kernel_rfl) (by kernel_rfl) (laid3_start os _)) ?_
  intro W base args ds gs before hval0 hW hcnd hsz0 hL _
  have hsz : (DataW.weightsEach Tryd.prog (Tryd.f7.params.toList ++ Rows.fnExactNamesOfSpec.plain.varTypes Tryd.prog) (ds ++ gs)).all (· ≤ reachBytes) = true := hsz0
  have hval : ∀ (j : Nat) t v, Tryd.f7.params[j]? = some t → args[j]? = some v → Value.okWide Tryd.prog W .any base t v := hval0
  have hW' := hW
  obtain ⟨p, q, hA0, hV, rfl, hfz, hnd⟩ := hW
  have hA : DataW.TrodAll enc Tryd.prog W 0 (fun _ => true) true Tryd.f7.params.toList args.toList ds p := hA0
  rw [Tryd.params7] at hA hval hsz
  obtain ⟨v0, vs0, d0, ds0, p0, q0, hargs, rfl, rfl, h0, r0⟩ := trodAll_cons hA
  obtain ⟨rfl, rfl, rfl⟩ := trodAll_nil r0
  obtain rfl : args = #[v0] := by cases args; simp_all
  obtain ⟨rfl, rfl⟩ := trodVars_none hV
  have w0 := weights_at hsz 0 25 d0 rfl rfl
  have lt0 := places_lt h0
  obtain ⟨x0, e0, b0⟩ := opened (opens_struct (fun x => x) (fun x => x) (fun _ => rfl) Tryd.underlying25 (by kernel_rfl) (by kernel_rfl) (by kernel_rfl) (opensF_cons (opens_slice (b := 24) Tryd.underlying22 (by kernel_rfl) (by kernel_rfl) (opens_struct (fun x : S69 => (x.f0, x.f1)) (fun x => (⟨x.1, x.2⟩ : S69)) (fun _ => rfl) Tryd.underlying69 (by kernel_rfl) (by kernel_rfl) (by kernel_rfl) (opensF_cons (opens_string Tryd.underlying9 (by kernel_rfl)) (opensF_one (opens_int Tryd.underlying3 (by kernel_rfl)))))) (opensF_cons (opens_slice (b := 24) Tryd.underlying23 (by kernel_rfl) (by kernel_rfl) (opens_struct (fun x : S71 => (x.f0, x.f1)) (fun x => (⟨x.1, x.2⟩ : S71)) (fun _ => rfl) Tryd.underlying71 (by kernel_rfl) (by kernel_rfl) (by kernel_rfl) (opensF_cons (opens_string Tryd.underlying9 (by kernel_rfl)) (opensF_one (opens_int Tryd.underlying3 (by kernel_rfl)))))) (opensF_cons (opens_slice (b := 24) Tryd.underlying23 (by kernel_rfl) (by kernel_rfl) (opens_struct (fun x : S71 => (x.f0, x.f1)) (fun x => (⟨x.1, x.2⟩ : S71)) (fun _ => rfl) Tryd.underlying71 (by kernel_rfl) (by kernel_rfl) (by kernel_rfl) (opensF_cons (opens_string Tryd.underlying9 (by kernel_rfl)) (opensF_one (opens_int Tryd.underlying3 (by kernel_rfl)))))) (opensF_one (opens_int Tryd.underlying3 (by kernel_rfl))))))) h0 w0
  obtain ⟨cs0, rfl, hs0⟩ := okWide_struct Tryd.underlying25 (hval 0 25 v0 rfl rfl)
  obtain ⟨cs0⟩ := cs0
  clear hs0
  obtain ⟨_, _, rfl, ⟨A0_0, c0_0, rfl, l0_0, g0_0⟩, ⟨_, _, rfl, ⟨A0_1, c0_1, rfl, l0_1, g0_1⟩, ⟨_, _, rfl, ⟨A0_2, c0_2, rfl, l0_2, g0_2⟩, rfl⟩⟩⟩ := e0
  clear hA0 hval0 hsz0 hsz
  obtain ⟨k, hk⟩ := Pure.FnExactNamesOf x0.1 x0.2.1 x0.2.2.1 x0.2.2.2 b0
  refine (laws_FnExactNamesOf.calls k A0_0 c0_0 x0.1 A0_1 c0_1 x0.2.1 A0_2 c0_2 x0.2.2.1 x0.2.2.2 true W g0_0 l0_0 g0_1 l0_1 g0_2 l0_2 hk).mono fun e W' ⟨he, bel⟩ => ?_
  subst he
  exact ⟨_, rfl, _, _, _, [], _, [], hW', trodAll_mk1 (shut_bool Tryd.underlying4 _), (trodAll_cons_mk (Below.trod laidOut (by kernel_rfl) (of_decide_eq_true (by kernel_rfl)) h0 bel lt0) trodAll_mk0), rfl, bel.frame _, fun h => by cases h⟩
theorem over : Rows.fnExactNamesOfRow.holds Tryd.pinned (OpenSpec.ofChange Rows.fnExactNamesOfSpec) :=
  OpenClaim.holds_of_wide 7 Tryd.f7 rfl rfl rfl rfl rfl rfl rfl ⟨rfl, rfl, rfl, rfl, rfl⟩ rfl rfl rfl rfl rfl (by kernel_rfl) Tryd.func7 (by kernel_rfl)
    (of_decide_eq_true (by kernel_rfl)) (by unfold Func.isWrapper; first | (rw [if_pos (by decide +kernel)]; kernel_rfl) | (rw [if_neg (by decide +kernel)]; exact ⟨rfl, rfl⟩))
    (fun os started H enc _ => lifted os started H enc)
theorem proved : Rows.FnExactNamesOfSaid := over
end Go.Proofs.YtocmgmolbfhkaaaDoor.fnExactNamesOf
namespace Go.Proofs.YtocmgmolbfhkaaaDoor
/-- The row, under a short name, for the claim. -/
theorem fnExactNamesOf_row_holds : Rows.FnExactNamesOfSaid := fnExactNamesOf.proved
theorem fnExactNamesOf_holds : Rows.FnExactNamesOfCardSaid :=
  Claim7.holds_tied_plain_at .later [] [.data, .pinned] true (true, "e63a8304bb26a0e1a3102e84b0feedb88bc141bbc36edbbe37f09789691169dc") false
    fnExactNamesOf_row_holds (fun _ h => by cases h) (by kernel_rfl) (fun _ h => by cases h) fnExactNamesOf_row_tie rfl ⟨rfl, rfl⟩ (by kernel_rfl) rfl
    (fun f fn hf hfn => by
      obtain rfl : f = 7 := Option.some.inj ((show Tryd.prog.funcNamed "loop.example/g00224/laws.FnExactNamesOf" = some 7 by kernel_rfl).symm.trans hf) |>.symm
      obtain rfl : fn = Tryd.f7 := (Option.some.inj (Tryd.func7.symm.trans hfn)).symm
      exact ⟨by kernel_rfl, fun j t ht => by
        rw [Tryd.params7] at ht
        have hm : t ∈ [25] := by simpa using Array.mem_of_getElem? ht
        have hall : ([25].all fun u => !Tryd.prog.wantsStandIn u) = true := by kernel_rfl
        exact (show Tryd.prog.wantsStandIn t = false by simpa using List.all_eq_true.1 hall t hm)⟩)
    (by kernel_rfl)
end Go.Proofs.YtocmgmolbfhkaaaDoor
