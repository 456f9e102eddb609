/-
  The given statement of the law FnExactMayHave: for every input the law returns true, and each argument reads behind the call as it read before. Proved over the plain statement. No condition beyond the given ones.
-/
import Derived.Test.YtmakajlkphopbaaRows
import Derived.Test.YtmakajlkphopbaaMFnExactMayHavex3
import Derived.Test.YtmakajlkphopbaaPureFnExactMayHave
import Derived.Test.YtmakajlkphopbaaXOpen
import Derived.WalkKit
import Derived.ProofKit
import Derived.OpenShut
import Derived.ShutString
import Derived.ChangeOld
import Derived.Below
import Derived.SizedLaws
namespace Go.Proofs.Ytmakajlkphopbaa.fnExactMayHave
open Go.ChangeShapes Go.WideShapes Go.ChangeAt Go.RowKit Go.Proofs.YtmakajlkphopbaaX Go.Proofs.Ytmakajlkphopbaa.MFnExactMayHave Go.Proofs.YtmakajlkphopbaaW.PrintWords
open Go.ChangeMaps (open_string shut_string)
set_option linter.unusedVariables false
theorem own : ownKnob Try.prog.godebug = none := by kernel_rfl
theorem laidOut : laidOutB Try.prog = true := by kernel_rfl
set_option maxRecDepth 100000 in
theorem lifted (os : Os) (started : os.Started) (H : Type) (enc : TypeId × Value → H) :
    ReturnsInHanded {} Try.checked os 6 .any (Rows.fnExactMayHaveSpec.pre6 enc Try.prog Try.f6 Rows.fnExactMayHaveRow.domain false) (Rows.fnExactMayHaveSpec.post enc Try.prog Try.f6 false true false false) := by
  refine returnsInHanded_of_change_sized (C := Try.checked) own started (by kernel_rfl) Try.func6
    (ChangeSpec.witness6 (enc := enc) (C := Try.checked) false ⟨#[], #[.agg #[.int .i64 0, .string ByteArray.empty, .int .i64 0], .string ByteArray.empty], []⟩ 8 (by kernel_rfl) (by kernel_rfl) (by kernel_rfl) (by kernel_rfl)) ?_
  intro W base args ds gs before hval0 hW hcnd hsz0 _
  have hsz : (DataW.weightsEach Try.prog (Try.f6.params.toList ++ Rows.fnExactMayHaveSpec.plain.varTypes Try.prog) (ds ++ gs)).all (· ≤ reachBytes) = true := hsz0
  have hval : ∀ (j : Nat) t v, Try.f6.params[j]? = some t → args[j]? = some v → Value.okWide Try.prog W .any base t v := hval0
  have hW' := hW
  obtain ⟨p, q, hA0, hV, rfl, hfz, hnd⟩ := hW
  have hA : DataW.TrodAll enc Try.prog W 0 (fun _ => true) true Try.f6.params.toList args.toList ds p := hA0
  rw [Try.params6] at hA hval hsz
  obtain ⟨v0, vs0, d0, ds0, p0, q0, hargs, rfl, rfl, h0, r0⟩ := trodAll_cons hA
  obtain ⟨v1, vs1, d1, ds1, p1, q1, rfl, rfl, rfl, h1, r1⟩ := trodAll_cons r0
  obtain ⟨rfl, rfl, rfl⟩ := trodAll_nil r1
  obtain rfl : args = #[v0, v1] := by cases args; simp_all
  obtain ⟨rfl, rfl⟩ := trodVars_none hV
  have w0 := weights_at hsz 0 23 d0 rfl rfl
  have lt0 := places_lt h0
  obtain ⟨x0, e0, b0⟩ := opened (opens_struct (fun x => x) (fun x => x) (fun _ => rfl) Try.underlying23 (by kernel_rfl) (by kernel_rfl) (by kernel_rfl) (opensF_cons (opens_int Try.underlying3 (by kernel_rfl)) (opensF_cons (opens_string Try.underlying9 (by kernel_rfl)) (opensF_one (opens_int Try.underlying3 (by kernel_rfl)))))) h0 w0
  obtain ⟨cs0, rfl, hs0⟩ := okWide_struct Try.underlying23 (hval 0 23 v0 rfl rfl)
  obtain ⟨cs0⟩ := cs0
  clear hs0
  obtain ⟨_, _, rfl, rfl, ⟨_, _, rfl, rfl, rfl⟩⟩ := e0
  have w1 := weights_at hsz 1 9 d1 rfl rfl
  have lt1 := places_lt h1
  obtain ⟨x1, e1, b1⟩ := opened (opens_string Try.underlying9 (by kernel_rfl)) h1 w1
  obtain ⟨a1, rfl⟩ := okWide_string Try.underlying9 (hval 1 9 v1 rfl rfl)
  obtain rfl : a1 = x1 := by simpa [Value.cells, Kd.int, Kd.bool, Kd.string, Kd.scalar] using e1
  clear hA0 hval0 hsz0 hsz
  obtain ⟨k, hk⟩ := Pure.FnExactMayHave x0.1 x0.2.1 x0.2.2 a1 b0 b1
  refine (laws_FnExactMayHave.calls k x0.1 x0.2.1 x0.2.2 a1 true W  hk).mono fun e W' ⟨he, bel⟩ => ?_
  subst he
  exact ⟨_, rfl, _, _, _, [], _, [], hW', trodAll_mk1 (shut_bool Try.underlying4 _), (trodAll_cons_mk (Below.trod laidOut (by kernel_rfl) (of_decide_eq_true (by kernel_rfl)) h0 bel lt0) (trodAll_cons_mk (Below.trod laidOut (by kernel_rfl) (of_decide_eq_true (by kernel_rfl)) h1 bel lt1) trodAll_mk0)), rfl, bel.frame _, fun h => by cases h⟩
theorem over : Rows.fnExactMayHaveRow.holds Try.pinned (OpenSpec.ofChange Rows.fnExactMayHaveSpec) :=
  OpenClaim.holds_of_wide 6 Try.f6 rfl rfl rfl rfl rfl rfl rfl ⟨rfl, rfl, rfl, rfl, rfl⟩ rfl rfl rfl rfl rfl (by kernel_rfl) Try.func6 (by kernel_rfl)
    (of_decide_eq_true (by kernel_rfl)) (by unfold Func.isWrapper; first | (rw [if_pos (by decide +kernel)]; kernel_rfl) | (rw [if_neg (by decide +kernel)]; exact ⟨rfl, rfl⟩))
    (fun os started H enc _ => lifted os started H enc)
theorem proved : Rows.FnExactMayHaveSaid := over
end Go.Proofs.Ytmakajlkphopbaa.fnExactMayHave
namespace Go.Proofs.Ytmakajlkphopbaa
/-- The row, under a short name, for the claim. -/
theorem fnExactMayHave_holds : Rows.FnExactMayHaveSaid := fnExactMayHave.proved
end Go.Proofs.Ytmakajlkphopbaa
