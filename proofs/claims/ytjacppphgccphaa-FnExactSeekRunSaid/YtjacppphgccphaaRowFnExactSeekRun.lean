/-
  The given statement of the law FnExactSeekRun: for every input the law returns true, and each argument reads behind the call as it read before. Proved over the plain statement. No condition beyond the given ones.
-/
import Derived.Test.YtjacppphgccphaaRows
import Derived.Test.YtjacppphgccphaaMFnExactSeekRunx8
import Derived.Test.YtjacppphgccphaaPureFnExactSeekRun
import Derived.Test.YtjacppphgccphaaXOpen
import Derived.WalkKit
import Derived.ProofKit
import Derived.OpenShut
import Derived.ShutString
import Derived.ChangeOld
import Derived.Below
import Derived.SizedLaws
namespace Go.Proofs.Ytjacppphgccphaa.fnExactSeekRun
open Go.ChangeShapes Go.WideShapes Go.ChangeAt Go.RowKit Go.Proofs.YtjacppphgccphaaX Go.Proofs.Ytjacppphgccphaa.MFnExactSeekRun Go.Proofs.YtjacppphgccphaaW.PrintWords
open Go.ChangeMaps (open_string shut_string)
set_option linter.unusedVariables false
theorem own : ownKnob Try.prog.godebug = none := by kernel_rfl
theorem laidOut : laidOutB Try.prog = true := by kernel_rfl
set_option maxRecDepth 100000 in
theorem lifted (os : Os) (started : os.Started) (H : Type) (enc : TypeId × Value → H) :
    ReturnsInHanded {} Try.checked os 5 .any (Rows.fnExactSeekRunSpec.pre6 enc Try.prog Try.f5 Rows.fnExactSeekRunRow.domain false) (Rows.fnExactSeekRunSpec.post enc Try.prog Try.f5 false true false false) := by
  refine returnsInHanded_of_change_sized (C := Try.checked) own started (by kernel_rfl) Try.func5
    (ChangeSpec.witness6 (enc := enc) (C := Try.checked) false ⟨#[], #[.slice none 0 0, .string ByteArray.empty, .int .i64 0], []⟩ 8 (by kernel_rfl) (by kernel_rfl) (by kernel_rfl) (by kernel_rfl)) ?_
  intro W base args ds gs before hval0 hW hcnd hsz0 _
  have hsz : (DataW.weightsEach Try.prog (Try.f5.params.toList ++ Rows.fnExactSeekRunSpec.plain.varTypes Try.prog) (ds ++ gs)).all (· ≤ reachBytes) = true := hsz0
  have hval : ∀ (j : Nat) t v, Try.f5.params[j]? = some t → args[j]? = some v → Value.okWide Try.prog W .any base t v := hval0
  have hW' := hW
  obtain ⟨p, q, hA0, hV, rfl, hfz, hnd⟩ := hW
  have hA : DataW.TrodAll enc Try.prog W 0 (fun _ => true) true Try.f5.params.toList args.toList ds p := hA0
  rw [Try.params5] at hA hval hsz
  obtain ⟨v0, vs0, d0, ds0, p0, q0, hargs, rfl, rfl, h0, r0⟩ := trodAll_cons hA
  obtain ⟨v1, vs1, d1, ds1, p1, q1, rfl, rfl, rfl, h1, r1⟩ := trodAll_cons r0
  obtain ⟨v2, vs2, d2, ds2, p2, q2, rfl, rfl, rfl, h2, r2⟩ := trodAll_cons r1
  obtain ⟨rfl, rfl, rfl⟩ := trodAll_nil r2
  obtain rfl : args = #[v0, v1, v2] := by cases args; simp_all
  obtain ⟨rfl, rfl⟩ := trodVars_none hV
  have w0 := weights_at hsz 0 30 d0 rfl rfl
  have lt0 := places_lt h0
  obtain ⟨x0, e0, b0⟩ := opened (opens_slice (b := 48) Try.underlying30 (by kernel_rfl) (by kernel_rfl) (opens_struct (fun x : S23 => (x.f0, x.f1, x.f2, x.f3)) (fun x => (⟨x.1, x.2.1, x.2.2.1, x.2.2.2⟩ : S23)) (fun _ => rfl) Try.underlying23 (by kernel_rfl) (by kernel_rfl) (by kernel_rfl) (opensF_cons (opens_string Try.underlying9 (by kernel_rfl)) (opensF_cons (opens_int Try.underlying3 (by kernel_rfl)) (opensF_cons (opens_int Try.underlying3 (by kernel_rfl)) (opensF_one (opens_string Try.underlying9 (by kernel_rfl)))))))) h0 w0
  obtain ⟨a0, len0, cap0, rfl⟩ := okWide_slice Try.underlying30 (hval 0 30 v0 rfl rfl)
  obtain ⟨A0_0, c0_0, ee0, l0_0, g0_0⟩ := e0
  simp only [Value.cells, List.cons.injEq, Value.slice.injEq, and_true] at ee0
  obtain ⟨rfl, rfl, rfl⟩ := ee0
  have w1 := weights_at hsz 1 9 d1 rfl rfl
  have lt1 := places_lt h1
  obtain ⟨x1, e1, b1⟩ := opened (opens_string Try.underlying9 (by kernel_rfl)) h1 w1
  obtain ⟨a1, rfl⟩ := okWide_string Try.underlying9 (hval 1 9 v1 rfl rfl)
  obtain rfl : a1 = x1 := by simpa [Value.cells, Kd.int, Kd.bool, Kd.string, Kd.scalar] using e1
  have w2 := weights_at hsz 2 3 d2 rfl rfl
  have lt2 := places_lt h2
  obtain ⟨x2, e2, b2⟩ := opened (opens_int Try.underlying3 (by kernel_rfl)) h2 w2
  obtain ⟨a2, rfl⟩ := okWide_int Try.underlying3 (hval 2 3 v2 rfl rfl)
  obtain rfl : a2 = x2 := by simpa [Value.cells, Kd.int, Kd.bool, Kd.string, Kd.scalar] using e2
  clear hA0 hval0 hsz0 hsz
  obtain ⟨k, hk⟩ := Pure.FnExactSeekRun x0 a1 a2 b0 b1 b2
  refine (laws_FnExactSeekRun.calls k a0 cap0 x0 a1 a2 true W g0_0 l0_0 hk).mono fun e W' ⟨he, bel⟩ => ?_
  subst he
  exact ⟨_, rfl, _, _, _, [], _, [], hW', trodAll_mk1 (shut_bool Try.underlying4 _), (trodAll_cons_mk (Below.trod laidOut (by kernel_rfl) (of_decide_eq_true (by kernel_rfl)) h0 bel lt0) (trodAll_cons_mk (Below.trod laidOut (by kernel_rfl) (of_decide_eq_true (by kernel_rfl)) h1 bel lt1) (trodAll_cons_mk (Below.trod laidOut (by kernel_rfl) (of_decide_eq_true (by kernel_rfl)) h2 bel lt2) trodAll_mk0))), rfl, bel.frame _, fun h => by cases h⟩
theorem over : Rows.fnExactSeekRunRow.holds Try.pinned (OpenSpec.ofChange Rows.fnExactSeekRunSpec) :=
  OpenClaim.holds_of_wide 5 Try.f5 rfl rfl rfl rfl rfl rfl rfl ⟨rfl, rfl, rfl, rfl, rfl⟩ rfl rfl rfl rfl rfl (by kernel_rfl) Try.func5 (by kernel_rfl)
    (of_decide_eq_true (by kernel_rfl)) (by unfold Func.isWrapper; first | (rw [if_pos (by decide +kernel)]; kernel_rfl) | (rw [if_neg (by decide +kernel)]; exact ⟨rfl, rfl⟩))
    (fun os started H enc _ => lifted os started H enc)
theorem proved : Rows.FnExactSeekRunSaid := over
end Go.Proofs.Ytjacppphgccphaa.fnExactSeekRun
namespace Go.Proofs.Ytjacppphgccphaa
/-- The row, under a short name, for the claim. -/
theorem fnExactSeekRun_holds : Rows.FnExactSeekRunSaid := fnExactSeekRun.proved
end Go.Proofs.Ytjacppphgccphaa
