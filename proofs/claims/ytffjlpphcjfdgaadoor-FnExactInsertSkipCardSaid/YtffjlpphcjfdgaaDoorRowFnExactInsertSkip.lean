/-
  The given statement of the law FnExactInsertSkip: for every input the law returns true,and each argument reads behind the call as it read before. Proved over the plain statement. No condition beyond the given ones.
-/
import Derived.Test.YtffjlpphcjfdgaaDoorRows
import Derived.Test.YtffjlpphcjfdgaaDoorCards
import Derived.Test.YtffjlpphcjfdgaaDoorTie
import Derived.Test.YtffjlpphcjfdgaaDoorXDoor
import Derived.SevenTiedAt
import Derived.LaidMore
import Derived.Stop.Joined
import Derived.Test.YtffjlpphcjfdgaaDoorMFnExactInsertSkipx20
import Derived.Test.YtffjlpphcjfdgaaDoorPureFnExactInsertSkip
import Derived.Test.YtffjlpphcjfdgaaDoorVFnExactInsertSkip
import Derived.WalkKit
import Derived.ProofKit
import Derived.OpenShut
import Derived.ShutString
import Derived.ChangeOld
import Derived.Below
import Derived.SizedLaws
namespace Go.Proofs.YtffjlpphcjfdgaaDoor.fnExactInsertSkip
-- joined
-- short
open Go.ChangeShapes Go.WideShapes Go.ChangeAt Go.RowKit Go.Proofs.YtffjlpphcjfdgaaDoorX Go.Proofs.YtffjlpphcjfdgaaDoor.MFnExactInsertSkip Go.Proofs.YtffjlpphcjfdgaaDoorW.PrintWords
open Go.ChangeMaps (open_string shut_string)
set_option linter.unusedVariables false
theorem own:ownKnob Tryd.prog.godebug=none:=by kernel_rfl
theorem laidOut:laidOutB Tryd.prog=true:=by kernel_rfl
set_option maxRecDepth 100000 in
theorem lifted (os:Os) (started:os.Started) (H:Type) (enc:TypeId × Value→H) :
    ReturnsInHanded {} Tryd.checked os 5 .any (fun w args=>(Rows.fnExactInsertSkipSpec.pre enc Tryd.prog Tryd.f5 [] false w args∧laidMetH Tryd.prog laid3 w)∧sizedMet enc Tryd.prog Tryd.f5 (OpenSpec.ofChange Rows.fnExactInsertSkipSpec) false w args) (Rows.fnExactInsertSkipSpec.post enc Tryd.prog Tryd.f5 false true false false):=by
  refine returnsInHanded_of_change_and (C:=Tryd.checked) (X:=fun w _=>laidMetH Tryd.prog laid3 w) (fun _ _ _ hh h=>h.of_heap hh) own started (by kernel_rfl) Tryd.func5
    (ChangeSpec.witness_shaped (enc:=enc) (C:=Tryd.checked) (os:=os) (X:=fun w _=>laidMetH Tryd.prog laid3 w) false (World.doorLaid Tryd.prog 400 os) #[.agg #[.slice none 0 0,.slice none 0 0],.agg #[.string ByteArray.empty,.int .i64 0,.int .i64 0,.string ByteArray.empty]] 8 rfl (World.shaped_of_RefB (by kernel_rfl) (by kernel_rfl)) (by kernel_rfl) (by kernel_rfl) (by kernel_rfl) (door_met os _)) ?_
  intro W base args ds gs before hval0 hW hcnd hsz0 hL _;have hTab:=tab_of hL;have hsz:(DataW.weightsEach Tryd.prog (Tryd.f5.params.toList ++ Rows.fnExactInsertSkipSpec.plain.varTypes Tryd.prog) (ds ++ gs)).all (· ≤ reachBytes)=true:=hsz0;have hval:∀ (j:Nat) t v,Tryd.f5.params[j]? = some t→args[j]? = some v→Value.okWide Tryd.prog W .any base t v:=hval0;have hW':=hW;obtain ⟨p,q,hA0,hV,rfl,hfz,hnd⟩:=hW;have hA:DataW.TrodAll enc Tryd.prog W 0 (fun _=>true) true Tryd.f5.params.toList args.toList ds p:=hA0;rw [Tryd.params5] at hA hval hsz;obtain ⟨v0,vs0,d0,ds0,p0,q0,hargs,rfl,rfl,h0,r0⟩:=trodAll_cons hA;obtain ⟨v1,vs1,d1,ds1,p1,q1,rfl,rfl,rfl,h1,r1⟩:=trodAll_cons r0;obtain ⟨rfl,rfl,rfl⟩:=trodAll_nil r1;obtain rfl:args=#[v0,v1]:=by cases args;simp_all
  obtain ⟨rfl,rfl⟩:=trodVars_none hV;have w0:=weights_at hsz 0 43 d0 rfl rfl;have lt0:=places_lt h0;obtain ⟨x0,e0,b0⟩:=opened (opens_struct (fun x=>x) (fun x=>x) (fun _=>rfl) Tryd.underlying43 (by kernel_rfl) (by kernel_rfl) (by kernel_rfl) (opensF_cons (opens_slice (b:=8) Tryd.underlying23 (by kernel_rfl) (by kernel_rfl) (opens_int Tryd.underlying3 (by kernel_rfl))) (opensF_one (opens_slice (b:=72) Tryd.underlying41 (by kernel_rfl) (by kernel_rfl) (opens_struct (fun x:S113=>(x.f0,x.f1)) (fun x=>(⟨x.1,x.2⟩:S113)) (fun _=>rfl) Tryd.underlying113 (by kernel_rfl) (by kernel_rfl) (by kernel_rfl) (opensF_cons (opens_struct (fun x:S51=>(x.f0,x.f1,x.f2,x.f3)) (fun x=>(⟨x.1,x.2.1,x.2.2.1,x.2.2.2⟩:S51)) (fun _=>rfl) Tryd.underlying51 (by kernel_rfl) (by kernel_rfl) (by kernel_rfl) (opensF_cons (opens_string Tryd.underlying9 (by kernel_rfl)) (opensF_cons (opens_int Tryd.underlying3 (by kernel_rfl)) (opensF_cons (opens_int Tryd.underlying3 (by kernel_rfl)) (opensF_one (opens_string Tryd.underlying9 (by kernel_rfl))))))) (opensF_one (opens_slice (b:=8) Tryd.underlying23 (by kernel_rfl) (by kernel_rfl) (opens_int Tryd.underlying3 (by kernel_rfl)))))))))) h0 w0;obtain ⟨cs0,rfl,hs0⟩:=okWide_struct Tryd.underlying43 (hval 0 43 v0 rfl rfl);obtain ⟨cs0⟩:=cs0;clear hs0;obtain ⟨_,_,rfl,⟨A0_0,c0_0,rfl,l0_0,g0_0⟩,⟨A0_1,c0_1,rfl,l0_1,g0_1⟩⟩:=e0;have w1:=weights_at hsz 1 51 d1 rfl rfl;have lt1:=places_lt h1;obtain ⟨x1,e1,b1⟩:=opened (opens_struct (fun x:S51=>(x.f0,x.f1,x.f2,x.f3)) (fun x=>(⟨x.1,x.2.1,x.2.2.1,x.2.2.2⟩:S51)) (fun _=>rfl) Tryd.underlying51 (by kernel_rfl) (by kernel_rfl) (by kernel_rfl) (opensF_cons (opens_string Tryd.underlying9 (by kernel_rfl)) (opensF_cons (opens_int Tryd.underlying3 (by kernel_rfl)) (opensF_cons (opens_int Tryd.underlying3 (by kernel_rfl)) (opensF_one (opens_string Tryd.underlying9 (by kernel_rfl))))))) h1 w1;obtain ⟨cs1,rfl,hs1⟩:=okWide_struct Tryd.underlying51 (hval 1 51 v1 rfl rfl);obtain ⟨cs1⟩:=cs1;clear hs1;obtain ⟨_,_,rfl,rfl,⟨_,_,rfl,rfl,⟨_,_,rfl,rfl,rfl⟩⟩⟩:=e1;clear hA0 hval0 hsz0 hsz;obtain ⟨k,hk⟩:=Pure.FnExactInsertSkip x0.1 x0.2 x1.f0 x1.f1 x1.f2 x1.f3 b0 b1;refine (laws_FnExactInsertSkip.calls k A0_0 c0_0 x0.1 A0_1 c0_1 x0.2 x1.f0 x1.f1 x1.f2 x1.f3 true W g0_0 l0_0 g0_1 l0_1 hTab hk).mono fun e W' ⟨he,bel⟩=>?_;subst he;exact ⟨_,rfl,_,_,_,[],_,[],hW',trodAll_mk1 (shut_bool Tryd.underlying4 _),(trodAll_cons_mk (Below.trod laidOut (by kernel_rfl) (zD (by kernel_rfl)) h0 bel lt0) (trodAll_cons_mk (Below.trod laidOut (by kernel_rfl) (zD (by kernel_rfl)) h1 bel lt1) trodAll_mk0)),rfl,bel.frame _,fun h=>by cases h⟩
theorem over:Rows.fnExactInsertSkipRow.holds Tryd.pinned (OpenSpec.ofChange Rows.fnExactInsertSkipSpec) :=
  OpenClaim.holds_of_wide 5 Tryd.f5 rfl rfl rfl rfl rfl rfl rfl ⟨rfl,rfl,rfl,rfl,rfl⟩ rfl rfl rfl rfl rfl (by kernel_rfl) Tryd.func5 (by kernel_rfl)
    (zD (by kernel_rfl)) (by unfold Func.isWrapper;first|(rw [if_pos (by decide +kernel)];kernel_rfl)|(rw [if_neg (by decide +kernel)];exact ⟨rfl,rfl⟩))
    (fun os started H enc _=>lifted os started H enc)
theorem proved:Rows.FnExactInsertSkipSaid:=over
end Go.Proofs.YtffjlpphcjfdgaaDoor.fnExactInsertSkip
namespace Go.Proofs.YtffjlpphcjfdgaaDoor
/-- The row, under a short name, for the claim. -/
theorem fnExactInsertSkip_row_holds:Rows.FnExactInsertSkipSaid:=fnExactInsertSkip.proved
theorem fnExactInsertSkip_holds:Rows.FnExactInsertSkipCardSaid :=
  Claim7.holds_tied_plain_at .later [] [.data,.data,.data] true (true,"7d6cd63ce808396fb59dbcf1e6d6c9e3711256b8ae7cdf7b3148e993683f5560") false
    fnExactInsertSkip_row_holds (fun _ h=>by cases h) (by kernel_rfl) (fun _ h=>by cases h) fnExactInsertSkip_row_tie rfl ⟨rfl,rfl⟩ (by kernel_rfl) rfl
    (fun f fn hf hfn=>by
      obtain rfl:f=5:=zI ((show Tryd.prog.funcNamed "loop.example/g00224/laws.FnExactInsertSkip" = some 5 by kernel_rfl).symm.trans hf) |>.symm
      obtain rfl:fn=Tryd.f5:=(zI (Tryd.func5.symm.trans hfn)).symm
      exact ⟨by kernel_rfl,fun j t ht=>by
        rw [Tryd.params5] at ht;have hm:t ∈ [43,51]:=by simpa using Array.mem_of_getElem? ht
        have hall:([43,51].all fun u => !Tryd.prog.wantsStandIn u)=true:=by kernel_rfl
        exact (show Tryd.prog.wantsStandIn t=false by simpa using List.all_eq_true.1 hall t hm)⟩)
    (by kernel_rfl)
end Go.Proofs.YtffjlpphcjfdgaaDoor
