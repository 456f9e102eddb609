/-
  The given statement of the law FnExactFindSkip: for every input the law returns true,and each argument reads behind the call as it read before. Proved over the plain statement. No condition beyond the given ones.
-/
import Derived.Test.YtffjlpphcjfdgaaDoorRows
import Derived.Test.YtffjlpphcjfdgaaDoorCards
import Derived.Test.YtffjlpphcjfdgaaDoorTie
import Derived.Test.YtffjlpphcjfdgaaDoorXDoor
import Derived.SevenTiedAt
import Derived.LaidMore
import Derived.Stop.Joined
import Derived.Test.YtffjlpphcjfdgaaDoorMFnExactFindSkipx13
import Derived.Test.YtffjlpphcjfdgaaDoorPureFnExactFindSkip
import Derived.Test.YtffjlpphcjfdgaaDoorVFnExactFindSkip
import Derived.WalkKit
import Derived.ProofKit
import Derived.OpenShut
import Derived.ShutString
import Derived.ChangeOld
import Derived.Below
import Derived.SizedLaws
namespace Go.Proofs.YtffjlpphcjfdgaaDoor.fnExactFindSkip
-- short
open Go.ChangeShapes Go.WideShapes Go.ChangeAt Go.RowKit Go.Proofs.YtffjlpphcjfdgaaDoorX Go.Proofs.YtffjlpphcjfdgaaDoor.MFnExactFindSkip Go.Proofs.YtffjlpphcjfdgaaDoorW.PrintWords
open Go.ChangeMaps (open_string shut_string)
set_option linter.unusedVariables false
theorem own:ownKnob Tryd.prog.godebug=none:=by kernel_rfl
theorem laidOut:laidOutB Tryd.prog=true:=by kernel_rfl
set_option maxRecDepth 100000 in
theorem lifted (os:Os) (started:os.Started) (H:Type) (enc:TypeId × Value→H) :
    ReturnsInHanded {} Tryd.checked os 10 .any (fun w args=>(Rows.fnExactFindSkipSpec.pre enc Tryd.prog Tryd.f10 [] false w args∧laidMetH Tryd.prog laid3 w)∧sizedMet enc Tryd.prog Tryd.f10 (OpenSpec.ofChange Rows.fnExactFindSkipSpec) false w args) (Rows.fnExactFindSkipSpec.post enc Tryd.prog Tryd.f10 false true false false):=by
  refine returnsInHanded_of_change_and (C:=Tryd.checked) (X:=fun w _=>laidMetH Tryd.prog laid3 w) (fun _ _ _ hh h=>h.of_heap hh) own started (by kernel_rfl) Tryd.func10
    (ChangeSpec.witness_shaped (enc:=enc) (C:=Tryd.checked) (os:=os) (X:=fun w _=>laidMetH Tryd.prog laid3 w) false (World.doorLaid Tryd.prog 400 os) #[.agg #[.slice none 0 0,.slice none 0 0],.string ByteArray.empty,.int .i64 0] 8 rfl (World.shaped_of_RefB (by kernel_rfl) (by kernel_rfl)) (by kernel_rfl) (by kernel_rfl) (by kernel_rfl) (door_met os _)) ?_
  intro W base args ds gs before hval0 hW hcnd hsz0 hL _
  have hTab:=tab_of hL
  have hsz:(DataW.weightsEach Tryd.prog (Tryd.f10.params.toList ++ Rows.fnExactFindSkipSpec.plain.varTypes Tryd.prog) (ds ++ gs)).all (· ≤ reachBytes)=true:=hsz0
  have hval:∀ (j:Nat) t v,Tryd.f10.params[j]? = some t→args[j]? = some v→Value.okWide Tryd.prog W .any base t v:=hval0
  have hW':=hW
  obtain ⟨p,q,hA0,hV,rfl,hfz,hnd⟩:=hW
  have hA:DataW.TrodAll enc Tryd.prog W 0 (fun _=>true) true Tryd.f10.params.toList args.toList ds p:=hA0
  rw [Tryd.params10] at hA hval hsz
  obtain ⟨v0,vs0,d0,ds0,p0,q0,hargs,rfl,rfl,h0,r0⟩:=trodAll_cons hA
  obtain ⟨v1,vs1,d1,ds1,p1,q1,rfl,rfl,rfl,h1,r1⟩:=trodAll_cons r0
  obtain ⟨v2,vs2,d2,ds2,p2,q2,rfl,rfl,rfl,h2,r2⟩:=trodAll_cons r1
  obtain ⟨rfl,rfl,rfl⟩:=trodAll_nil r2
  obtain rfl:args=#[v0,v1,v2]:=by cases args;simp_all
  obtain ⟨rfl,rfl⟩:=trodVars_none hV
  have w0:=weights_at hsz 0 43 d0 rfl rfl
  have lt0:=places_lt h0
  obtain ⟨x0,e0,b0⟩:=opened (opens_struct (fun x=>x) (fun x=>x) (fun _=>rfl) Tryd.underlying43 (by kernel_rfl) (by kernel_rfl) (by kernel_rfl) (opensF_cons (opens_slice (b:=8) Tryd.underlying23 (by kernel_rfl) (by kernel_rfl) (opens_int Tryd.underlying3 (by kernel_rfl))) (opensF_one (opens_slice (b:=72) Tryd.underlying41 (by kernel_rfl) (by kernel_rfl) (opens_struct (fun x:S113=>(x.f0,x.f1)) (fun x=>(⟨x.1,x.2⟩:S113)) (fun _=>rfl) Tryd.underlying113 (by kernel_rfl) (by kernel_rfl) (by kernel_rfl) (opensF_cons (opens_struct (fun x:S51=>(x.f0,x.f1,x.f2,x.f3)) (fun x=>(⟨x.1,x.2.1,x.2.2.1,x.2.2.2⟩:S51)) (fun _=>rfl) Tryd.underlying51 (by kernel_rfl) (by kernel_rfl) (by kernel_rfl) (opensF_cons (opens_string Tryd.underlying9 (by kernel_rfl)) (opensF_cons (opens_int Tryd.underlying3 (by kernel_rfl)) (opensF_cons (opens_int Tryd.underlying3 (by kernel_rfl)) (opensF_one (opens_string Tryd.underlying9 (by kernel_rfl))))))) (opensF_one (opens_slice (b:=8) Tryd.underlying23 (by kernel_rfl) (by kernel_rfl) (opens_int Tryd.underlying3 (by kernel_rfl)))))))))) h0 w0
  obtain ⟨cs0,rfl,hs0⟩:=okWide_struct Tryd.underlying43 (hval 0 43 v0 rfl rfl)
  obtain ⟨cs0⟩:=cs0
  clear hs0
  obtain ⟨_,_,rfl,⟨A0_0,c0_0,rfl,l0_0,g0_0⟩,⟨A0_1,c0_1,rfl,l0_1,g0_1⟩⟩:=e0
  have w1:=weights_at hsz 1 9 d1 rfl rfl
  have lt1:=places_lt h1
  obtain ⟨x1,e1,b1⟩:=opened (opens_string Tryd.underlying9 (by kernel_rfl)) h1 w1
  obtain ⟨a1,rfl⟩:=okWide_string Tryd.underlying9 (hval 1 9 v1 rfl rfl)
  obtain rfl:a1=x1:=by simpa [Value.cells,Kd.int,Kd.bool,Kd.string,Kd.scalar] using e1
  have w2:=weights_at hsz 2 3 d2 rfl rfl
  have lt2:=places_lt h2
  obtain ⟨x2,e2,b2⟩:=opened (opens_int Tryd.underlying3 (by kernel_rfl)) h2 w2
  obtain ⟨a2,rfl⟩:=okWide_int Tryd.underlying3 (hval 2 3 v2 rfl rfl)
  obtain rfl:a2=x2:=by simpa [Value.cells,Kd.int,Kd.bool,Kd.string,Kd.scalar] using e2
  clear hA0 hval0 hsz0 hsz
  obtain ⟨k,hk⟩:=Pure.FnExactFindSkip x0.1 x0.2 a1 a2 b0 b1 b2
  refine (laws_FnExactFindSkip.calls k A0_0 c0_0 x0.1 A0_1 c0_1 x0.2 a1 a2 true W g0_0 l0_0 g0_1 l0_1 hTab hk).mono fun e W' ⟨he,bel⟩=>?_
  subst he
  exact ⟨_,rfl,_,_,_,[],_,[],hW',trodAll_mk1 (shut_bool Tryd.underlying4 _),(trodAll_cons_mk (Below.trod laidOut (by kernel_rfl) (zD (by kernel_rfl)) h0 bel lt0) (trodAll_cons_mk (Below.trod laidOut (by kernel_rfl) (zD (by kernel_rfl)) h1 bel lt1) (trodAll_cons_mk (Below.trod laidOut (by kernel_rfl) (zD (by kernel_rfl)) h2 bel lt2) trodAll_mk0))),rfl,bel.frame _,fun h=>by cases h⟩
theorem over:Rows.fnExactFindSkipRow.holds Tryd.pinned (OpenSpec.ofChange Rows.fnExactFindSkipSpec) :=
  OpenClaim.holds_of_wide 10 Tryd.f10 rfl rfl rfl rfl rfl rfl rfl ⟨rfl,rfl,rfl,rfl,rfl⟩ rfl rfl rfl rfl rfl (by kernel_rfl) Tryd.func10 (by kernel_rfl)
    (zD (by kernel_rfl)) (by unfold Func.isWrapper;first|(rw [if_pos (by decide +kernel)];kernel_rfl)|(rw [if_neg (by decide +kernel)];exact ⟨rfl,rfl⟩))
    (fun os started H enc _=>lifted os started H enc)
theorem proved:Rows.FnExactFindSkipSaid:=over
end Go.Proofs.YtffjlpphcjfdgaaDoor.fnExactFindSkip
namespace Go.Proofs.YtffjlpphcjfdgaaDoor
/-- The row, under a short name, for the claim. -/
theorem fnExactFindSkip_row_holds:Rows.FnExactFindSkipSaid:=fnExactFindSkip.proved
theorem fnExactFindSkip_holds:Rows.FnExactFindSkipCardSaid :=
  Claim7.holds_tied_plain_at .later [] [.data,.data,.data] true (true,"7d6cd63ce808396fb59dbcf1e6d6c9e3711256b8ae7cdf7b3148e993683f5560") false
    fnExactFindSkip_row_holds (fun _ h=>by cases h) (by kernel_rfl) (fun _ h=>by cases h) fnExactFindSkip_row_tie rfl ⟨rfl,rfl⟩ (by kernel_rfl) rfl
    (fun f fn hf hfn=>by
      obtain rfl:f=10:=zI ((show Tryd.prog.funcNamed "loop.example/g00224/laws.FnExactFindSkip" = some 10 by kernel_rfl).symm.trans hf) |>.symm
      obtain rfl:fn=Tryd.f10:=(zI (Tryd.func10.symm.trans hfn)).symm
      exact ⟨by kernel_rfl,fun j t ht=>by
        rw [Tryd.params10] at ht
        have hm:t ∈ [43,9,3]:=by simpa using Array.mem_of_getElem? ht
        have hall:([43,9,3].all fun u => !Tryd.prog.wantsStandIn u)=true:=by kernel_rfl
        exact (show Tryd.prog.wantsStandIn t=false by simpa using List.all_eq_true.1 hall t hm)⟩)
    (by kernel_rfl)
end Go.Proofs.YtffjlpphcjfdgaaDoor
