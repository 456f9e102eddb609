-- Written by a program of this session out of the translation. Not trusted: Lean checks it.
import Derived.Test.YtffjlpphcjfdgaaDoorMFnExactListSkipx0
import Derived.Test.YtffjlpphcjfdgaaDoorMFnExactListSkipx1
import Derived.Test.YtffjlpphcjfdgaaDoorMFnExactListSkipx4
namespace Go.Proofs.YtffjlpphcjfdgaaDoor.MFnExactListSkip
-- short
-- shrunk
-- TAB
-- RD
open Go.Proofs.YtffjlpphcjfdgaaDoor Go.RowKit Go.Proofs.YtffjlpphcjfdgaaDoorW.PrintWords Go.Proofs.YtffjlpphcjfdgaaDoorW.PrintLast Go.Proofs.YtffjlpphcjfdgaaDoorW.PrintMore Go.Proofs.YtffjlpphcjfdgaaDoorX
attribute [local go_sem] max2_int min2_int max_two min_two max_three min_three max_four min_four str_gtr str_leq str_geq cell_twice
set_option linter.unusedVariables false
set_option linter.unusedSimpArgs false
/-! ### impl_Skip_list: function 51 -/
def impl_Skip_list.l0:Nat→Int→List (S28)→Int→List Int→List (S77)→Option ((List (S28)))
  |0,_,_,_,_,_=>none
  |k + 1,x1,x5,x6,x1000,x1001=>if x6=(-1) then (some x5) else (if 0≤x6 then (if x6 < (x1001.length:Int) then (if x5.length < 2932031007402 then ((impl_Skip_next.f x1000 x1001 x6 x1).bind fun t159=>(impl_Skip_list.l0 k x1 (x5 ++ [(⟨(rd_T77 x1001 x6).f0.f0,(rd_T77 x1001 x6).f0.f1,(rd_T77 x1001 x6).f0.f2,(rd_T77 x1001 x6).f0.f3⟩:S28)]) t159 x1000 x1001)) else (none)) else (none)) else (none))
def impl_Skip_list.f (k:Nat) (s0_0:List Int) (s0_1:List (S77)) (a1:Int):Option ((List (S28))):=(impl_Skip_next.f s0_0 s0_1 (-1) a1).bind fun t154=>(impl_Skip_list.l0 k a1 (([]:List (S28))) t154 s0_0 s0_1)
theorem impl_Skip_list.mono_l:∀ k,(∀ y0 y1 y2 y3 y4,LeO (impl_Skip_list.l0 k y0 y1 y2 y3 y4) (impl_Skip_list.l0 (k + 1) y0 y1 y2 y3 y4))
  |0=>fun _ _ _ _ _ r h=>by simp [impl_Skip_list.l0] at h
  |k + 1=>by
    have ih0:=impl_Skip_list.mono_l k
    · intro y0 y1 y2 y3 y4
      unfold impl_Skip_list.l0
      repeat' first
      |(with_reducible exact ih0 _ _ _ _ _)
      |(with_reducible exact LeO.refl _)
      |(with_reducible exact LeO.none _)
      |(with_reducible refine LeO.ite ?_ ?_)
      |(with_reducible refine LeO.bind ?_ (fun _=>?_))
      |exact ih0 _ _ _ _ _
      |exact LeO.none _
      |refine LeO.ite ?_ ?_
      |refine LeO.bind ?_ (fun _=>?_)
theorem impl_Skip_list.mono:∀ a0 a1 a2 k,LeO (impl_Skip_list.f k a0 a1 a2) (impl_Skip_list.f (k + 1) a0 a1 a2):=by
  intro a0 a1 a2 k
  have ih0:=impl_Skip_list.mono_l k
  unfold impl_Skip_list.f
  repeat' first
      |(with_reducible exact ih0 _ _ _ _ _)
      |(with_reducible exact LeO.refl _)
      |(with_reducible exact LeO.none _)
      |(with_reducible refine LeO.ite ?_ ?_)
      |(with_reducible refine LeO.bind ?_ (fun _=>?_))
      |exact ih0 _ _ _ _ _
      |exact LeO.none _
      |refine LeO.ite ?_ ?_
      |refine LeO.bind ?_ (fun _=>?_)
set_option maxHeartbeats 8000000 in
set_option maxRecDepth 100000 in
theorem impl_Skip_list.calls (k:Nat) (g:Nat) (s0_0:List Int) (s0_1:List (S77)) (a1:Int) (r:List (S28)) (w0 w:World) (hI:IsS26 w0 w g s0_0 s0_1) (hB:Below w0.heap.size w0 w) (h:impl_Skip_list.f k s0_0 s0_1 a1=some r) :
    Calls Tryd.prog 51 #[.pointer (some ⟨g,0,none⟩),.int .i64 a1] w fun e w' => ∃ v0_:Value,e = .returned (v0_)∧Kd.R k28 28 w' w.heap.size (fun _=>True) v0_ r∧IsS26 w0 w' g s0_0 s0_1∧Below w0.heap.size w0 w'∧KeepF w w' g none:=by
 have hu28:=Tryd.underlying28
 have HI0:=AsZ.mk hI
 obtain ⟨A0q_,c0q_,A1q_,c1q_,HGq_,_⟩:=hI
 have HGq:=AsZ.mk HGq_
 clear HGq_
 have HK:=AsZ.mk (KeepF.refl w g none)
 have HL:=AsZ.mk hB.size
 have HW0:=AsZ.mk hB.size
 have HB:=AsZ.mk hB
 clear hB
 have H:((impl_Skip_next.f s0_0 s0_1 (-1) a1).bind fun t154=>(impl_Skip_list.l0 k a1 (([]:List (S28))) t154 s0_0 s0_1))=some r:=h
 clear h
 obtain ⟨y151,hy151⟩:∃ y_:List (S28),y_=(([]:List (S28))):=⟨_,rfl⟩
 replace H:((impl_Skip_next.f s0_0 s0_1 (-1) a1).bind fun t154=>(impl_Skip_list.l0 k a1 y151 t154 s0_0 s0_1))=some r:=by first|(rw [hy151];with_reducible exact H)|(have H2_:=(Option.bind_some _ _).symm.trans H;rw [hy151];with_reducible exact H2_)|(have H2_:=(Option.bind_some _ _).symm.trans H;with_reducible exact H2_)|with_reducible exact H|(rw [hy151];exact H)|exact H
 have Ny151:=AsZ.mk hy151
 clear hy151
 replace H:=Option.bind_eq_some_iff.mp H
 obtain ⟨t154,A30,H⟩:=H
 replace H:(impl_Skip_list.l0 k a1 y151 t154 s0_0 s0_1)=some r:=H
 have A3:=AsZ.mk A30
 clear A30
 have H':=AsZ.mk H
 clear H
 go_enter Tryd.func51,Tryd.ntmps51
 go_wp2_with (first|((with_reducible refine gate_dst (N:=7) rfl ?_);refine Kd.R_lit k28 _ 28 ?hg (N:=7) ?hd (xs:=([]:List (S28))) (inner:=[]) (ok:=fun _=>True) (okp:=fun _=>True) ?hr ?hp (fun _ hk=>hk) trivial (Below.refl _ _) (Nat.le_refl _) (by simp) ?_;(case hd=>rfl);(case hg=>rfl);(case hr=>first|(go_simp;done)|(go_simp;rfl));(case hp=>exact (Reps.none _ _));intro v152 w4 ho5 hb hg_ hnew_;clear hg_ hnew_;(first|rw [← Ny151.out] at ho5|(simp only [Int.reduceToNat] at ho5;rw [← Ny151.out] at ho5));have n0_:=AsZ.mk (Kd.R_lower ho5 (keep_size (w:=w) (g:=g) (row:=none) (by repeat (first|(with_reducible first|exact HK.out|apply KeepF.keep|apply KeepF.drewN|apply KeepF.drew|apply KeepF.alloc)|exact HK.out))));have n1_:=AsZ.mk (IsS26.below (by repeat (first|(with_reducible first|exact HI0.out|apply IsS26.alloc|apply IsS26.drewN|apply IsS26.drew)|exact HI0.out)) hb);have n2_:=AsZ.mk (KeepF.trans (by repeat (first|(with_reducible first|exact HK.out|apply KeepF.keep|apply KeepF.drewN|apply KeepF.drew|apply KeepF.alloc)|exact HK.out)) (KeepF.of_below hb g none) (.inl rfl));have n3_:=AsZ.mk (bwp (by repeat (first|(with_reducible first|exact HB.out|apply bwa|apply pbN|apply bw1|refine bws ?_ (IsS26.ge HI0.out))|exact HB.out)) hb);clear HI0;clear HK;clear HB;have HO153:=n0_;have HI0:=n1_;have HK:=n2_;have HB:=n3_;clear n0_ n1_ n2_ n3_;clear hb ho5)|((with_reducible refine gcl (f:=41) rfl ?_);refine goesL_ (some 10) rfl rfl Tryd.func41 (by kernel_rfl) rfl #[.pointer (some ⟨g,0,none⟩),.int .i64 (-1),.int .i64 a1] rfl (by (try simp only [zA,zC,zN]);first|done|rfl|(simp only [zM,zL];rfl)) ?_;(with_reducible refine (impl_Skip_next.calls g s0_0 s0_1 (-1) a1 t154 w0 _ ?side1 ?side2 A3.out).mono ?_);(case side1=>repeat (first|(with_reducible first|exact HI0.out|apply IsS26.alloc|apply IsS26.drewN|apply IsS26.drew)|exact HI0.out));(case side2=>repeat (first|(with_reducible first|exact HB.out|apply bwa|apply pbN|apply bw1|refine bws ?_ (IsS26.ge HI0.out))|exact HB.out));rintro e w' ⟨rfl,⟨nd,rfl⟩⟩;refine ⟨_,rfl,?_⟩))
 go_loopg [5,6] k (fun kq v5 v6 w' => ∃ (x5_1:List (S28)) (x6_1:Int),v6 = .int .i64 x6_1∧AsZ (impl_Skip_list.l0 kq a1 x5_1 x6_1 s0_0 s0_1=some r)∧AsZ (kq≤k)∧AsZ (Kd.R k28 28 w' w.heap.size (fun _=>True) v5 x5_1)∧AsZ (IsS26 w0 w' g s0_0 s0_1)∧AsZ (KeepF w w' g none)∧AsZ (Below w0.heap.size w0 w'))
 case atStart=>exact ⟨(y151),(t154),(by first|rfl|(simp;done)|(simp [*];done)),H',⟨Nat.le_refl _⟩,⟨by (with_reducible repeat (first|apply Kd.R_alloc|apply Kd.R_drewN|apply Kd.R_drew));exact HO153.out⟩,⟨by repeat (first|(with_reducible first|exact HI0.out|apply IsS26.alloc|apply IsS26.drewN|apply IsS26.drew)|exact HI0.out)⟩,⟨by repeat (first|(with_reducible first|exact HK.out|apply KeepF.keep|apply KeepF.drewN|apply KeepF.drew|apply KeepF.alloc)|exact HK.out)⟩,⟨by repeat (first|(with_reducible first|exact HB.out|apply bwa|apply pbN|apply bw1|refine bws ?_ (IsS26.ge HI0.out))|exact HB.out)⟩⟩
 case round =>
  clear H'
  try clear p2
  try clear c4
  try clear c5
  obtain ⟨x5_1,x6_1,rfl,HA,HK1,HO_5,HI0,HK,HB⟩:=hrel
  cases gk with
  |zero=>exact absurd HA.out (by simp [impl_Skip_list.l0])
  |succ k1 =>
   have H:=HA.out
   clear HA
   simp only [impl_Skip_list.l0] at H
   by_cases c6:x6_1=(-1)
   · rw [if_pos c6] at H
     have c6b0:(x6_1 == (-1))=true:=beq_iff_eq.mpr c6
     have c6b1:(x6_1 != (-1))=false:=bne_eq_false_iff_eq.mpr c6
     clear c6
     obtain rfl:=zI H
     go_wp2
     go_ret
     exact ⟨_,by first|rfl|(simp [errW_none,errW_some]<;>rfl)|(simp [*,errW_none,errW_some]<;>rfl),by (with_reducible repeat (first|apply Kd.R_alloc|apply Kd.R_drewN|apply Kd.R_drew));exact HO_5.out,by repeat (first|(with_reducible first|exact HI0.out|apply IsS26.alloc|apply IsS26.drewN|apply IsS26.drew)|exact HI0.out),by repeat (first|(with_reducible first|exact HB.out|apply bwa|apply pbN|apply bw1|refine bws ?_ (IsS26.ge HI0.out))|exact HB.out),by repeat (first|(with_reducible first|exact HK.out|apply KeepF.keep|apply KeepF.drewN|apply KeepF.drew|apply KeepF.alloc)|exact HK.out)⟩
   rw [if_neg c6] at H
   have c6b0:(x6_1 == (-1))=false:=beq_eq_false_iff_ne.mpr c6
   have c6b1:(x6_1 != (-1))=true:=bne_iff_ne.mpr c6
   by_cases c7:0≤x6_1
   rotate_left
   · rw [if_neg c7] at H
     exact absurd H (by simp)
   rw [if_pos c7] at H
   have c7b0:decide (0≤x6_1)=true:=zE c7
   clear c7
   by_cases c8:x6_1 < (s0_1.length:Int)
   rotate_left
   · rw [if_neg c8] at H
     exact absurd H (by simp)
   rw [if_pos c8] at H
   have c8b0:decide (x6_1 < (s0_1.length:Int))=true:=zE c8
   clear c8
   by_cases c9:x5_1.length < 2932031007402
   rotate_left
   · rw [if_neg c9] at H
     exact absurd H (by simp)
   rw [if_pos c9] at H
   have LMc9:=AsZ.mk c9
   clear c9
   obtain ⟨y156,hy156⟩:∃ y_:List (S28),y_=(x5_1 ++ [(⟨(rd_T77 s0_1 x6_1).f0.f0,(rd_T77 s0_1 x6_1).f0.f1,(rd_T77 s0_1 x6_1).f0.f2,(rd_T77 s0_1 x6_1).f0.f3⟩:S28)]):=⟨_,rfl⟩
   replace H:((impl_Skip_next.f s0_0 s0_1 x6_1 a1).bind fun t159=>(impl_Skip_list.l0 k1 a1 y156 t159 s0_0 s0_1))=some r:=by first|(rw [hy156];with_reducible exact H)|(have H2_:=(Option.bind_some _ _).symm.trans H;rw [hy156];with_reducible exact H2_)|(have H2_:=(Option.bind_some _ _).symm.trans H;with_reducible exact H2_)|with_reducible exact H|(rw [hy156];exact H)|exact H
   have Ny156:=AsZ.mk hy156
   clear hy156
   replace H:=Option.bind_eq_some_iff.mp H
   obtain ⟨t159,A100,H⟩:=H
   replace H:(impl_Skip_list.l0 k1 a1 y156 t159 s0_0 s0_1)=some r:=H
   have A10:=AsZ.mk A100
   clear A100
   have H':=AsZ.mk H
   clear H
   obtain ⟨ASz11_0,cSz11_0,ASz11_1,cSz11_1,HGz11,hgz11,HSz11_0,HSCz11_0,HSz11_1,HSCz11_1⟩:=HI0.out
   obtain ⟨es0_,es1_,es2_,es3_⟩:=IsS26.same_ HGq.out HK.out HGz11
   subst es0_
   subst es1_
   subst es2_
   subst es3_
   have hcz11_0:=cellS26_0 HGz11
   have hcz11_1:=cellS26_1 HGz11
   clear HGz11 hgz11
   have p155:0≤(x6_1:Int):=zD (by first|(with_reducible assumption)|assumption)
   have q155:x6_1 < (s0_1.length:Int):=zD (by first|(with_reducible assumption)|assumption)
   obtain ⟨ad155,A155_4,c155_4,e155,hx155_0,hx155_1,hx155_2,hx155_3,hx155_4,hl155_4,hi155_4⟩:=at_T77 HSz11_1 x6_1 p155 q155
   cases e155
   replace hx155_0:=pcb HB.out hx155_0
   replace hx155_1:=pcb HB.out hx155_1
   replace hx155_2:=pcb HB.out hx155_2
   replace hx155_3:=pcb HB.out hx155_3
   replace hx155_4:=pcb HB.out hx155_4
   have HR155_4:=AsZ.mk hi155_4
   have HC155_4:=AsZ.mk hl155_4
   clear hi155_4 hl155_4
   replace p155:=eq_true p155
   replace q155:=eq_true q155
   go_wp2_with (first|((with_reducible refine gate_builtin (b := .append) (xs:=#[.tmp 17,.tmp 26]) rfl ?_);at_builtin;refine Kd.R_append k28 w.heap.size rfl (.tmp 17) (.tmp 26) 33 28 (.agg #[(.string ⟨#[]⟩),(.int .i64 0),(.int .i64 0),(.string ⟨#[]⟩)]) 48 rfl Tryd.underlying33 info28 rfl (by decide) (by omega) u5 x5_1 (⟨(rd_T77 s0_1 x6_1).f0.f0,(rd_T77 s0_1 x6_1).f0.f1,(rd_T77 s0_1 x6_1).f0.f2,(rd_T77 s0_1 x6_1).f0.f3⟩:S28) [.string ((rd_T77 s0_1 x6_1).f0.f0),.int .i64 ((rd_T77 s0_1 x6_1).f0.f1),.int .i64 ((rd_T77 s0_1 x6_1).f0.f2),.string ((rd_T77 s0_1 x6_1).f0.f3)] (fun _=>True) (fun _=>False) rfl rfl ?aP (fun _ hk=>hk.elim) ?aF ?aO (Below.refl _ _) ?aS ?aL ?_;(case aP=>exact k28_mkM _ _ _ (⟨(rd_T77 s0_1 x6_1).f0.f0,(rd_T77 s0_1 x6_1).f0.f1,(rd_T77 s0_1 x6_1).f0.f2,(rd_T77 s0_1 x6_1).f0.f3⟩:S28));(case aF=>exact (fun _ _=>trivial));(case aO=>exact (by (with_reducible repeat (first|apply Kd.R_alloc|apply Kd.R_drewN|apply Kd.R_drew));exact HO_5.out));(case aS=>exact (keep_size (w:=w) (g:=g) (row:=none) (by repeat (first|(with_reducible first|exact HK.out|apply KeepF.keep|apply KeepF.drewN|apply KeepF.drew|apply KeepF.alloc)|exact HK.out))));(case aL=>have:=LMc9.out;omega);intro v157 w12 ho hb hg hat;rw [← Ny156.out] at ho;have n0_:=AsZ.mk (IsS26.grown (by repeat (first|(with_reducible first|exact HI0.out|apply IsS26.alloc|apply IsS26.drewN|apply IsS26.drew)|exact HI0.out)) hg (IsS26.own_ne HI0.out HO_5.out (by decide)));have n1_:=AsZ.mk (below_weaken (by repeat (first|(with_reducible first|exact HB.out|apply bwa|apply pbN|apply bw1|refine bws ?_ (IsS26.ge HI0.out))|exact HB.out)) HL.out hb);have n2_:=AsZ.mk (KeepF.put (by repeat (first|(with_reducible first|exact HK.out|apply KeepF.keep|apply KeepF.drewN|apply KeepF.drew|apply KeepF.alloc)|exact HK.out)) hg (Kd.R_base2 HO_5.out));have n3_:=AsZ.mk (ho);clear HI0;clear HB;clear HK;clear HO_5;have HI0:=n0_;have HB:=n1_;have HK:=n2_;have HO158:=n3_;clear n0_ n1_ n2_ n3_;clear ho hb hg hat)|((with_reducible refine gcl (f:=41) rfl ?_);refine goesL_ (some 16) rfl rfl Tryd.func41 (by kernel_rfl) rfl #[.pointer (some ⟨g,0,none⟩),.int .i64 x6_1,.int .i64 a1] rfl (by (try simp only [zA,zC,zN]);first|done|rfl|(simp only [zM,zL];rfl)) ?_;(with_reducible refine (impl_Skip_next.calls g s0_0 s0_1 x6_1 a1 t159 w0 _ ?side1 ?side2 A10.out).mono ?_);(case side1=>repeat (first|(with_reducible first|exact HI0.out|apply IsS26.alloc|apply IsS26.drewN|apply IsS26.drew)|exact HI0.out));(case side2=>repeat (first|(with_reducible first|exact HB.out|apply bwa|apply pbN|apply bw1|refine bws ?_ (IsS26.ge HI0.out))|exact HB.out));rintro e w' ⟨rfl,⟨nd,rfl⟩⟩;refine ⟨_,rfl,?_⟩))
   go_roundg k1
   case measure=>have:=HK1.out;omega
   case rel=>exact ⟨(y156),(t159),(by first|rfl|(simp;done)|(simp [*];done)),H',⟨by have:=HK1.out;omega⟩,⟨by (with_reducible repeat (first|apply Kd.R_alloc|apply Kd.R_drewN|apply Kd.R_drew));exact HO158.out⟩,⟨by repeat (first|(with_reducible first|exact HI0.out|apply IsS26.alloc|apply IsS26.drewN|apply IsS26.drew)|exact HI0.out)⟩,⟨by repeat (first|(with_reducible first|exact HK.out|apply KeepF.keep|apply KeepF.drewN|apply KeepF.drew|apply KeepF.alloc)|exact HK.out)⟩,⟨by repeat (first|(with_reducible first|exact HB.out|apply bwa|apply pbN|apply bw1|refine bws ?_ (IsS26.ge HI0.out))|exact HB.out)⟩⟩
/-! ### impl_ListSkip: function 14 -/
def impl_ListSkip.j0:Nat→Int→Bool→List Int→List (S77)→Option ((List (S28)) × Bool)
  |0,_,_,_,_=>none
  |k + 1,x1,x13,x161000,x161001=>if x13=true then (some (([]:List (S28)),false)) else ((impl_Skip_list.f k x161000 x161001 x1).bind fun t163=>(some (t163,true)))
def impl_ListSkip.f (k:Nat) (l0_0:List Int) (l0_1:List (S77)) (a1:Int):Option ((List (S28)) × Bool):=(impl_GoodSkip.f k l0_0 l0_1).bind fun t161=>(if t161=true then ((impl_in.f a1 0 4).bind fun t162=>(impl_ListSkip.j0 k a1 (!t162) l0_0 l0_1)) else (impl_ListSkip.j0 k a1 true l0_0 l0_1))
theorem impl_ListSkip.mono_l:∀ k,(∀ y0 y1 y2 y3,LeO (impl_ListSkip.j0 k y0 y1 y2 y3) (impl_ListSkip.j0 (k + 1) y0 y1 y2 y3))
  |0=>fun _ _ _ _ r h=>by simp [impl_ListSkip.j0] at h
  |k + 1=>by
    have ih0:=impl_ListSkip.mono_l k
    · intro y0 y1 y2 y3
      unfold impl_ListSkip.j0
      repeat' first
      |(with_reducible exact ih0 _ _ _ _)
      |(with_reducible exact impl_GoodSkip.mono _ _ _)
      |(with_reducible exact impl_Skip_list.mono _ _ _ _)
      |(with_reducible exact LeO.refl _)
      |(with_reducible exact LeO.none _)
      |(with_reducible refine LeO.ite ?_ ?_)
      |(with_reducible refine LeO.bind ?_ (fun _=>?_))
      |exact ih0 _ _ _ _
      |exact impl_GoodSkip.mono _ _ _
      |exact impl_Skip_list.mono _ _ _ _
      |exact LeO.none _
      |refine LeO.ite ?_ ?_
      |refine LeO.bind ?_ (fun _=>?_)
theorem impl_ListSkip.mono:∀ a0 a1 a2 k,LeO (impl_ListSkip.f k a0 a1 a2) (impl_ListSkip.f (k + 1) a0 a1 a2):=by
  intro a0 a1 a2 k
  have ih0:=impl_ListSkip.mono_l k
  unfold impl_ListSkip.f
  repeat' first
      |(with_reducible exact ih0 _ _ _ _)
      |(with_reducible exact impl_GoodSkip.mono _ _ _)
      |(with_reducible exact impl_Skip_list.mono _ _ _ _)
      |(with_reducible exact LeO.refl _)
      |(with_reducible exact LeO.none _)
      |(with_reducible refine LeO.ite ?_ ?_)
      |(with_reducible refine LeO.bind ?_ (fun _=>?_))
      |exact ih0 _ _ _ _
      |exact impl_GoodSkip.mono _ _ _
      |exact impl_Skip_list.mono _ _ _ _
      |exact LeO.none _
      |refine LeO.ite ?_ ?_
      |refine LeO.bind ?_ (fun _=>?_)
set_option maxHeartbeats 8000000 in
set_option maxRecDepth 100000 in
theorem impl_ListSkip.calls (k:Nat) (A0_0:Option Addr) (c0_0:Nat) (l0_0:List Int) (A0_1:Option Addr) (c0_1:Nat) (l0_1:List (S77)) (a1:Int) (r1:List (S28)) (r2:Bool) (w:World) (hr0_0:Kd.C (Kd.int .i64) w A0_0 l0_0.length l0_0) (hc0_0:l0_0.length≤c0_0) (hr0_1:Kd.C k77 w A0_1 l0_1.length l0_1) (hc0_1:l0_1.length≤c0_1) (hT:Tab w) (h:impl_ListSkip.f k l0_0 l0_1 a1=some (r1,r2)) :
    Calls Tryd.prog 14 #[.agg #[.slice A0_0 l0_0.length c0_0,.slice A0_1 l0_1.length c0_1],.int .i64 a1] w fun e w' => ∃ v0_:Value,e = .returned (.tuple #[v0_,.bool r2])∧Kd.R k28 28 w' w.heap.size (fun _=>True) v0_ r1∧Below w.heap.size w w':=by
 have HT:=AsZ.mk hT
 clear hT
 have hu26:=Tryd.underlying26
 have HR0_0:=AsZ.mk hr0_0
 have HC0_0:=AsZ.mk hc0_0
 clear hr0_0 hc0_0
 have HR0_1:=AsZ.mk hr0_1
 have HC0_1:=AsZ.mk hc0_1
 clear hr0_1 hc0_1
 have HB:=AsZ.mk (Below.refl w.heap.size w)
 have H:((impl_GoodSkip.f k l0_0 l0_1).bind fun t161=>(if t161=true then ((impl_in.f a1 0 4).bind fun t162=>(impl_ListSkip.j0 k a1 (!t162) l0_0 l0_1)) else (impl_ListSkip.j0 k a1 true l0_0 l0_1)))=some (r1,r2):=h
 clear h
 have HC3:=AsZ.mk H
 clear H
 go_enter Tryd.func14,Tryd.ntmps14
 go_upto_region 1 with (first|((with_reducible refine gate_dst (N:=2) rfl ?_);refine box_event ?hg (N:=2) ?hd (cs:=#[.slice A0_0 l0_0.length c0_0,.slice A0_1 l0_1.length c0_1]) (t:=26) ?hr ?_;(case hd=>rfl);(case hg=>rfl);(case hr=>first|(go_simp;done)|(go_simp;rfl));intro gb160 hg w4 hbox hb;have n0_:=AsZ.mk (bwp (by repeat (first|(with_reducible first|exact HB.out|apply bwa|apply pbN|apply bw1)|exact HB.out)) hb);have n1_:=AsZ.mk ((by rw [hg];exact (bwz (by repeat (first|(with_reducible first|exact HB.out|apply bwa|apply pbN|apply bw1)|exact HB.out))):w.heap.size≤gb160));have n2_:=AsZ.mk ((by rw [hg];exact (bwz (by repeat (first|(with_reducible first|exact HB.out|apply bwa|apply pbN|apply bw1)|exact HB.out))):w.heap.size≤gb160));have n3_:=AsZ.mk ((show IsS26F A0_0 c0_0 A0_1 c0_1 w w4 gb160 l0_0 l0_1 from ⟨hbox,(by rw [hg];exact (bwz (by repeat (first|(with_reducible first|exact HB.out|apply bwa|apply pbN|apply bw1)|exact HB.out)))),HR0_0.out,HC0_0.out,HR0_1.out,HC0_1.out⟩));clear HB;have HB:=n0_;have GW160:=n1_;have GE160:=n2_;have HI160:=n3_;clear n0_ n1_ n2_ n3_;clear hb hbox hg))
 (try simp only [Act.put,zS,zT,zU])
 go_cut [13] (fun v13 wc => ∃ (kq:Nat) (x13_2:Bool),v13 = .bool x13_2∧AsZ (impl_ListSkip.j0 kq a1 x13_2 l0_0 l0_1=some (r1,r2))∧AsZ (kq≤k)∧AsZ (IsS26F A0_0 c0_0 A0_1 c0_1 w wc gb160 l0_0 l0_1)∧AsZ (Below w.heap.size w wc))
 case first =>
  have H:=HC3.out
  clear HC3
  replace H:=Option.bind_eq_some_iff.mp H
  obtain ⟨t161,A50,H⟩:=H
  replace H:(if t161=true then ((impl_in.f a1 0 4).bind fun t162=>(impl_ListSkip.j0 k a1 (!t162) l0_0 l0_1)) else (impl_ListSkip.j0 k a1 true l0_0 l0_1))=some (r1,r2):=H
  have A5:=AsZ.mk A50
  clear A50
  by_cases c6:t161=true
  rotate_left
  · replace c6:=Bool.eq_false_iff.mpr c6
    subst c6
    have H1:(impl_ListSkip.j0 k a1 true l0_0 l0_1)=some (r1,r2):=by rw [if_neg (show ¬ (false=true) by decide)] at H;exact H
    clear H
    have H:=H1
    clear H1
    have H':=AsZ.mk H
    clear H
    obtain ⟨ASz10_0,cSz10_0,ASz10_1,cSz10_1,⟨es0_,es1_,es2_,es3_⟩,HGz10,hgz10,HSz10_0,HSCz10_0,HSz10_1,HSCz10_1⟩:=IsS26F.ex HI160.out
    subst es0_
    subst es1_
    subst es2_
    subst es3_
    have hcz10_0:=cellS26_0 HGz10
    have hcz10_1:=cellS26_1 HGz10
    clear HGz10 hgz10
    go_wp2_with (first|((with_reducible refine gcl (f:=15) rfl ?_);refine goesL_ (some 7) rfl rfl Tryd.func15 (by kernel_rfl) rfl #[.agg #[.slice ASz10_0 l0_0.length cSz10_0,.slice ASz10_1 l0_1.length cSz10_1]] rfl (by (try simp only [zA,zC,zN]);first|done|rfl|(simp only [zM,zL];rfl)) ?_;(with_reducible refine (impl_GoodSkip.calls k _ _ l0_0 _ _ l0_1 false _ ?side1 ?side2 ?side3 ?side4 ?sideT A5.out).mono ?_);(case sideT=>exact tab_below HT.out (by repeat (first|(with_reducible first|exact HB.out|apply bwa|apply pbN|apply bw1|refine bws ?_ (AsZ.out (by assumption)))|exact HB.out)));(case side1=>exact Kd.C_below HSz10_0 (by repeat (first|(with_reducible first|exact HB.out|apply bwa|apply pbN|apply bw1|refine bws ?_ (IsS26F.ge HI160.out))|exact HB.out)));(case side2=>exact HSCz10_0);(case side3=>exact Kd.C_below HSz10_1 (by repeat (first|(with_reducible first|exact HB.out|apply bwa|apply pbN|apply bw1|refine bws ?_ (IsS26F.ge HI160.out))|exact HB.out)));(case side4=>exact HSCz10_1);rintro e w11 ⟨rfl,hb⟩;refine ⟨_,rfl,?_⟩;have n0_:=AsZ.mk (IsS26F.below (by repeat (first|(with_reducible first|exact HI160.out|apply IsS26F.alloc|apply IsS26F.drewN|apply IsS26F.drew)|exact HI160.out)) hb);have n1_:=AsZ.mk (bwp (by repeat (first|(with_reducible first|exact HB.out|apply bwa|apply pbN|apply bw1|refine bws ?_ (IsS26F.ge HI160.out))|exact HB.out)) hb);clear HI160;clear HB;have HI160:=n0_;have HB:=n1_;clear n0_ n1_;(try clear hb);(try clear hb2);(try clear hk);(try clear hi)))
    go_meet
    case rel=>exact ⟨_,(true),(by first|rfl|(simp;done)|(simp [*];done)),H',⟨by first|omega|exact Nat.le_refl _⟩,⟨by repeat (first|(with_reducible first|exact HI160.out|apply IsS26F.alloc|apply IsS26F.drewN|apply IsS26F.drew)|exact HI160.out)⟩,⟨by repeat (first|(with_reducible first|exact HB.out|apply bwa|apply pbN|apply bw1|refine bws ?_ (IsS26F.ge HI160.out))|exact HB.out)⟩⟩
  subst c6
  have H1:((impl_in.f a1 0 4).bind fun t162=>(impl_ListSkip.j0 k a1 (!t162) l0_0 l0_1))=some (r1,r2):=by rw [if_pos rfl] at H;exact H
  clear H
  have H:=H1
  clear H1
  replace H:=Option.bind_eq_some_iff.mp H
  obtain ⟨t162,A70,H⟩:=H
  replace H:(impl_ListSkip.j0 k a1 (!t162) l0_0 l0_1)=some (r1,r2):=H
  have A7:=AsZ.mk A70
  clear A70
  have H':=AsZ.mk H
  clear H
  obtain ⟨ASz8_0,cSz8_0,ASz8_1,cSz8_1,⟨es0_,es1_,es2_,es3_⟩,HGz8,hgz8,HSz8_0,HSCz8_0,HSz8_1,HSCz8_1⟩:=IsS26F.ex HI160.out
  subst es0_
  subst es1_
  subst es2_
  subst es3_
  have hcz8_0:=cellS26_0 HGz8
  have hcz8_1:=cellS26_1 HGz8
  clear HGz8 hgz8
  go_wp2_with (first|((with_reducible refine gcl (f:=15) rfl ?_);refine goesL_ (some 7) rfl rfl Tryd.func15 (by kernel_rfl) rfl #[.agg #[.slice ASz8_0 l0_0.length cSz8_0,.slice ASz8_1 l0_1.length cSz8_1]] rfl (by (try simp only [zA,zC,zN]);first|done|rfl|(simp only [zM,zL];rfl)) ?_;(with_reducible refine (impl_GoodSkip.calls k _ _ l0_0 _ _ l0_1 true _ ?side1 ?side2 ?side3 ?side4 ?sideT A5.out).mono ?_);(case sideT=>exact tab_below HT.out (by repeat (first|(with_reducible first|exact HB.out|apply bwa|apply pbN|apply bw1|refine bws ?_ (AsZ.out (by assumption)))|exact HB.out)));(case side1=>exact Kd.C_below HSz8_0 (by repeat (first|(with_reducible first|exact HB.out|apply bwa|apply pbN|apply bw1|refine bws ?_ (IsS26F.ge HI160.out))|exact HB.out)));(case side2=>exact HSCz8_0);(case side3=>exact Kd.C_below HSz8_1 (by repeat (first|(with_reducible first|exact HB.out|apply bwa|apply pbN|apply bw1|refine bws ?_ (IsS26F.ge HI160.out))|exact HB.out)));(case side4=>exact HSCz8_1);rintro e w9 ⟨rfl,hb⟩;refine ⟨_,rfl,?_⟩;have n0_:=AsZ.mk (IsS26F.below (by repeat (first|(with_reducible first|exact HI160.out|apply IsS26F.alloc|apply IsS26F.drewN|apply IsS26F.drew)|exact HI160.out)) hb);have n1_:=AsZ.mk (bwp (by repeat (first|(with_reducible first|exact HB.out|apply bwa|apply pbN|apply bw1|refine bws ?_ (IsS26F.ge HI160.out))|exact HB.out)) hb);clear HI160;clear HB;have HI160:=n0_;have HB:=n1_;clear n0_ n1_;(try clear hb);(try clear hb2);(try clear hk);(try clear hi))|(go_at_call 50;(with_reducible refine (impl_in.calls a1 0 4 t162 _ A7.out).mono ?_);rintro e w' ⟨rfl,⟨nd,rfl⟩⟩))
  go_meet
  case rel=>exact ⟨_,(!t162),(by first|rfl|(simp;done)|(simp [*];done)),H',⟨by first|omega|exact Nat.le_refl _⟩,⟨by repeat (first|(with_reducible first|exact HI160.out|apply IsS26F.alloc|apply IsS26F.drewN|apply IsS26F.drew)|exact HI160.out)⟩,⟨by repeat (first|(with_reducible first|exact HB.out|apply bwa|apply pbN|apply bw1|refine bws ?_ (IsS26F.ge HI160.out))|exact HB.out)⟩⟩
 case rest =>
  clear HC3
  try clear c1
  try clear p2
  try clear c6
  try clear hcz10_0
  try clear hcz10_1
  try clear hcz8_0
  try clear hcz8_1
  obtain ⟨kq,x13_2,rfl,HA,HJ2,HI160,HB⟩:=hcut
  cases kq with
  |zero=>exact absurd HA.out (by simp [impl_ListSkip.j0])
  |succ kj2 =>
   have H:=HA.out
   clear HA
   simp only [impl_ListSkip.j0] at H
   by_cases c12:x13_2=true
   · subst c12
     have H1:(some (([]:List (S28)),false))=some (r1,r2):=by rw [if_pos rfl] at H;exact H
     clear H
     have H:=H1
     clear H1
     simp only [Option.some.injEq,Prod.mk.injEq] at H
     obtain ⟨rfl,rfl⟩:=H
     go_wp2
     go_ret2
     exact ⟨_,by first|rfl|(simp [errW_none,errW_some]<;>rfl)|(simp [*,errW_none,errW_some]<;>rfl),by first|exact Kd.R_nil _ _ _ _ _|exact Kd.N_nil _ _ _ _ _|exact Kd.V_nil _ _ _ _ _|exact Kd.Q_nil _ _ _ _ _|exact Kd.S_nil _ _ _ _ _,by repeat (first|(with_reducible first|exact HB.out|apply bwa|apply pbN|apply bw1|refine bws ?_ (IsS26F.ge HI160.out))|exact HB.out)⟩
   replace c12:=Bool.eq_false_iff.mpr c12
   subst c12
   have H1:((impl_Skip_list.f kj2 l0_0 l0_1 a1).bind fun t163=>(some (t163,true)))=some (r1,r2):=by rw [if_neg (show ¬ (false=true) by decide)] at H;exact H
   clear H
   have H:=H1
   clear H1
   replace H:=Option.bind_eq_some_iff.mp H
   obtain ⟨t163,A130,H⟩:=H
   replace H:(some (t163,true))=some (r1,r2):=H
   have A13:=AsZ.mk A130
   clear A130
   simp only [Option.some.injEq,Prod.mk.injEq] at H
   obtain ⟨rfl,rfl⟩:=H
   go_wp2_with (first|((with_reducible refine gcl (f:=51) rfl ?_);refine goesL_ (some 15) rfl rfl Tryd.func51 (by kernel_rfl) rfl #[.pointer (some ⟨gb160,0,none⟩),.int .i64 a1] rfl (by (try simp only [zA,zC,zN]);first|done|rfl|(simp only [zM,zL];rfl)) ?_;(with_reducible refine (impl_Skip_list.calls kj2 gb160 l0_0 l0_1 a1 t163 w _ ?side1 ?side2 A13.out).mono ?_);(case side1=>apply IsS26F.to;repeat (first|(with_reducible first|exact HI160.out|apply IsS26F.alloc|apply IsS26F.drewN|apply IsS26F.drew)|exact HI160.out));(case side2=>repeat (first|(with_reducible first|exact HB.out|apply bwa|apply pbN|apply bw1|refine bws ?_ (IsS26F.ge HI160.out))|exact HB.out));rintro e w14 ⟨v164,rfl,ho0,hi,hb,hk⟩;replace hi:=IsS26F.below (by repeat (first|(with_reducible first|exact HI160.out|apply IsS26F.alloc|apply IsS26F.drewN|apply IsS26F.drew)|exact HI160.out)) hk;replace hk:=KeepF.keep hk;refine ⟨_,rfl,?_⟩;have n0_:=AsZ.mk (Kd.R_lower ho0 (bwz (by repeat (first|(with_reducible first|exact HB.out|apply bwa|apply pbN|apply bw1|refine bws ?_ (IsS26F.ge HI160.out))|exact HB.out))));have n1_:=AsZ.mk (hb);have n2_:=AsZ.mk (hi);clear HB;clear HI160;have HO165:=n0_;have HB:=n1_;have HI160:=n2_;clear n0_ n1_ n2_;(try clear hb);(try clear hb2);(try clear hk);(try clear hi);(try clear ho0)))
   go_ret2
   exact ⟨_,by first|rfl|(simp [errW_none,errW_some]<;>rfl)|(simp [*,errW_none,errW_some]<;>rfl),by (with_reducible repeat (first|apply Kd.R_alloc|apply Kd.R_drewN|apply Kd.R_drew));exact HO165.out,by repeat (first|(with_reducible first|exact HB.out|apply bwa|apply pbN|apply bw1|refine bws ?_ (IsS26F.ge HI160.out))|exact HB.out)⟩
/-! ### laws_szIntS: function 57 -/
def laws_szIntS.f (l0:List Int) (a1:Int):Option (Int):=if (wrap64 (a1 - (l0.length:Int))) < 0 then (some (-1)) else (some (wrap64 (a1 - (l0.length:Int))))
set_option maxHeartbeats 8000000 in
set_option maxRecDepth 100000 in
theorem laws_szIntS.calls (A0:Option Addr) (c0:Nat) (l0:List Int) (a1:Int) (r:Int) (w:World) (hr0:Kd.C (Kd.int .i64) w A0 l0.length l0) (hc0:l0.length≤c0) (h:laws_szIntS.f l0 a1=some r) :
    Calls Tryd.prog 57 #[.slice A0 l0.length c0,.int .i64 a1] w fun e w'=>e = .returned (.int .i64 r)∧Drawn0 w w':=by
 have HR0:=AsZ.mk hr0
 have HC0:=AsZ.mk hc0
 clear hr0 hc0
 have H:(if (wrap64 (a1 - (l0.length:Int))) < 0 then (some (-1)) else (some (wrap64 (a1 - (l0.length:Int)))))=some r:=h
 clear h
 by_cases c3:(wrap64 (a1 - (l0.length:Int))) < 0
 · rw [if_pos c3] at H
   have c3b0:decide ((wrap64 (a1 - (l0.length:Int))) < 0)=true:=zE c3
   clear c3
   obtain rfl:=zI H
   go_enter Tryd.func57,Tryd.ntmps57
   go_wp2
   go_ret
   exact ⟨by first|rfl|(simp;done)|(simp [*];done),by repeat (first|exact Drawn0.refl _|apply Drawn0.step)⟩
 rw [if_neg c3] at H
 have c3b0:decide ((wrap64 (a1 - (l0.length:Int))) < 0)=false:=decide_eq_false c3
 clear c3
 obtain rfl:=zI H
 go_enter Tryd.func57,Tryd.ntmps57
 go_wp2
 go_ret
 exact ⟨by first|rfl|(simp;done)|(simp [*];done),by repeat (first|exact Drawn0.refl _|apply Drawn0.step)⟩
/-! ### laws_szItem: function 26 -/
def laws_szItem.f (a0_0:ByteArray) (a0_1:Int) (a0_2:Int) (a0_3:ByteArray) (a1:Int):Option (Int):=if (wrap64 (a1 - (a0_0.size:Int))) < 0 then (some (-1)) else (if (wrap64 ((wrap64 (a1 - (a0_0.size:Int))) - (a0_3.size:Int))) < 0 then (some (-1)) else (some (wrap64 ((wrap64 (a1 - (a0_0.size:Int))) - (a0_3.size:Int)))))
set_option maxHeartbeats 8000000 in
set_option maxRecDepth 100000 in
theorem laws_szItem.calls (a0_0:ByteArray) (a0_1:Int) (a0_2:Int) (a0_3:ByteArray) (a1:Int) (r:Int) (w:World) (h:laws_szItem.f a0_0 a0_1 a0_2 a0_3 a1=some r) :
    Calls Tryd.prog 26 #[.agg #[.string a0_0,.int .i64 a0_1,.int .i64 a0_2,.string a0_3],.int .i64 a1] w fun e w'=>e = .returned (.int .i64 r)∧Below w.heap.size w w':=by
 have hu51:=Tryd.underlying51
 have HB:=AsZ.mk (Below.refl w.heap.size w)
 have H:(if (wrap64 (a1 - (a0_0.size:Int))) < 0 then (some (-1)) else (if (wrap64 ((wrap64 (a1 - (a0_0.size:Int))) - (a0_3.size:Int))) < 0 then (some (-1)) else (some (wrap64 ((wrap64 (a1 - (a0_0.size:Int))) - (a0_3.size:Int))))))=some r:=h
 clear h
 by_cases c3:(wrap64 (a1 - (a0_0.size:Int))) < 0
 · rw [if_pos c3] at H
   have c3b0:decide ((wrap64 (a1 - (a0_0.size:Int))) < 0)=true:=zE c3
   clear c3
   obtain rfl:=zI H
   go_enter Tryd.func26,Tryd.ntmps26
   go_wp2_with (first|((with_reducible refine gate_dst (N:=2) rfl ?_);refine box_event ?hg (N:=2) ?hd (cs:=#[.string a0_0,.int .i64 a0_1,.int .i64 a0_2,.string a0_3]) (t:=51) ?hr ?_;(case hd=>rfl);(case hg=>rfl);(case hr=>first|(go_simp;done)|(go_simp;rfl));intro gb166 hg w4 hbox hb;have n0_:=AsZ.mk (bwp (by repeat (first|(with_reducible first|exact HB.out|apply bwa|apply pbN|apply bw1)|exact HB.out)) hb);have n1_:=AsZ.mk (hbox);have n2_:=AsZ.mk ((by rw [hg];exact (bwz (by repeat (first|(with_reducible first|exact HB.out|apply bwa|apply pbN|apply bw1)|exact HB.out))):w.heap.size≤gb166));have n3_:=AsZ.mk ((by rw [hg];exact (bwz (by repeat (first|(with_reducible first|exact HB.out|apply bwa|apply pbN|apply bw1)|exact HB.out))):w.heap.size≤gb166));clear HB;have HB:=n0_;have BK166:=n1_;have GW166:=n2_;have GE166:=n3_;clear n0_ n1_ n2_ n3_;clear hb hbox hg;have hcz5_0:w4.cell? ⟨gb166,0,none⟩=some (.string a0_0):=(kc BK166.out 0).trans rfl;have hcz5_1:w4.cell? ⟨gb166,1,none⟩=some (.int .i64 a0_1):=(kc BK166.out 1).trans rfl;have hcz5_2:w4.cell? ⟨gb166,2,none⟩=some (.int .i64 a0_2):=(kc BK166.out 2).trans rfl;have hcz5_3:w4.cell? ⟨gb166,3,none⟩=some (.string a0_3):=(kc BK166.out 3).trans rfl;have hfz5_0:=kf BK166.out 0;have hfz5_1:=kf BK166.out 1;have hfz5_2:=kf BK166.out 2;have hfz5_3:=kf BK166.out 3))
   go_ret
   exact ⟨by first|rfl|(simp [errW_none,errW_some]<;>rfl)|(simp [*,errW_none,errW_some]<;>rfl),by repeat (first|(with_reducible first|exact HB.out|apply bwa|apply pbN|apply bw1|refine bws ?_ GE166.out)|exact HB.out)⟩
 rw [if_neg c3] at H
 have c3b0:decide ((wrap64 (a1 - (a0_0.size:Int))) < 0)=false:=decide_eq_false c3
 clear c3
 by_cases c6:(wrap64 ((wrap64 (a1 - (a0_0.size:Int))) - (a0_3.size:Int))) < 0
 · rw [if_pos c6] at H
   have c6b0:decide ((wrap64 ((wrap64 (a1 - (a0_0.size:Int))) - (a0_3.size:Int))) < 0)=true:=zE c6
   clear c6
   obtain rfl:=zI H
   go_enter Tryd.func26,Tryd.ntmps26
   go_wp2_with (first|((with_reducible refine gate_dst (N:=2) rfl ?_);refine box_event ?hg (N:=2) ?hd (cs:=#[.string a0_0,.int .i64 a0_1,.int .i64 a0_2,.string a0_3]) (t:=51) ?hr ?_;(case hd=>rfl);(case hg=>rfl);(case hr=>first|(go_simp;done)|(go_simp;rfl));intro gb166 hg w7 hbox hb;have n0_:=AsZ.mk (bwp (by repeat (first|(with_reducible first|exact HB.out|apply bwa|apply pbN|apply bw1)|exact HB.out)) hb);have n1_:=AsZ.mk (hbox);have n2_:=AsZ.mk ((by rw [hg];exact (bwz (by repeat (first|(with_reducible first|exact HB.out|apply bwa|apply pbN|apply bw1)|exact HB.out))):w.heap.size≤gb166));have n3_:=AsZ.mk ((by rw [hg];exact (bwz (by repeat (first|(with_reducible first|exact HB.out|apply bwa|apply pbN|apply bw1)|exact HB.out))):w.heap.size≤gb166));clear HB;have HB:=n0_;have BK166:=n1_;have GW166:=n2_;have GE166:=n3_;clear n0_ n1_ n2_ n3_;clear hb hbox hg;have hcz8_0:w7.cell? ⟨gb166,0,none⟩=some (.string a0_0):=(kc BK166.out 0).trans rfl;have hcz8_1:w7.cell? ⟨gb166,1,none⟩=some (.int .i64 a0_1):=(kc BK166.out 1).trans rfl;have hcz8_2:w7.cell? ⟨gb166,2,none⟩=some (.int .i64 a0_2):=(kc BK166.out 2).trans rfl;have hcz8_3:w7.cell? ⟨gb166,3,none⟩=some (.string a0_3):=(kc BK166.out 3).trans rfl;have hfz8_0:=kf BK166.out 0;have hfz8_1:=kf BK166.out 1;have hfz8_2:=kf BK166.out 2;have hfz8_3:=kf BK166.out 3))
   go_ret
   exact ⟨by first|rfl|(simp [errW_none,errW_some]<;>rfl)|(simp [*,errW_none,errW_some]<;>rfl),by repeat (first|(with_reducible first|exact HB.out|apply bwa|apply pbN|apply bw1|refine bws ?_ GE166.out)|exact HB.out)⟩
 rw [if_neg c6] at H
 have c6b0:decide ((wrap64 ((wrap64 (a1 - (a0_0.size:Int))) - (a0_3.size:Int))) < 0)=false:=decide_eq_false c6
 clear c6
 obtain rfl:=zI H
 go_enter Tryd.func26,Tryd.ntmps26
 go_wp2_with (first|((with_reducible refine gate_dst (N:=2) rfl ?_);refine box_event ?hg (N:=2) ?hd (cs:=#[.string a0_0,.int .i64 a0_1,.int .i64 a0_2,.string a0_3]) (t:=51) ?hr ?_;(case hd=>rfl);(case hg=>rfl);(case hr=>first|(go_simp;done)|(go_simp;rfl));intro gb166 hg w9 hbox hb;have n0_:=AsZ.mk (bwp (by repeat (first|(with_reducible first|exact HB.out|apply bwa|apply pbN|apply bw1)|exact HB.out)) hb);have n1_:=AsZ.mk (hbox);have n2_:=AsZ.mk ((by rw [hg];exact (bwz (by repeat (first|(with_reducible first|exact HB.out|apply bwa|apply pbN|apply bw1)|exact HB.out))):w.heap.size≤gb166));have n3_:=AsZ.mk ((by rw [hg];exact (bwz (by repeat (first|(with_reducible first|exact HB.out|apply bwa|apply pbN|apply bw1)|exact HB.out))):w.heap.size≤gb166));clear HB;have HB:=n0_;have BK166:=n1_;have GW166:=n2_;have GE166:=n3_;clear n0_ n1_ n2_ n3_;clear hb hbox hg;have hcz10_0:w9.cell? ⟨gb166,0,none⟩=some (.string a0_0):=(kc BK166.out 0).trans rfl;have hcz10_1:w9.cell? ⟨gb166,1,none⟩=some (.int .i64 a0_1):=(kc BK166.out 1).trans rfl;have hcz10_2:w9.cell? ⟨gb166,2,none⟩=some (.int .i64 a0_2):=(kc BK166.out 2).trans rfl;have hcz10_3:w9.cell? ⟨gb166,3,none⟩=some (.string a0_3):=(kc BK166.out 3).trans rfl;have hfz10_0:=kf BK166.out 0;have hfz10_1:=kf BK166.out 1;have hfz10_2:=kf BK166.out 2;have hfz10_3:=kf BK166.out 3))
 go_ret
 exact ⟨by first|rfl|(simp [errW_none,errW_some]<;>rfl)|(simp [*,errW_none,errW_some]<;>rfl),by repeat (first|(with_reducible first|exact HB.out|apply bwa|apply pbN|apply bw1|refine bws ?_ GE166.out)|exact HB.out)⟩
/-! ### laws_szTower: function 90 -/
def laws_szTower.f (a0_0:ByteArray) (a0_1:Int) (a0_2:Int) (a0_3:ByteArray) (l0_4:List Int) (a1:Int):Option (Int):=(laws_szItem.f a0_0 a0_1 a0_2 a0_3 a1).bind fun t168=>(if t168 < 0 then (some (-1)) else ((laws_szIntS.f l0_4 t168).bind fun t169=>(if t169 < 0 then (some (-1)) else (some t169))))
set_option maxHeartbeats 8000000 in
set_option maxRecDepth 100000 in
theorem laws_szTower.calls (a0_0:ByteArray) (a0_1:Int) (a0_2:Int) (a0_3:ByteArray) (A0_4:Option Addr) (c0_4:Nat) (l0_4:List Int) (a1:Int) (r:Int) (w:World) (hr0_4:Kd.C (Kd.int .i64) w A0_4 l0_4.length l0_4) (hc0_4:l0_4.length≤c0_4) (h:laws_szTower.f a0_0 a0_1 a0_2 a0_3 l0_4 a1=some r) :
    Calls Tryd.prog 90 #[.agg #[.string a0_0,.int .i64 a0_1,.int .i64 a0_2,.string a0_3,.slice A0_4 l0_4.length c0_4],.int .i64 a1] w fun e w'=>e = .returned (.int .i64 r)∧Below w.heap.size w w':=by
 have hu113:=Tryd.underlying113
 have hu51:=Tryd.underlying51
 have HR0_4:=AsZ.mk hr0_4
 have HC0_4:=AsZ.mk hc0_4
 clear hr0_4 hc0_4
 have HB:=AsZ.mk (Below.refl w.heap.size w)
 have H:((laws_szItem.f a0_0 a0_1 a0_2 a0_3 a1).bind fun t168=>(if t168 < 0 then (some (-1)) else ((laws_szIntS.f l0_4 t168).bind fun t169=>(if t169 < 0 then (some (-1)) else (some t169)))))=some r:=h
 clear h
 replace H:=Option.bind_eq_some_iff.mp H
 obtain ⟨t168,A30,H⟩:=H
 replace H:(if t168 < 0 then (some (-1)) else ((laws_szIntS.f l0_4 t168).bind fun t169=>(if t169 < 0 then (some (-1)) else (some t169))))=some r:=H
 have A3:=AsZ.mk A30
 clear A30
 by_cases c4:t168 < 0
 · rw [if_pos c4] at H
   have c4b0:decide (t168 < 0)=true:=zE c4
   clear c4
   obtain rfl:=zI H
   go_enter Tryd.func90,Tryd.ntmps90
   go_wp2_with (first|((with_reducible refine gate_dst (N:=2) rfl ?_);refine box_event ?hg (N:=2) ?hd (cs:=#[.string a0_0,.int .i64 a0_1,.int .i64 a0_2,.string a0_3,.slice A0_4 l0_4.length c0_4]) (t:=113) ?hr ?_;(case hd=>rfl);(case hg=>rfl);(case hr=>first|(go_simp;done)|(go_simp;rfl));intro gb167 hg w5 hbox hb;have n0_:=AsZ.mk (bwp (by repeat (first|(with_reducible first|exact HB.out|apply bwa|apply pbN|apply bw1)|exact HB.out)) hb);have n1_:=AsZ.mk (hbox);have n2_:=AsZ.mk ((by rw [hg];exact (bwz (by repeat (first|(with_reducible first|exact HB.out|apply bwa|apply pbN|apply bw1)|exact HB.out))):w.heap.size≤gb167));have n3_:=AsZ.mk ((by rw [hg];exact (bwz (by repeat (first|(with_reducible first|exact HB.out|apply bwa|apply pbN|apply bw1)|exact HB.out))):w.heap.size≤gb167));clear HB;have HB:=n0_;have BK167:=n1_;have GW167:=n2_;have GE167:=n3_;clear n0_ n1_ n2_ n3_;clear hb hbox hg;have hcz6_0:w5.cell? ⟨gb167,0,none⟩=some (.string a0_0):=(kc BK167.out 0).trans rfl;have hcz6_1:w5.cell? ⟨gb167,1,none⟩=some (.int .i64 a0_1):=(kc BK167.out 1).trans rfl;have hcz6_2:w5.cell? ⟨gb167,2,none⟩=some (.int .i64 a0_2):=(kc BK167.out 2).trans rfl;have hcz6_3:w5.cell? ⟨gb167,3,none⟩=some (.string a0_3):=(kc BK167.out 3).trans rfl;have hcz6_4:w5.cell? ⟨gb167,4,none⟩=some (.slice A0_4 l0_4.length c0_4):=(kc BK167.out 4).trans rfl;have hfz6_0:=kf BK167.out 0;have hfz6_1:=kf BK167.out 1;have hfz6_2:=kf BK167.out 2;have hfz6_3:=kf BK167.out 3;have hfz6_4:=kf BK167.out 4)|((with_reducible refine gcl (f:=26) rfl ?_);refine goesL_ (some 8) rfl rfl Tryd.func26 (by kernel_rfl) rfl #[.agg #[.string a0_0,.int .i64 a0_1,.int .i64 a0_2,.string a0_3],.int .i64 a1] rfl (by (try simp only [zA,zC,zN]);first|done|rfl|(simp only [zM,zL];rfl)) ?_;(with_reducible refine (laws_szItem.calls a0_0 a0_1 a0_2 a0_3 a1 t168 _ A3.out).mono ?_);rintro e w7 ⟨rfl,hb⟩;refine ⟨_,rfl,?_⟩;have n0_:=AsZ.mk (kb (g:=gb167) (o := .cells #[.string a0_0,.int .i64 a0_1,.int .i64 a0_2,.string a0_3,.slice A0_4 l0_4.length c0_4] 113 (0,0)) (by (with_reducible repeat (first|refine kdN ?_ _|refine kd ?_|refine ka ?_ _));exact BK167.out) hb);have n1_:=AsZ.mk (bwp (by repeat (first|(with_reducible first|exact HB.out|apply bwa|apply pbN|apply bw1|refine bws ?_ GE167.out)|exact HB.out)) hb);clear BK167;clear HB;have BK167:=n0_;have HB:=n1_;clear n0_ n1_;(try clear hb);(try clear hb2);(try clear hk);(try clear hi)))
   go_ret
   exact ⟨by first|rfl|(simp [errW_none,errW_some]<;>rfl)|(simp [*,errW_none,errW_some]<;>rfl),by repeat (first|(with_reducible first|exact HB.out|apply bwa|apply pbN|apply bw1|refine bws ?_ GE167.out)|exact HB.out)⟩
 rw [if_neg c4] at H
 have c4b0:decide (t168 < 0)=false:=decide_eq_false c4
 clear c4
 replace H:=Option.bind_eq_some_iff.mp H
 obtain ⟨t169,A80,H⟩:=H
 replace H:(if t169 < 0 then (some (-1)) else (some t169))=some r:=H
 have A8:=AsZ.mk A80
 clear A80
 by_cases c9:t169 < 0
 · rw [if_pos c9] at H
   have c9b0:decide (t169 < 0)=true:=zE c9
   clear c9
   obtain rfl:=zI H
   go_enter Tryd.func90,Tryd.ntmps90
   go_wp2_with (first|((with_reducible refine gate_dst (N:=2) rfl ?_);refine box_event ?hg (N:=2) ?hd (cs:=#[.string a0_0,.int .i64 a0_1,.int .i64 a0_2,.string a0_3,.slice A0_4 l0_4.length c0_4]) (t:=113) ?hr ?_;(case hd=>rfl);(case hg=>rfl);(case hr=>first|(go_simp;done)|(go_simp;rfl));intro gb167 hg w10 hbox hb;have n0_:=AsZ.mk (bwp (by repeat (first|(with_reducible first|exact HB.out|apply bwa|apply pbN|apply bw1)|exact HB.out)) hb);have n1_:=AsZ.mk (hbox);have n2_:=AsZ.mk ((by rw [hg];exact (bwz (by repeat (first|(with_reducible first|exact HB.out|apply bwa|apply pbN|apply bw1)|exact HB.out))):w.heap.size≤gb167));have n3_:=AsZ.mk ((by rw [hg];exact (bwz (by repeat (first|(with_reducible first|exact HB.out|apply bwa|apply pbN|apply bw1)|exact HB.out))):w.heap.size≤gb167));clear HB;have HB:=n0_;have BK167:=n1_;have GW167:=n2_;have GE167:=n3_;clear n0_ n1_ n2_ n3_;clear hb hbox hg;have hcz11_0:w10.cell? ⟨gb167,0,none⟩=some (.string a0_0):=(kc BK167.out 0).trans rfl;have hcz11_1:w10.cell? ⟨gb167,1,none⟩=some (.int .i64 a0_1):=(kc BK167.out 1).trans rfl;have hcz11_2:w10.cell? ⟨gb167,2,none⟩=some (.int .i64 a0_2):=(kc BK167.out 2).trans rfl;have hcz11_3:w10.cell? ⟨gb167,3,none⟩=some (.string a0_3):=(kc BK167.out 3).trans rfl;have hcz11_4:w10.cell? ⟨gb167,4,none⟩=some (.slice A0_4 l0_4.length c0_4):=(kc BK167.out 4).trans rfl;have hfz11_0:=kf BK167.out 0;have hfz11_1:=kf BK167.out 1;have hfz11_2:=kf BK167.out 2;have hfz11_3:=kf BK167.out 3;have hfz11_4:=kf BK167.out 4)|((with_reducible refine gcl (f:=26) rfl ?_);refine goesL_ (some 8) rfl rfl Tryd.func26 (by kernel_rfl) rfl #[.agg #[.string a0_0,.int .i64 a0_1,.int .i64 a0_2,.string a0_3],.int .i64 a1] rfl (by (try simp only [zA,zC,zN]);first|done|rfl|(simp only [zM,zL];rfl)) ?_;(with_reducible refine (laws_szItem.calls a0_0 a0_1 a0_2 a0_3 a1 t168 _ A3.out).mono ?_);rintro e w12 ⟨rfl,hb⟩;refine ⟨_,rfl,?_⟩;have n0_:=AsZ.mk (kb (g:=gb167) (o := .cells #[.string a0_0,.int .i64 a0_1,.int .i64 a0_2,.string a0_3,.slice A0_4 l0_4.length c0_4] 113 (0,0)) (by (with_reducible repeat (first|refine kdN ?_ _|refine kd ?_|refine ka ?_ _));exact BK167.out) hb);have n1_:=AsZ.mk (bwp (by repeat (first|(with_reducible first|exact HB.out|apply bwa|apply pbN|apply bw1|refine bws ?_ GE167.out)|exact HB.out)) hb);clear BK167;clear HB;have BK167:=n0_;have HB:=n1_;clear n0_ n1_;(try clear hb);(try clear hb2);(try clear hk);(try clear hi);have hcz13_0:w12.cell? ⟨gb167,0,none⟩=some (.string a0_0):=(kc BK167.out 0).trans rfl;have hcz13_1:w12.cell? ⟨gb167,1,none⟩=some (.int .i64 a0_1):=(kc BK167.out 1).trans rfl;have hcz13_2:w12.cell? ⟨gb167,2,none⟩=some (.int .i64 a0_2):=(kc BK167.out 2).trans rfl;have hcz13_3:w12.cell? ⟨gb167,3,none⟩=some (.string a0_3):=(kc BK167.out 3).trans rfl;have hcz13_4:w12.cell? ⟨gb167,4,none⟩=some (.slice A0_4 l0_4.length c0_4):=(kc BK167.out 4).trans rfl;have hfz13_0:=kf BK167.out 0;have hfz13_1:=kf BK167.out 1;have hfz13_2:=kf BK167.out 2;have hfz13_3:=kf BK167.out 3;have hfz13_4:=kf BK167.out 4)|((with_reducible refine gcl (f:=57) rfl ?_);refine goesL_ (some 14) rfl rfl Tryd.func57 (by kernel_rfl) rfl #[.slice A0_4 l0_4.length c0_4,.int .i64 t168] rfl (by (try simp only [zA,zC,zN]);first|done|rfl|(simp only [zM,zL];rfl)) ?_;(with_reducible refine (laws_szIntS.calls _ _ l0_4 t168 t169 _ ?side1 ?side2 A8.out).mono ?_);(case side1=>repeat (first|exact (Kd.C_below HR0_4.out HB.out)|(with_reducible refine Kd.C_alloc ?_ _)|(with_reducible refine Kd.C_drewN ?_ _)|(with_reducible refine Kd.C_drew ?_)));(case side2=>exact HC0_4.out);rintro e w' ⟨rfl,⟨nd,rfl⟩⟩;refine ⟨_,rfl,?_⟩))
   go_ret
   exact ⟨by first|rfl|(simp [errW_none,errW_some]<;>rfl)|(simp [*,errW_none,errW_some]<;>rfl),by repeat (first|(with_reducible first|exact HB.out|apply bwa|apply pbN|apply bw1|refine bws ?_ GE167.out)|exact HB.out)⟩
 rw [if_neg c9] at H
 have c9b0:decide (t169 < 0)=false:=decide_eq_false c9
 clear c9
 obtain rfl:=zI H
 go_enter Tryd.func90,Tryd.ntmps90
 go_wp2_with (first|((with_reducible refine gate_dst (N:=2) rfl ?_);refine box_event ?hg (N:=2) ?hd (cs:=#[.string a0_0,.int .i64 a0_1,.int .i64 a0_2,.string a0_3,.slice A0_4 l0_4.length c0_4]) (t:=113) ?hr ?_;(case hd=>rfl);(case hg=>rfl);(case hr=>first|(go_simp;done)|(go_simp;rfl));intro gb167 hg w14 hbox hb;have n0_:=AsZ.mk (bwp (by repeat (first|(with_reducible first|exact HB.out|apply bwa|apply pbN|apply bw1)|exact HB.out)) hb);have n1_:=AsZ.mk (hbox);have n2_:=AsZ.mk ((by rw [hg];exact (bwz (by repeat (first|(with_reducible first|exact HB.out|apply bwa|apply pbN|apply bw1)|exact HB.out))):w.heap.size≤gb167));have n3_:=AsZ.mk ((by rw [hg];exact (bwz (by repeat (first|(with_reducible first|exact HB.out|apply bwa|apply pbN|apply bw1)|exact HB.out))):w.heap.size≤gb167));clear HB;have HB:=n0_;have BK167:=n1_;have GW167:=n2_;have GE167:=n3_;clear n0_ n1_ n2_ n3_;clear hb hbox hg;have hcz15_0:w14.cell? ⟨gb167,0,none⟩=some (.string a0_0):=(kc BK167.out 0).trans rfl;have hcz15_1:w14.cell? ⟨gb167,1,none⟩=some (.int .i64 a0_1):=(kc BK167.out 1).trans rfl;have hcz15_2:w14.cell? ⟨gb167,2,none⟩=some (.int .i64 a0_2):=(kc BK167.out 2).trans rfl;have hcz15_3:w14.cell? ⟨gb167,3,none⟩=some (.string a0_3):=(kc BK167.out 3).trans rfl;have hcz15_4:w14.cell? ⟨gb167,4,none⟩=some (.slice A0_4 l0_4.length c0_4):=(kc BK167.out 4).trans rfl;have hfz15_0:=kf BK167.out 0;have hfz15_1:=kf BK167.out 1;have hfz15_2:=kf BK167.out 2;have hfz15_3:=kf BK167.out 3;have hfz15_4:=kf BK167.out 4)|((with_reducible refine gcl (f:=26) rfl ?_);refine goesL_ (some 8) rfl rfl Tryd.func26 (by kernel_rfl) rfl #[.agg #[.string a0_0,.int .i64 a0_1,.int .i64 a0_2,.string a0_3],.int .i64 a1] rfl (by (try simp only [zA,zC,zN]);first|done|rfl|(simp only [zM,zL];rfl)) ?_;(with_reducible refine (laws_szItem.calls a0_0 a0_1 a0_2 a0_3 a1 t168 _ A3.out).mono ?_);rintro e w16 ⟨rfl,hb⟩;refine ⟨_,rfl,?_⟩;have n0_:=AsZ.mk (kb (g:=gb167) (o := .cells #[.string a0_0,.int .i64 a0_1,.int .i64 a0_2,.string a0_3,.slice A0_4 l0_4.length c0_4] 113 (0,0)) (by (with_reducible repeat (first|refine kdN ?_ _|refine kd ?_|refine ka ?_ _));exact BK167.out) hb);have n1_:=AsZ.mk (bwp (by repeat (first|(with_reducible first|exact HB.out|apply bwa|apply pbN|apply bw1|refine bws ?_ GE167.out)|exact HB.out)) hb);clear BK167;clear HB;have BK167:=n0_;have HB:=n1_;clear n0_ n1_;(try clear hb);(try clear hb2);(try clear hk);(try clear hi);have hcz17_0:w16.cell? ⟨gb167,0,none⟩=some (.string a0_0):=(kc BK167.out 0).trans rfl;have hcz17_1:w16.cell? ⟨gb167,1,none⟩=some (.int .i64 a0_1):=(kc BK167.out 1).trans rfl;have hcz17_2:w16.cell? ⟨gb167,2,none⟩=some (.int .i64 a0_2):=(kc BK167.out 2).trans rfl;have hcz17_3:w16.cell? ⟨gb167,3,none⟩=some (.string a0_3):=(kc BK167.out 3).trans rfl;have hcz17_4:w16.cell? ⟨gb167,4,none⟩=some (.slice A0_4 l0_4.length c0_4):=(kc BK167.out 4).trans rfl;have hfz17_0:=kf BK167.out 0;have hfz17_1:=kf BK167.out 1;have hfz17_2:=kf BK167.out 2;have hfz17_3:=kf BK167.out 3;have hfz17_4:=kf BK167.out 4)|((with_reducible refine gcl (f:=57) rfl ?_);refine goesL_ (some 14) rfl rfl Tryd.func57 (by kernel_rfl) rfl #[.slice A0_4 l0_4.length c0_4,.int .i64 t168] rfl (by (try simp only [zA,zC,zN]);first|done|rfl|(simp only [zM,zL];rfl)) ?_;(with_reducible refine (laws_szIntS.calls _ _ l0_4 t168 t169 _ ?side1 ?side2 A8.out).mono ?_);(case side1=>repeat (first|exact (Kd.C_below HR0_4.out HB.out)|(with_reducible refine Kd.C_alloc ?_ _)|(with_reducible refine Kd.C_drewN ?_ _)|(with_reducible refine Kd.C_drew ?_)));(case side2=>exact HC0_4.out);rintro e w' ⟨rfl,⟨nd,rfl⟩⟩;refine ⟨_,rfl,?_⟩))
 go_ret
 exact ⟨by first|rfl|(simp [errW_none,errW_some]<;>rfl)|(simp [*,errW_none,errW_some]<;>rfl),by repeat (first|(with_reducible first|exact HB.out|apply bwa|apply pbN|apply bw1|refine bws ?_ GE167.out)|exact HB.out)⟩
/-! ### laws_szTowerS: function 58 -/
def laws_szTowerS.l0:Nat→List (S113)→Int→Int→Option (Int)
  |0,_,_,_=>none
  |k + 1,x0,x1,x5=>if x5 < (x0.length:Int) then (if 0≤x5 then ((laws_szTower.f ((rd_T113 x0 x5).f0.f0) ((rd_T113 x0 x5).f0.f1) ((rd_T113 x0 x5).f0.f2) ((rd_T113 x0 x5).f0.f3) ((rd_T113 x0 x5).f1) x1).bind fun t171=>(if t171 < 0 then (some (-1)) else (laws_szTowerS.l0 k x0 t171 (wrap64 (x5 + 1))))) else (none)) else (some x1)
def laws_szTowerS.f (k:Nat) (l0:List (S113)) (a1:Int):Option (Int):=if (wrap64 (a1 - (l0.length:Int))) < 0 then (some (-1)) else (laws_szTowerS.l0 k l0 (wrap64 (a1 - (l0.length:Int))) 0)
theorem laws_szTowerS.mono_l:∀ k,(∀ y0 y1 y2,LeO (laws_szTowerS.l0 k y0 y1 y2) (laws_szTowerS.l0 (k + 1) y0 y1 y2))
  |0=>fun _ _ _ r h=>by simp [laws_szTowerS.l0] at h
  |k + 1=>by
    have ih0:=laws_szTowerS.mono_l k
    · intro y0 y1 y2
      unfold laws_szTowerS.l0
      repeat' first
      |(with_reducible exact ih0 _ _ _)
      |(with_reducible exact LeO.refl _)
      |(with_reducible exact LeO.none _)
      |(with_reducible refine LeO.ite ?_ ?_)
      |(with_reducible refine LeO.bind ?_ (fun _=>?_))
      |exact ih0 _ _ _
      |exact LeO.none _
      |refine LeO.ite ?_ ?_
      |refine LeO.bind ?_ (fun _=>?_)
theorem laws_szTowerS.mono:∀ a0 a1 k,LeO (laws_szTowerS.f k a0 a1) (laws_szTowerS.f (k + 1) a0 a1):=by
  intro a0 a1 k
  have ih0:=laws_szTowerS.mono_l k
  unfold laws_szTowerS.f
  repeat' first
      |(with_reducible exact ih0 _ _ _)
      |(with_reducible exact LeO.refl _)
      |(with_reducible exact LeO.none _)
      |(with_reducible refine LeO.ite ?_ ?_)
      |(with_reducible refine LeO.bind ?_ (fun _=>?_))
      |exact ih0 _ _ _
      |exact LeO.none _
      |refine LeO.ite ?_ ?_
      |refine LeO.bind ?_ (fun _=>?_)
set_option maxHeartbeats 8000000 in
set_option maxRecDepth 100000 in
theorem laws_szTowerS.calls (k:Nat) (A0:Option Addr) (c0:Nat) (l0:List (S113)) (a1:Int) (r:Int) (w:World) (hr0:Kd.C k113 w A0 l0.length l0) (hc0:l0.length≤c0) (h:laws_szTowerS.f k l0 a1=some r) :
    Calls Tryd.prog 58 #[.slice A0 l0.length c0,.int .i64 a1] w fun e w'=>e = .returned (.int .i64 r)∧Below w.heap.size w w':=by
 have hu113:=Tryd.underlying113
 have HR0:=AsZ.mk hr0
 have HC0:=AsZ.mk hc0
 clear hr0 hc0
 have HB:=AsZ.mk (Below.refl w.heap.size w)
 have H:(if (wrap64 (a1 - (l0.length:Int))) < 0 then (some (-1)) else (laws_szTowerS.l0 k l0 (wrap64 (a1 - (l0.length:Int))) 0))=some r:=h
 clear h
 by_cases c3:(wrap64 (a1 - (l0.length:Int))) < 0
 · rw [if_pos c3] at H
   have c3b0:decide ((wrap64 (a1 - (l0.length:Int))) < 0)=true:=zE c3
   clear c3
   obtain rfl:=zI H
   go_enter Tryd.func58,Tryd.ntmps58
   go_wp2
   go_ret
   exact ⟨by first|rfl|(simp [errW_none,errW_some]<;>rfl)|(simp [*,errW_none,errW_some]<;>rfl),by repeat (first|(with_reducible first|exact HB.out|apply bwa|apply pbN|apply bw1)|exact HB.out)⟩
 rw [if_neg c3] at H
 have c3b0:decide ((wrap64 (a1 - (l0.length:Int))) < 0)=false:=decide_eq_false c3
 clear c3
 have H':=AsZ.mk H
 clear H
 go_enter Tryd.func58,Tryd.ntmps58
 go_wp2
 go_loopg [1,5] k (fun kq v1 v5 w' => ∃ (x1_1:Int) (x5_1:Int),v1 = .int .i64 x1_1∧v5 = .int .i64 x5_1∧AsZ (laws_szTowerS.l0 kq l0 x1_1 x5_1=some r)∧AsZ (kq≤k)∧AsZ (Below w.heap.size w w'))
 case atStart=>exact ⟨(wrap64 (a1 - (l0.length:Int))),(0),(by first|rfl|(simp;done)|(simp [*];done)),(by first|rfl|(simp;done)|(simp [*];done)),H',⟨Nat.le_refl _⟩,⟨by repeat (first|(with_reducible first|exact HB.out|apply bwa|apply pbN|apply bw1)|exact HB.out)⟩⟩
 case round =>
  clear H'
  try clear p2
  try clear c3
  try clear c3b0
  obtain ⟨x1_1,x5_1,rfl,rfl,HA,HK1,HB⟩:=hrel
  cases gk with
  |zero=>exact absurd HA.out (by simp [laws_szTowerS.l0])
  |succ k1 =>
   have H:=HA.out
   clear HA
   simp only [laws_szTowerS.l0] at H
   by_cases c4:x5_1 < (l0.length:Int)
   rotate_left
   · rw [if_neg c4] at H
     have c4b0:decide (x5_1 < (l0.length:Int))=false:=decide_eq_false c4
     clear c4
     obtain rfl:=zI H
     go_wp2
     go_ret
     exact ⟨by first|rfl|(simp [errW_none,errW_some]<;>rfl)|(simp [*,errW_none,errW_some]<;>rfl),by repeat (first|(with_reducible first|exact HB.out|apply bwa|apply pbN|apply bw1)|exact HB.out)⟩
   rw [if_pos c4] at H
   have c4b0:decide (x5_1 < (l0.length:Int))=true:=zE c4
   clear c4
   by_cases c5:0≤x5_1
   rotate_left
   · rw [if_neg c5] at H
     exact absurd H (by simp)
   rw [if_pos c5] at H
   have c5b0:decide (0≤x5_1)=true:=zE c5
   clear c5
   replace H:=Option.bind_eq_some_iff.mp H
   obtain ⟨t171,A60,H⟩:=H
   replace H:(if t171 < 0 then (some (-1)) else (laws_szTowerS.l0 k1 l0 t171 (wrap64 (x5_1 + 1))))=some r:=H
   have A6:=AsZ.mk A60
   clear A60
   by_cases c7:t171 < 0
   · rw [if_pos c7] at H
     have c7b0:decide (t171 < 0)=true:=zE c7
     clear c7
     obtain rfl:=zI H
     have p170:0≤(x5_1:Int):=zD (by first|(with_reducible assumption)|assumption)
     have q170:x5_1 < (l0.length:Int):=zD (by first|(with_reducible assumption)|assumption)
     obtain ⟨ad170,A170_4,c170_4,e170,hx170_0,hx170_1,hx170_2,hx170_3,hx170_4,hl170_4,hi170_4⟩:=at_T113 HR0.out x5_1 p170 q170
     cases e170
     replace hx170_0:=(HB.out.cell (zB w _ hx170_0)).trans hx170_0
     replace hx170_1:=(HB.out.cell (zB w _ hx170_1)).trans hx170_1
     replace hx170_2:=(HB.out.cell (zB w _ hx170_2)).trans hx170_2
     replace hx170_3:=(HB.out.cell (zB w _ hx170_3)).trans hx170_3
     replace hx170_4:=(HB.out.cell (zB w _ hx170_4)).trans hx170_4
     have HR170_4:=AsZ.mk hi170_4
     have HC170_4:=AsZ.mk hl170_4
     clear hi170_4 hl170_4
     replace p170:=eq_true p170
     replace q170:=eq_true q170
     go_wp2_with (first|((with_reducible refine gcl (f:=90) rfl ?_);refine goesL_ (some 23) rfl rfl Tryd.func90 (by kernel_rfl) rfl #[.agg #[.string ((rd_T113 l0 x5_1).f0.f0),.int .i64 ((rd_T113 l0 x5_1).f0.f1),.int .i64 ((rd_T113 l0 x5_1).f0.f2),.string ((rd_T113 l0 x5_1).f0.f3),.slice A170_4 ((rd_T113 l0 x5_1).f1).length c170_4],.int .i64 x1_1] rfl (by (try simp only [zA,zC,zN]);first|done|rfl|(simp only [zM,zL];rfl)) ?_;(with_reducible refine (laws_szTower.calls ((rd_T113 l0 x5_1).f0.f0) ((rd_T113 l0 x5_1).f0.f1) ((rd_T113 l0 x5_1).f0.f2) ((rd_T113 l0 x5_1).f0.f3) _ _ ((rd_T113 l0 x5_1).f1) x1_1 t171 _ ?side1 ?side2 A6.out).mono ?_);(case side1=>repeat (first|exact (Kd.C_below HR170_4.out HB.out)|(with_reducible refine Kd.C_alloc ?_ _)|(with_reducible refine Kd.C_drewN ?_ _)|(with_reducible refine Kd.C_drew ?_)));(case side2=>exact HC170_4.out);rintro e w8 ⟨rfl,hb⟩;refine ⟨_,rfl,?_⟩;have n0_:=AsZ.mk (bwp (by repeat (first|(with_reducible first|exact HB.out|apply bwa|apply pbN|apply bw1)|exact HB.out)) hb);clear HB;have HB:=n0_;clear n0_;(try clear hb);(try clear hb2);(try clear hk);(try clear hi)))
     go_ret
     exact ⟨by first|rfl|(simp [errW_none,errW_some]<;>rfl)|(simp [*,errW_none,errW_some]<;>rfl),by repeat (first|(with_reducible first|exact HB.out|apply bwa|apply pbN|apply bw1)|exact HB.out)⟩
   rw [if_neg c7] at H
   have c7b0:decide (t171 < 0)=false:=decide_eq_false c7
   clear c7
   have H':=AsZ.mk H
   clear H
   have p170:0≤(x5_1:Int):=zD (by first|(with_reducible assumption)|assumption)
   have q170:x5_1 < (l0.length:Int):=zD (by first|(with_reducible assumption)|assumption)
   obtain ⟨ad170,A170_4,c170_4,e170,hx170_0,hx170_1,hx170_2,hx170_3,hx170_4,hl170_4,hi170_4⟩:=at_T113 HR0.out x5_1 p170 q170
   cases e170
   replace hx170_0:=(HB.out.cell (zB w _ hx170_0)).trans hx170_0
   replace hx170_1:=(HB.out.cell (zB w _ hx170_1)).trans hx170_1
   replace hx170_2:=(HB.out.cell (zB w _ hx170_2)).trans hx170_2
   replace hx170_3:=(HB.out.cell (zB w _ hx170_3)).trans hx170_3
   replace hx170_4:=(HB.out.cell (zB w _ hx170_4)).trans hx170_4
   have HR170_4:=AsZ.mk hi170_4
   have HC170_4:=AsZ.mk hl170_4
   clear hi170_4 hl170_4
   replace p170:=eq_true p170
   replace q170:=eq_true q170
   go_wp2_with (first|((with_reducible refine gcl (f:=90) rfl ?_);refine goesL_ (some 23) rfl rfl Tryd.func90 (by kernel_rfl) rfl #[.agg #[.string ((rd_T113 l0 x5_1).f0.f0),.int .i64 ((rd_T113 l0 x5_1).f0.f1),.int .i64 ((rd_T113 l0 x5_1).f0.f2),.string ((rd_T113 l0 x5_1).f0.f3),.slice A170_4 ((rd_T113 l0 x5_1).f1).length c170_4],.int .i64 x1_1] rfl (by (try simp only [zA,zC,zN]);first|done|rfl|(simp only [zM,zL];rfl)) ?_;(with_reducible refine (laws_szTower.calls ((rd_T113 l0 x5_1).f0.f0) ((rd_T113 l0 x5_1).f0.f1) ((rd_T113 l0 x5_1).f0.f2) ((rd_T113 l0 x5_1).f0.f3) _ _ ((rd_T113 l0 x5_1).f1) x1_1 t171 _ ?side1 ?side2 A6.out).mono ?_);(case side1=>repeat (first|exact (Kd.C_below HR170_4.out HB.out)|(with_reducible refine Kd.C_alloc ?_ _)|(with_reducible refine Kd.C_drewN ?_ _)|(with_reducible refine Kd.C_drew ?_)));(case side2=>exact HC170_4.out);rintro e w9 ⟨rfl,hb⟩;refine ⟨_,rfl,?_⟩;have n0_:=AsZ.mk (bwp (by repeat (first|(with_reducible first|exact HB.out|apply bwa|apply pbN|apply bw1)|exact HB.out)) hb);clear HB;have HB:=n0_;clear n0_;(try clear hb);(try clear hb2);(try clear hk);(try clear hi)))
   go_roundg k1
   case measure=>have:=HK1.out;omega
   case rel=>exact ⟨(t171),(wrap64 (x5_1 + 1)),(by first|rfl|(simp;done)|(simp [*];done)),(by first|rfl|(simp;done)|(simp [*];done)),H',⟨by have:=HK1.out;omega⟩,⟨by repeat (first|(with_reducible first|exact HB.out|apply bwa|apply pbN|apply bw1)|exact HB.out)⟩⟩
/-! ### laws_szSkip: function 18 -/
def laws_szSkip.f (k:Nat) (l0_0:List Int) (l0_1:List (S113)) (a1:Int):Option (Int):=(laws_szIntS.f l0_0 a1).bind fun t173=>(if t173 < 0 then (some (-1)) else ((laws_szTowerS.f k l0_1 t173).bind fun t174=>(if t174 < 0 then (some (-1)) else (some t174))))
theorem laws_szSkip.mono:∀ a0 a1 a2 k,LeO (laws_szSkip.f k a0 a1 a2) (laws_szSkip.f (k + 1) a0 a1 a2):=by
  intro a0 a1 a2 k
  unfold laws_szSkip.f
  repeat' first
      |(with_reducible exact laws_szTowerS.mono _ _ _)
      |(with_reducible exact LeO.refl _)
      |(with_reducible exact LeO.none _)
      |(with_reducible refine LeO.ite ?_ ?_)
      |(with_reducible refine LeO.bind ?_ (fun _=>?_))
      |exact laws_szTowerS.mono _ _ _
      |exact LeO.none _
      |refine LeO.ite ?_ ?_
      |refine LeO.bind ?_ (fun _=>?_)
set_option maxHeartbeats 8000000 in
set_option maxRecDepth 100000 in
theorem laws_szSkip.calls (k:Nat) (A0_0:Option Addr) (c0_0:Nat) (l0_0:List Int) (A0_1:Option Addr) (c0_1:Nat) (l0_1:List (S113)) (a1:Int) (r:Int) (w:World) (hr0_0:Kd.C (Kd.int .i64) w A0_0 l0_0.length l0_0) (hc0_0:l0_0.length≤c0_0) (hr0_1:Kd.C k113 w A0_1 l0_1.length l0_1) (hc0_1:l0_1.length≤c0_1) (h:laws_szSkip.f k l0_0 l0_1 a1=some r) :
    Calls Tryd.prog 18 #[.agg #[.slice A0_0 l0_0.length c0_0,.slice A0_1 l0_1.length c0_1],.int .i64 a1] w fun e w'=>e = .returned (.int .i64 r)∧Below w.heap.size w w':=by
 have hu43:=Tryd.underlying43
 have HR0_0:=AsZ.mk hr0_0
 have HC0_0:=AsZ.mk hc0_0
 clear hr0_0 hc0_0
 have HR0_1:=AsZ.mk hr0_1
 have HC0_1:=AsZ.mk hc0_1
 clear hr0_1 hc0_1
 have HB:=AsZ.mk (Below.refl w.heap.size w)
 have H:((laws_szIntS.f l0_0 a1).bind fun t173=>(if t173 < 0 then (some (-1)) else ((laws_szTowerS.f k l0_1 t173).bind fun t174=>(if t174 < 0 then (some (-1)) else (some t174)))))=some r:=h
 clear h
 replace H:=Option.bind_eq_some_iff.mp H
 obtain ⟨t173,A30,H⟩:=H
 replace H:(if t173 < 0 then (some (-1)) else ((laws_szTowerS.f k l0_1 t173).bind fun t174=>(if t174 < 0 then (some (-1)) else (some t174))))=some r:=H
 have A3:=AsZ.mk A30
 clear A30
 by_cases c4:t173 < 0
 · rw [if_pos c4] at H
   have c4b0:decide (t173 < 0)=true:=zE c4
   clear c4
   obtain rfl:=zI H
   go_enter Tryd.func18,Tryd.ntmps18
   go_wp2_with (first|((with_reducible refine gate_dst (N:=2) rfl ?_);refine box_event ?hg (N:=2) ?hd (cs:=#[.slice A0_0 l0_0.length c0_0,.slice A0_1 l0_1.length c0_1]) (t:=43) ?hr ?_;(case hd=>rfl);(case hg=>rfl);(case hr=>first|(go_simp;done)|(go_simp;rfl));intro gb172 hg w5 hbox hb;have n0_:=AsZ.mk (bwp (by repeat (first|(with_reducible first|exact HB.out|apply bwa|apply pbN|apply bw1)|exact HB.out)) hb);have n1_:=AsZ.mk (hbox);have n2_:=AsZ.mk ((by rw [hg];exact (bwz (by repeat (first|(with_reducible first|exact HB.out|apply bwa|apply pbN|apply bw1)|exact HB.out))):w.heap.size≤gb172));have n3_:=AsZ.mk ((by rw [hg];exact (bwz (by repeat (first|(with_reducible first|exact HB.out|apply bwa|apply pbN|apply bw1)|exact HB.out))):w.heap.size≤gb172));clear HB;have HB:=n0_;have BK172:=n1_;have GW172:=n2_;have GE172:=n3_;clear n0_ n1_ n2_ n3_;clear hb hbox hg;have hcz6_0:w5.cell? ⟨gb172,0,none⟩=some (.slice A0_0 l0_0.length c0_0):=(kc BK172.out 0).trans rfl;have hcz6_1:w5.cell? ⟨gb172,1,none⟩=some (.slice A0_1 l0_1.length c0_1):=(kc BK172.out 1).trans rfl;have hfz6_0:=kf BK172.out 0;have hfz6_1:=kf BK172.out 1)|((with_reducible refine gcl (f:=57) rfl ?_);refine goesL_ (some 8) rfl rfl Tryd.func57 (by kernel_rfl) rfl #[.slice A0_0 l0_0.length c0_0,.int .i64 a1] rfl (by (try simp only [zA,zC,zN]);first|done|rfl|(simp only [zM,zL];rfl)) ?_;(with_reducible refine (laws_szIntS.calls _ _ l0_0 a1 t173 _ ?side1 ?side2 A3.out).mono ?_);(case side1=>repeat (first|exact (Kd.C_below HR0_0.out HB.out)|(with_reducible refine Kd.C_alloc ?_ _)|(with_reducible refine Kd.C_drewN ?_ _)|(with_reducible refine Kd.C_drew ?_)));(case side2=>exact HC0_0.out);rintro e w' ⟨rfl,⟨nd,rfl⟩⟩;refine ⟨_,rfl,?_⟩))
   go_ret
   exact ⟨by first|rfl|(simp [errW_none,errW_some]<;>rfl)|(simp [*,errW_none,errW_some]<;>rfl),by repeat (first|(with_reducible first|exact HB.out|apply bwa|apply pbN|apply bw1|refine bws ?_ GE172.out)|exact HB.out)⟩
 rw [if_neg c4] at H
 have c4b0:decide (t173 < 0)=false:=decide_eq_false c4
 clear c4
 replace H:=Option.bind_eq_some_iff.mp H
 obtain ⟨t174,A70,H⟩:=H
 replace H:(if t174 < 0 then (some (-1)) else (some t174))=some r:=H
 have A7:=AsZ.mk A70
 clear A70
 by_cases c8:t174 < 0
 · rw [if_pos c8] at H
   have c8b0:decide (t174 < 0)=true:=zE c8
   clear c8
   obtain rfl:=zI H
   go_enter Tryd.func18,Tryd.ntmps18
   go_wp2_with (first|((with_reducible refine gate_dst (N:=2) rfl ?_);refine box_event ?hg (N:=2) ?hd (cs:=#[.slice A0_0 l0_0.length c0_0,.slice A0_1 l0_1.length c0_1]) (t:=43) ?hr ?_;(case hd=>rfl);(case hg=>rfl);(case hr=>first|(go_simp;done)|(go_simp;rfl));intro gb172 hg w9 hbox hb;have n0_:=AsZ.mk (bwp (by repeat (first|(with_reducible first|exact HB.out|apply bwa|apply pbN|apply bw1)|exact HB.out)) hb);have n1_:=AsZ.mk (hbox);have n2_:=AsZ.mk ((by rw [hg];exact (bwz (by repeat (first|(with_reducible first|exact HB.out|apply bwa|apply pbN|apply bw1)|exact HB.out))):w.heap.size≤gb172));have n3_:=AsZ.mk ((by rw [hg];exact (bwz (by repeat (first|(with_reducible first|exact HB.out|apply bwa|apply pbN|apply bw1)|exact HB.out))):w.heap.size≤gb172));clear HB;have HB:=n0_;have BK172:=n1_;have GW172:=n2_;have GE172:=n3_;clear n0_ n1_ n2_ n3_;clear hb hbox hg;have hcz10_0:w9.cell? ⟨gb172,0,none⟩=some (.slice A0_0 l0_0.length c0_0):=(kc BK172.out 0).trans rfl;have hcz10_1:w9.cell? ⟨gb172,1,none⟩=some (.slice A0_1 l0_1.length c0_1):=(kc BK172.out 1).trans rfl;have hfz10_0:=kf BK172.out 0;have hfz10_1:=kf BK172.out 1)|((with_reducible refine gcl (f:=57) rfl ?_);refine goesL_ (some 8) rfl rfl Tryd.func57 (by kernel_rfl) rfl #[.slice A0_0 l0_0.length c0_0,.int .i64 a1] rfl (by (try simp only [zA,zC,zN]);first|done|rfl|(simp only [zM,zL];rfl)) ?_;(with_reducible refine (laws_szIntS.calls _ _ l0_0 a1 t173 _ ?side1 ?side2 A3.out).mono ?_);(case side1=>repeat (first|exact (Kd.C_below HR0_0.out HB.out)|(with_reducible refine Kd.C_alloc ?_ _)|(with_reducible refine Kd.C_drewN ?_ _)|(with_reducible refine Kd.C_drew ?_)));(case side2=>exact HC0_0.out);rintro e w' ⟨rfl,⟨nd,rfl⟩⟩;refine ⟨_,rfl,?_⟩)|((with_reducible refine gcl (f:=58) rfl ?_);refine goesL_ (some 14) rfl rfl Tryd.func58 (by kernel_rfl) rfl #[.slice A0_1 l0_1.length c0_1,.int .i64 t173] rfl (by (try simp only [zA,zC,zN]);first|done|rfl|(simp only [zM,zL];rfl)) ?_;(with_reducible refine (laws_szTowerS.calls k _ _ l0_1 t173 t174 _ ?side1 ?side2 A7.out).mono ?_);(case side1=>repeat (first|exact (Kd.C_below HR0_1.out (by repeat (first|(with_reducible first|exact HB.out|apply bwa|apply pbN|apply bw1|refine bws ?_ GE172.out)|exact HB.out)))|(with_reducible refine Kd.C_alloc ?_ _)|(with_reducible refine Kd.C_drewN ?_ _)|(with_reducible refine Kd.C_drew ?_)));(case side2=>exact HC0_1.out);rintro e w11 ⟨rfl,hb⟩;refine ⟨_,rfl,?_⟩;have n0_:=AsZ.mk (kb (g:=gb172) (o := .cells #[.slice A0_0 l0_0.length c0_0,.slice A0_1 l0_1.length c0_1] 43 (0,0)) (by (with_reducible repeat (first|refine kdN ?_ _|refine kd ?_|refine ka ?_ _));exact BK172.out) hb);have n1_:=AsZ.mk (bwp (by repeat (first|(with_reducible first|exact HB.out|apply bwa|apply pbN|apply bw1|refine bws ?_ GE172.out)|exact HB.out)) hb);clear BK172;clear HB;have BK172:=n0_;have HB:=n1_;clear n0_ n1_;(try clear hb);(try clear hb2);(try clear hk);(try clear hi)))
   go_ret
   exact ⟨by first|rfl|(simp [errW_none,errW_some]<;>rfl)|(simp [*,errW_none,errW_some]<;>rfl),by repeat (first|(with_reducible first|exact HB.out|apply bwa|apply pbN|apply bw1|refine bws ?_ GE172.out)|exact HB.out)⟩
 rw [if_neg c8] at H
 have c8b0:decide (t174 < 0)=false:=decide_eq_false c8
 clear c8
 obtain rfl:=zI H
 go_enter Tryd.func18,Tryd.ntmps18
 go_wp2_with (first|((with_reducible refine gate_dst (N:=2) rfl ?_);refine box_event ?hg (N:=2) ?hd (cs:=#[.slice A0_0 l0_0.length c0_0,.slice A0_1 l0_1.length c0_1]) (t:=43) ?hr ?_;(case hd=>rfl);(case hg=>rfl);(case hr=>first|(go_simp;done)|(go_simp;rfl));intro gb172 hg w12 hbox hb;have n0_:=AsZ.mk (bwp (by repeat (first|(with_reducible first|exact HB.out|apply bwa|apply pbN|apply bw1)|exact HB.out)) hb);have n1_:=AsZ.mk (hbox);have n2_:=AsZ.mk ((by rw [hg];exact (bwz (by repeat (first|(with_reducible first|exact HB.out|apply bwa|apply pbN|apply bw1)|exact HB.out))):w.heap.size≤gb172));have n3_:=AsZ.mk ((by rw [hg];exact (bwz (by repeat (first|(with_reducible first|exact HB.out|apply bwa|apply pbN|apply bw1)|exact HB.out))):w.heap.size≤gb172));clear HB;have HB:=n0_;have BK172:=n1_;have GW172:=n2_;have GE172:=n3_;clear n0_ n1_ n2_ n3_;clear hb hbox hg;have hcz13_0:w12.cell? ⟨gb172,0,none⟩=some (.slice A0_0 l0_0.length c0_0):=(kc BK172.out 0).trans rfl;have hcz13_1:w12.cell? ⟨gb172,1,none⟩=some (.slice A0_1 l0_1.length c0_1):=(kc BK172.out 1).trans rfl;have hfz13_0:=kf BK172.out 0;have hfz13_1:=kf BK172.out 1)|((with_reducible refine gcl (f:=57) rfl ?_);refine goesL_ (some 8) rfl rfl Tryd.func57 (by kernel_rfl) rfl #[.slice A0_0 l0_0.length c0_0,.int .i64 a1] rfl (by (try simp only [zA,zC,zN]);first|done|rfl|(simp only [zM,zL];rfl)) ?_;(with_reducible refine (laws_szIntS.calls _ _ l0_0 a1 t173 _ ?side1 ?side2 A3.out).mono ?_);(case side1=>repeat (first|exact (Kd.C_below HR0_0.out HB.out)|(with_reducible refine Kd.C_alloc ?_ _)|(with_reducible refine Kd.C_drewN ?_ _)|(with_reducible refine Kd.C_drew ?_)));(case side2=>exact HC0_0.out);rintro e w' ⟨rfl,⟨nd,rfl⟩⟩;refine ⟨_,rfl,?_⟩)|((with_reducible refine gcl (f:=58) rfl ?_);refine goesL_ (some 14) rfl rfl Tryd.func58 (by kernel_rfl) rfl #[.slice A0_1 l0_1.length c0_1,.int .i64 t173] rfl (by (try simp only [zA,zC,zN]);first|done|rfl|(simp only [zM,zL];rfl)) ?_;(with_reducible refine (laws_szTowerS.calls k _ _ l0_1 t173 t174 _ ?side1 ?side2 A7.out).mono ?_);(case side1=>repeat (first|exact (Kd.C_below HR0_1.out (by repeat (first|(with_reducible first|exact HB.out|apply bwa|apply pbN|apply bw1|refine bws ?_ GE172.out)|exact HB.out)))|(with_reducible refine Kd.C_alloc ?_ _)|(with_reducible refine Kd.C_drewN ?_ _)|(with_reducible refine Kd.C_drew ?_)));(case side2=>exact HC0_1.out);rintro e w14 ⟨rfl,hb⟩;refine ⟨_,rfl,?_⟩;have n0_:=AsZ.mk (kb (g:=gb172) (o := .cells #[.slice A0_0 l0_0.length c0_0,.slice A0_1 l0_1.length c0_1] 43 (0,0)) (by (with_reducible repeat (first|refine kdN ?_ _|refine kd ?_|refine ka ?_ _));exact BK172.out) hb);have n1_:=AsZ.mk (bwp (by repeat (first|(with_reducible first|exact HB.out|apply bwa|apply pbN|apply bw1|refine bws ?_ GE172.out)|exact HB.out)) hb);clear BK172;clear HB;have BK172:=n0_;have HB:=n1_;clear n0_ n1_;(try clear hb);(try clear hb2);(try clear hk);(try clear hi)))
 go_ret
 exact ⟨by first|rfl|(simp [errW_none,errW_some]<;>rfl)|(simp [*,errW_none,errW_some]<;>rfl),by repeat (first|(with_reducible first|exact HB.out|apply bwa|apply pbN|apply bw1|refine bws ?_ GE172.out)|exact HB.out)⟩
/-! ### spec_l1In: function 59 -/
def spec_l1In.f (a0:Int) (a1:Int) (a2:Int):Option (Bool):=if a0 ≥ a1 then (some (decide (a0≤a2))) else (some false)
set_option maxHeartbeats 8000000 in
set_option maxRecDepth 100000 in
theorem spec_l1In.calls (a0:Int) (a1:Int) (a2:Int) (r:Bool) (w:World) (h:spec_l1In.f a0 a1 a2=some r) :
    Calls Tryd.prog 59 #[.int .i64 a0,.int .i64 a1,.int .i64 a2] w fun e w'=>e = .returned (.bool r)∧Drawn0 w w':=by
 have H:(if a0 ≥ a1 then (some (decide (a0≤a2))) else (some false))=some r:=h
 clear h
 by_cases c4:a0 ≥ a1
 · rw [if_pos c4] at H
   have c4b0:decide (a1≤a0)=true:=zE c4
   clear c4
   obtain rfl:=zI H
   go_enter Tryd.func59,Tryd.ntmps59
   go_wp2
   go_ret
   exact ⟨by first|rfl|(simp;done)|(simp [*];done),by repeat (first|exact Drawn0.refl _|apply Drawn0.step)⟩
 rw [if_neg c4] at H
 have c4b0:decide (a1≤a0)=false:=decide_eq_false c4
 clear c4
 obtain rfl:=zI H
 go_enter Tryd.func59,Tryd.ntmps59
 go_wp2
 go_ret
 exact ⟨by first|rfl|(simp;done)|(simp [*];done),by repeat (first|exact Drawn0.refl _|apply Drawn0.step)⟩
/-! ### spec_l4Key: function 53 -/
def spec_l4Key.f (a0:ByteArray):Option (Bool):=(spec_l1In.f (a0.size:Int) 1 16).bind fun t175=>(some t175)
set_option maxHeartbeats 8000000 in
set_option maxRecDepth 100000 in
theorem spec_l4Key.calls (a0:ByteArray) (r:Bool) (w:World) (h:spec_l4Key.f a0=some r) :
    Calls Tryd.prog 53 #[.string a0] w fun e w'=>e = .returned (.bool r)∧Drawn0 w w':=by
 have H:((spec_l1In.f (a0.size:Int) 1 16).bind fun t175=>(some t175))=some r:=h
 clear h
 replace H:=Option.bind_eq_some_iff.mp H
 obtain ⟨t175,A20,H⟩:=H
 replace H:(some t175)=some r:=H
 have A2:=AsZ.mk A20
 clear A20
 obtain rfl:=zI H
 go_enter Tryd.func53,Tryd.ntmps53
 go_wp2_with (first|((with_reducible refine gcl (f:=59) rfl ?_);refine goesL_ (some 5) rfl rfl Tryd.func59 (by kernel_rfl) rfl #[.int .i64 (a0.size:Int),.int .i64 1,.int .i64 16] rfl (by (try simp only [zA,zC,zN]);first|done|rfl|(simp only [zM,zL];rfl)) ?_;(with_reducible refine (spec_l1In.calls (a0.size:Int) 1 16 t175 _ A2.out).mono ?_);rintro e w' ⟨rfl,⟨nd,rfl⟩⟩;refine ⟨_,rfl,?_⟩))
 go_ret
 exact ⟨by first|rfl|(simp;done)|(simp [*];done),by repeat (first|exact Drawn0.refl _|apply Drawn0.step)⟩
/-! ### spec_l4Seq: function 54 -/
def spec_l4Seq.f (a0:Int):Option (Bool):=(spec_l1In.f a0 0 1000000000).bind fun t176=>(some t176)
set_option maxHeartbeats 8000000 in
set_option maxRecDepth 100000 in
theorem spec_l4Seq.calls (a0:Int) (r:Bool) (w:World) (h:spec_l4Seq.f a0=some r) :
    Calls Tryd.prog 54 #[.int .i64 a0] w fun e w'=>e = .returned (.bool r)∧Drawn0 w w':=by
 have H:((spec_l1In.f a0 0 1000000000).bind fun t176=>(some t176))=some r:=h
 clear h
 replace H:=Option.bind_eq_some_iff.mp H
 obtain ⟨t176,A20,H⟩:=H
 replace H:(some t176)=some r:=H
 have A2:=AsZ.mk A20
 clear A20
 obtain rfl:=zI H
 go_enter Tryd.func54,Tryd.ntmps54
 go_wp2_with (first|((with_reducible refine gcl (f:=59) rfl ?_);refine goesL_ (some 4) rfl rfl Tryd.func59 (by kernel_rfl) rfl #[.int .i64 a0,.int .i64 0,.int .i64 1000000000] rfl (by (try simp only [zA,zC,zN]);first|done|rfl|(simp only [zM,zL];rfl)) ?_;(with_reducible refine (spec_l1In.calls a0 0 1000000000 t176 _ A2.out).mono ?_);rintro e w' ⟨rfl,⟨nd,rfl⟩⟩;refine ⟨_,rfl,?_⟩))
 go_ret
 exact ⟨by first|rfl|(simp;done)|(simp [*];done),by repeat (first|exact Drawn0.refl _|apply Drawn0.step)⟩
/-! ### spec_GoodItem: function 45 -/
def spec_GoodItem.f (a0_0:ByteArray) (a0_1:Int) (a0_2:Int) (a0_3:ByteArray):Option (Bool):=(spec_l4Key.f a0_0).bind fun t178=>(if t178=true then ((spec_l4Seq.f a0_1).bind fun t179=>(if t179=true then ((spec_l1In.f a0_2 0 1).bind fun t180=>(if t180=true then (if (a0_3.size:Int)≤40 then (if a0_2=1 then (some true) else (some (a0_3.toList == ([]:List UInt8)))) else (some false)) else (some false))) else (some false))) else (some false))
set_option maxHeartbeats 8000000 in
set_option maxRecDepth 100000 in
theorem spec_GoodItem.calls (a0_0:ByteArray) (a0_1:Int) (a0_2:Int) (a0_3:ByteArray) (r:Bool) (w:World) (h:spec_GoodItem.f a0_0 a0_1 a0_2 a0_3=some r) :
    Calls Tryd.prog 45 #[.agg #[.string a0_0,.int .i64 a0_1,.int .i64 a0_2,.string a0_3]] w fun e w'=>e = .returned (.bool r)∧Below w.heap.size w w':=by
 have hu28:=Tryd.underlying28
 have HB:=AsZ.mk (Below.refl w.heap.size w)
 have H:((spec_l4Key.f a0_0).bind fun t178=>(if t178=true then ((spec_l4Seq.f a0_1).bind fun t179=>(if t179=true then ((spec_l1In.f a0_2 0 1).bind fun t180=>(if t180=true then (if (a0_3.size:Int)≤40 then (if a0_2=1 then (some true) else (some (a0_3.toList == ([]:List UInt8)))) else (some false)) else (some false))) else (some false))) else (some false)))=some r:=h
 clear h
 replace H:=Option.bind_eq_some_iff.mp H
 obtain ⟨t178,A20,H⟩:=H
 replace H:(if t178=true then ((spec_l4Seq.f a0_1).bind fun t179=>(if t179=true then ((spec_l1In.f a0_2 0 1).bind fun t180=>(if t180=true then (if (a0_3.size:Int)≤40 then (if a0_2=1 then (some true) else (some (a0_3.toList == ([]:List UInt8)))) else (some false)) else (some false))) else (some false))) else (some false))=some r:=H
 have A2:=AsZ.mk A20
 clear A20
 by_cases c3:t178=true
 rotate_left
 · replace c3:=Bool.eq_false_iff.mpr c3
   subst c3
   have H1:(some false)=some r:=by rw [if_neg (show ¬ (false=true) by decide)] at H;exact H
   clear H
   have H:=H1
   clear H1
   obtain rfl:=zI H
   go_enter Tryd.func45,Tryd.ntmps45
   go_wp2_with (first|((with_reducible refine gate_dst (N:=1) rfl ?_);(try (refine gate_guard (by rfl) ?_;dsimp only));refine box_event ?hg (N:=1) ?hd (cs:=#[.string a0_0,.int .i64 a0_1,.int .i64 a0_2,.string a0_3]) (t:=28) ?hr ?_;(case hd=>rfl);(case hg=>rfl);(case hr=>first|(go_simp;done)|(go_simp;rfl));intro gb177 hg w20 hbox hb;have n0_:=AsZ.mk (bwp (by repeat (first|(with_reducible first|exact HB.out|apply bwa|apply pbN|apply bw1)|exact HB.out)) hb);have n1_:=AsZ.mk (hbox);have n2_:=AsZ.mk ((by rw [hg];exact (bwz (by repeat (first|(with_reducible first|exact HB.out|apply bwa|apply pbN|apply bw1)|exact HB.out))):w.heap.size≤gb177));have n3_:=AsZ.mk ((by rw [hg];exact (bwz (by repeat (first|(with_reducible first|exact HB.out|apply bwa|apply pbN|apply bw1)|exact HB.out))):w.heap.size≤gb177));clear HB;have HB:=n0_;have BK177:=n1_;have GW177:=n2_;have GE177:=n3_;clear n0_ n1_ n2_ n3_;clear hb hbox hg;have hcz21_0:w20.cell? ⟨gb177,0,none⟩=some (.string a0_0):=(kc BK177.out 0).trans rfl;have hcz21_1:w20.cell? ⟨gb177,1,none⟩=some (.int .i64 a0_1):=(kc BK177.out 1).trans rfl;have hcz21_2:w20.cell? ⟨gb177,2,none⟩=some (.int .i64 a0_2):=(kc BK177.out 2).trans rfl;have hcz21_3:w20.cell? ⟨gb177,3,none⟩=some (.string a0_3):=(kc BK177.out 3).trans rfl;have hfz21_0:=kf BK177.out 0;have hfz21_1:=kf BK177.out 1;have hfz21_2:=kf BK177.out 2;have hfz21_3:=kf BK177.out 3)|((with_reducible refine gcl (f:=53) rfl ?_);refine goesL_ (some 5) rfl rfl Tryd.func53 (by kernel_rfl) rfl #[.string a0_0] rfl (by (try simp only [zA,zC,zN]);first|done|rfl|(simp only [zM,zL];rfl)) ?_;(with_reducible refine (spec_l4Key.calls a0_0 false _ A2.out).mono ?_);rintro e w' ⟨rfl,⟨nd,rfl⟩⟩;refine ⟨_,rfl,?_⟩))
   go_ret
   exact ⟨by first|rfl|(simp [errW_none,errW_some]<;>rfl)|(simp [*,errW_none,errW_some]<;>rfl),by repeat (first|(with_reducible first|exact HB.out|apply bwa|apply pbN|apply bw1|refine bws ?_ GE177.out)|exact HB.out)⟩
 subst c3
 have H1:((spec_l4Seq.f a0_1).bind fun t179=>(if t179=true then ((spec_l1In.f a0_2 0 1).bind fun t180=>(if t180=true then (if (a0_3.size:Int)≤40 then (if a0_2=1 then (some true) else (some (a0_3.toList == ([]:List UInt8)))) else (some false)) else (some false))) else (some false)))=some r:=by rw [if_pos rfl] at H;exact H
 clear H
 have H:=H1
 clear H1
 replace H:=Option.bind_eq_some_iff.mp H
 obtain ⟨t179,A40,H⟩:=H
 replace H:(if t179=true then ((spec_l1In.f a0_2 0 1).bind fun t180=>(if t180=true then (if (a0_3.size:Int)≤40 then (if a0_2=1 then (some true) else (some (a0_3.toList == ([]:List UInt8)))) else (some false)) else (some false))) else (some false))=some r:=H
 have A4:=AsZ.mk A40
 clear A40
 by_cases c5:t179=true
 rotate_left
 · replace c5:=Bool.eq_false_iff.mpr c5
   subst c5
   have H1:(some false)=some r:=by rw [if_neg (show ¬ (false=true) by decide)] at H;exact H
   clear H
   have H:=H1
   clear H1
   obtain rfl:=zI H
   go_enter Tryd.func45,Tryd.ntmps45
   go_wp2_with (first|((with_reducible refine gate_dst (N:=1) rfl ?_);(try (refine gate_guard (by rfl) ?_;dsimp only));refine box_event ?hg (N:=1) ?hd (cs:=#[.string a0_0,.int .i64 a0_1,.int .i64 a0_2,.string a0_3]) (t:=28) ?hr ?_;(case hd=>rfl);(case hg=>rfl);(case hr=>first|(go_simp;done)|(go_simp;rfl));intro gb177 hg w18 hbox hb;have n0_:=AsZ.mk (bwp (by repeat (first|(with_reducible first|exact HB.out|apply bwa|apply pbN|apply bw1)|exact HB.out)) hb);have n1_:=AsZ.mk (hbox);have n2_:=AsZ.mk ((by rw [hg];exact (bwz (by repeat (first|(with_reducible first|exact HB.out|apply bwa|apply pbN|apply bw1)|exact HB.out))):w.heap.size≤gb177));have n3_:=AsZ.mk ((by rw [hg];exact (bwz (by repeat (first|(with_reducible first|exact HB.out|apply bwa|apply pbN|apply bw1)|exact HB.out))):w.heap.size≤gb177));clear HB;have HB:=n0_;have BK177:=n1_;have GW177:=n2_;have GE177:=n3_;clear n0_ n1_ n2_ n3_;clear hb hbox hg;have hcz19_0:w18.cell? ⟨gb177,0,none⟩=some (.string a0_0):=(kc BK177.out 0).trans rfl;have hcz19_1:w18.cell? ⟨gb177,1,none⟩=some (.int .i64 a0_1):=(kc BK177.out 1).trans rfl;have hcz19_2:w18.cell? ⟨gb177,2,none⟩=some (.int .i64 a0_2):=(kc BK177.out 2).trans rfl;have hcz19_3:w18.cell? ⟨gb177,3,none⟩=some (.string a0_3):=(kc BK177.out 3).trans rfl;have hfz19_0:=kf BK177.out 0;have hfz19_1:=kf BK177.out 1;have hfz19_2:=kf BK177.out 2;have hfz19_3:=kf BK177.out 3)|((with_reducible refine gcl (f:=53) rfl ?_);refine goesL_ (some 5) rfl rfl Tryd.func53 (by kernel_rfl) rfl #[.string a0_0] rfl (by (try simp only [zA,zC,zN]);first|done|rfl|(simp only [zM,zL];rfl)) ?_;(with_reducible refine (spec_l4Key.calls a0_0 true _ A2.out).mono ?_);rintro e w' ⟨rfl,⟨nd,rfl⟩⟩;refine ⟨_,rfl,?_⟩)|(go_at_call 54;(with_reducible refine (spec_l4Seq.calls a0_1 false _ A4.out).mono ?_);rintro e w' ⟨rfl,⟨nd,rfl⟩⟩))
   go_ret
   exact ⟨by first|rfl|(simp [errW_none,errW_some]<;>rfl)|(simp [*,errW_none,errW_some]<;>rfl),by repeat (first|(with_reducible first|exact HB.out|apply bwa|apply pbN|apply bw1|refine bws ?_ GE177.out)|exact HB.out)⟩
 subst c5
 have H1:((spec_l1In.f a0_2 0 1).bind fun t180=>(if t180=true then (if (a0_3.size:Int)≤40 then (if a0_2=1 then (some true) else (some (a0_3.toList == ([]:List UInt8)))) else (some false)) else (some false)))=some r:=by rw [if_pos rfl] at H;exact H
 clear H
 have H:=H1
 clear H1
 replace H:=Option.bind_eq_some_iff.mp H
 obtain ⟨t180,A60,H⟩:=H
 replace H:(if t180=true then (if (a0_3.size:Int)≤40 then (if a0_2=1 then (some true) else (some (a0_3.toList == ([]:List UInt8)))) else (some false)) else (some false))=some r:=H
 have A6:=AsZ.mk A60
 clear A60
 by_cases c7:t180=true
 rotate_left
 · replace c7:=Bool.eq_false_iff.mpr c7
   subst c7
   have H1:(some false)=some r:=by rw [if_neg (show ¬ (false=true) by decide)] at H;exact H
   clear H
   have H:=H1
   clear H1
   obtain rfl:=zI H
   go_enter Tryd.func45,Tryd.ntmps45
   go_wp2_with (first|((with_reducible refine gate_dst (N:=1) rfl ?_);(try (refine gate_guard (by rfl) ?_;dsimp only));refine box_event ?hg (N:=1) ?hd (cs:=#[.string a0_0,.int .i64 a0_1,.int .i64 a0_2,.string a0_3]) (t:=28) ?hr ?_;(case hd=>rfl);(case hg=>rfl);(case hr=>first|(go_simp;done)|(go_simp;rfl));intro gb177 hg w16 hbox hb;have n0_:=AsZ.mk (bwp (by repeat (first|(with_reducible first|exact HB.out|apply bwa|apply pbN|apply bw1)|exact HB.out)) hb);have n1_:=AsZ.mk (hbox);have n2_:=AsZ.mk ((by rw [hg];exact (bwz (by repeat (first|(with_reducible first|exact HB.out|apply bwa|apply pbN|apply bw1)|exact HB.out))):w.heap.size≤gb177));have n3_:=AsZ.mk ((by rw [hg];exact (bwz (by repeat (first|(with_reducible first|exact HB.out|apply bwa|apply pbN|apply bw1)|exact HB.out))):w.heap.size≤gb177));clear HB;have HB:=n0_;have BK177:=n1_;have GW177:=n2_;have GE177:=n3_;clear n0_ n1_ n2_ n3_;clear hb hbox hg;have hcz17_0:w16.cell? ⟨gb177,0,none⟩=some (.string a0_0):=(kc BK177.out 0).trans rfl;have hcz17_1:w16.cell? ⟨gb177,1,none⟩=some (.int .i64 a0_1):=(kc BK177.out 1).trans rfl;have hcz17_2:w16.cell? ⟨gb177,2,none⟩=some (.int .i64 a0_2):=(kc BK177.out 2).trans rfl;have hcz17_3:w16.cell? ⟨gb177,3,none⟩=some (.string a0_3):=(kc BK177.out 3).trans rfl;have hfz17_0:=kf BK177.out 0;have hfz17_1:=kf BK177.out 1;have hfz17_2:=kf BK177.out 2;have hfz17_3:=kf BK177.out 3)|((with_reducible refine gcl (f:=53) rfl ?_);refine goesL_ (some 5) rfl rfl Tryd.func53 (by kernel_rfl) rfl #[.string a0_0] rfl (by (try simp only [zA,zC,zN]);first|done|rfl|(simp only [zM,zL];rfl)) ?_;(with_reducible refine (spec_l4Key.calls a0_0 true _ A2.out).mono ?_);rintro e w' ⟨rfl,⟨nd,rfl⟩⟩;refine ⟨_,rfl,?_⟩)|(go_at_call 54;(with_reducible refine (spec_l4Seq.calls a0_1 true _ A4.out).mono ?_);rintro e w' ⟨rfl,⟨nd,rfl⟩⟩)|(go_at_call 59;(with_reducible refine (spec_l1In.calls a0_2 0 1 false _ A6.out).mono ?_);rintro e w' ⟨rfl,⟨nd,rfl⟩⟩))
   go_ret
   exact ⟨by first|rfl|(simp [errW_none,errW_some]<;>rfl)|(simp [*,errW_none,errW_some]<;>rfl),by repeat (first|(with_reducible first|exact HB.out|apply bwa|apply pbN|apply bw1|refine bws ?_ GE177.out)|exact HB.out)⟩
 subst c7
 have H1:(if (a0_3.size:Int)≤40 then (if a0_2=1 then (some true) else (some (a0_3.toList == ([]:List UInt8)))) else (some false))=some r:=by rw [if_pos rfl] at H;exact H
 clear H
 have H:=H1
 clear H1
 by_cases c8:(a0_3.size:Int)≤40
 rotate_left
 · rw [if_neg c8] at H
   have c8b0:decide ((a0_3.size:Int)≤40)=false:=decide_eq_false c8
   have c8b1:decide (a0_3.size≤40)=false:=decide_eq_false (by omega)
   clear c8
   obtain rfl:=zI H
   go_enter Tryd.func45,Tryd.ntmps45
   go_wp2_with (first|((with_reducible refine gate_dst (N:=1) rfl ?_);(try (refine gate_guard (by rfl) ?_;dsimp only));refine box_event ?hg (N:=1) ?hd (cs:=#[.string a0_0,.int .i64 a0_1,.int .i64 a0_2,.string a0_3]) (t:=28) ?hr ?_;(case hd=>rfl);(case hg=>rfl);(case hr=>first|(go_simp;done)|(go_simp;rfl));intro gb177 hg w14 hbox hb;have n0_:=AsZ.mk (bwp (by repeat (first|(with_reducible first|exact HB.out|apply bwa|apply pbN|apply bw1)|exact HB.out)) hb);have n1_:=AsZ.mk (hbox);have n2_:=AsZ.mk ((by rw [hg];exact (bwz (by repeat (first|(with_reducible first|exact HB.out|apply bwa|apply pbN|apply bw1)|exact HB.out))):w.heap.size≤gb177));have n3_:=AsZ.mk ((by rw [hg];exact (bwz (by repeat (first|(with_reducible first|exact HB.out|apply bwa|apply pbN|apply bw1)|exact HB.out))):w.heap.size≤gb177));clear HB;have HB:=n0_;have BK177:=n1_;have GW177:=n2_;have GE177:=n3_;clear n0_ n1_ n2_ n3_;clear hb hbox hg;have hcz15_0:w14.cell? ⟨gb177,0,none⟩=some (.string a0_0):=(kc BK177.out 0).trans rfl;have hcz15_1:w14.cell? ⟨gb177,1,none⟩=some (.int .i64 a0_1):=(kc BK177.out 1).trans rfl;have hcz15_2:w14.cell? ⟨gb177,2,none⟩=some (.int .i64 a0_2):=(kc BK177.out 2).trans rfl;have hcz15_3:w14.cell? ⟨gb177,3,none⟩=some (.string a0_3):=(kc BK177.out 3).trans rfl;have hfz15_0:=kf BK177.out 0;have hfz15_1:=kf BK177.out 1;have hfz15_2:=kf BK177.out 2;have hfz15_3:=kf BK177.out 3)|((with_reducible refine gcl (f:=53) rfl ?_);refine goesL_ (some 5) rfl rfl Tryd.func53 (by kernel_rfl) rfl #[.string a0_0] rfl (by (try simp only [zA,zC,zN]);first|done|rfl|(simp only [zM,zL];rfl)) ?_;(with_reducible refine (spec_l4Key.calls a0_0 true _ A2.out).mono ?_);rintro e w' ⟨rfl,⟨nd,rfl⟩⟩;refine ⟨_,rfl,?_⟩)|(go_at_call 54;(with_reducible refine (spec_l4Seq.calls a0_1 true _ A4.out).mono ?_);rintro e w' ⟨rfl,⟨nd,rfl⟩⟩)|(go_at_call 59;(with_reducible refine (spec_l1In.calls a0_2 0 1 true _ A6.out).mono ?_);rintro e w' ⟨rfl,⟨nd,rfl⟩⟩))
   go_ret
   exact ⟨by first|rfl|(simp [errW_none,errW_some]<;>rfl)|(simp [*,errW_none,errW_some]<;>rfl),by repeat (first|(with_reducible first|exact HB.out|apply bwa|apply pbN|apply bw1|refine bws ?_ GE177.out)|exact HB.out)⟩
 rw [if_pos c8] at H
 have c8b0:decide ((a0_3.size:Int)≤40)=true:=zE c8
 have c8b1:decide (a0_3.size≤40)=true:=zE (by omega)
 clear c8
 by_cases c9:a0_2=1
 rotate_left
 · rw [if_neg c9] at H
   have c9b0:(a0_2 == 1)=false:=beq_eq_false_iff_ne.mpr c9
   have c9b1:(a0_2 != 1)=true:=bne_iff_ne.mpr c9
   obtain rfl:=zI H
   go_enter Tryd.func45,Tryd.ntmps45
   go_wp2_with (first|((with_reducible refine gate_dst (N:=1) rfl ?_);(try (refine gate_guard (by rfl) ?_;dsimp only));refine box_event ?hg (N:=1) ?hd (cs:=#[.string a0_0,.int .i64 a0_1,.int .i64 a0_2,.string a0_3]) (t:=28) ?hr ?_;(case hd=>rfl);(case hg=>rfl);(case hr=>first|(go_simp;done)|(go_simp;rfl));intro gb177 hg w12 hbox hb;have n0_:=AsZ.mk (bwp (by repeat (first|(with_reducible first|exact HB.out|apply bwa|apply pbN|apply bw1)|exact HB.out)) hb);have n1_:=AsZ.mk (hbox);have n2_:=AsZ.mk ((by rw [hg];exact (bwz (by repeat (first|(with_reducible first|exact HB.out|apply bwa|apply pbN|apply bw1)|exact HB.out))):w.heap.size≤gb177));have n3_:=AsZ.mk ((by rw [hg];exact (bwz (by repeat (first|(with_reducible first|exact HB.out|apply bwa|apply pbN|apply bw1)|exact HB.out))):w.heap.size≤gb177));clear HB;have HB:=n0_;have BK177:=n1_;have GW177:=n2_;have GE177:=n3_;clear n0_ n1_ n2_ n3_;clear hb hbox hg;have hcz13_0:w12.cell? ⟨gb177,0,none⟩=some (.string a0_0):=(kc BK177.out 0).trans rfl;have hcz13_1:w12.cell? ⟨gb177,1,none⟩=some (.int .i64 a0_1):=(kc BK177.out 1).trans rfl;have hcz13_2:w12.cell? ⟨gb177,2,none⟩=some (.int .i64 a0_2):=(kc BK177.out 2).trans rfl;have hcz13_3:w12.cell? ⟨gb177,3,none⟩=some (.string a0_3):=(kc BK177.out 3).trans rfl;have hfz13_0:=kf BK177.out 0;have hfz13_1:=kf BK177.out 1;have hfz13_2:=kf BK177.out 2;have hfz13_3:=kf BK177.out 3)|((with_reducible refine gcl (f:=53) rfl ?_);refine goesL_ (some 5) rfl rfl Tryd.func53 (by kernel_rfl) rfl #[.string a0_0] rfl (by (try simp only [zA,zC,zN]);first|done|rfl|(simp only [zM,zL];rfl)) ?_;(with_reducible refine (spec_l4Key.calls a0_0 true _ A2.out).mono ?_);rintro e w' ⟨rfl,⟨nd,rfl⟩⟩;refine ⟨_,rfl,?_⟩)|(go_at_call 54;(with_reducible refine (spec_l4Seq.calls a0_1 true _ A4.out).mono ?_);rintro e w' ⟨rfl,⟨nd,rfl⟩⟩)|(go_at_call 59;(with_reducible refine (spec_l1In.calls a0_2 0 1 true _ A6.out).mono ?_);rintro e w' ⟨rfl,⟨nd,rfl⟩⟩))
   go_ret
   exact ⟨by first|rfl|(simp [errW_none,errW_some]<;>rfl)|(simp [*,errW_none,errW_some]<;>rfl),by repeat (first|(with_reducible first|exact HB.out|apply bwa|apply pbN|apply bw1|refine bws ?_ GE177.out)|exact HB.out)⟩
 rw [if_pos c9] at H
 have c9b0:(a0_2 == 1)=true:=beq_iff_eq.mpr c9
 have c9b1:(a0_2 != 1)=false:=bne_eq_false_iff_eq.mpr c9
 clear c9
 obtain rfl:=zI H
 go_enter Tryd.func45,Tryd.ntmps45
 go_wp2_with (first|((with_reducible refine gate_dst (N:=1) rfl ?_);(try (refine gate_guard (by rfl) ?_;dsimp only));refine box_event ?hg (N:=1) ?hd (cs:=#[.string a0_0,.int .i64 a0_1,.int .i64 a0_2,.string a0_3]) (t:=28) ?hr ?_;(case hd=>rfl);(case hg=>rfl);(case hr=>first|(go_simp;done)|(go_simp;rfl));intro gb177 hg w10 hbox hb;have n0_:=AsZ.mk (bwp (by repeat (first|(with_reducible first|exact HB.out|apply bwa|apply pbN|apply bw1)|exact HB.out)) hb);have n1_:=AsZ.mk (hbox);have n2_:=AsZ.mk ((by rw [hg];exact (bwz (by repeat (first|(with_reducible first|exact HB.out|apply bwa|apply pbN|apply bw1)|exact HB.out))):w.heap.size≤gb177));have n3_:=AsZ.mk ((by rw [hg];exact (bwz (by repeat (first|(with_reducible first|exact HB.out|apply bwa|apply pbN|apply bw1)|exact HB.out))):w.heap.size≤gb177));clear HB;have HB:=n0_;have BK177:=n1_;have GW177:=n2_;have GE177:=n3_;clear n0_ n1_ n2_ n3_;clear hb hbox hg;have hcz11_0:w10.cell? ⟨gb177,0,none⟩=some (.string a0_0):=(kc BK177.out 0).trans rfl;have hcz11_1:w10.cell? ⟨gb177,1,none⟩=some (.int .i64 a0_1):=(kc BK177.out 1).trans rfl;have hcz11_2:w10.cell? ⟨gb177,2,none⟩=some (.int .i64 a0_2):=(kc BK177.out 2).trans rfl;have hcz11_3:w10.cell? ⟨gb177,3,none⟩=some (.string a0_3):=(kc BK177.out 3).trans rfl;have hfz11_0:=kf BK177.out 0;have hfz11_1:=kf BK177.out 1;have hfz11_2:=kf BK177.out 2;have hfz11_3:=kf BK177.out 3)|((with_reducible refine gcl (f:=53) rfl ?_);refine goesL_ (some 5) rfl rfl Tryd.func53 (by kernel_rfl) rfl #[.string a0_0] rfl (by (try simp only [zA,zC,zN]);first|done|rfl|(simp only [zM,zL];rfl)) ?_;(with_reducible refine (spec_l4Key.calls a0_0 true _ A2.out).mono ?_);rintro e w' ⟨rfl,⟨nd,rfl⟩⟩;refine ⟨_,rfl,?_⟩)|(go_at_call 54;(with_reducible refine (spec_l4Seq.calls a0_1 true _ A4.out).mono ?_);rintro e w' ⟨rfl,⟨nd,rfl⟩⟩)|(go_at_call 59;(with_reducible refine (spec_l1In.calls a0_2 0 1 true _ A6.out).mono ?_);rintro e w' ⟨rfl,⟨nd,rfl⟩⟩))
 go_ret
 exact ⟨by first|rfl|(simp [errW_none,errW_some]<;>rfl)|(simp [*,errW_none,errW_some]<;>rfl),by repeat (first|(with_reducible first|exact HB.out|apply bwa|apply pbN|apply bw1|refine bws ?_ GE177.out)|exact HB.out)⟩
end Go.Proofs.YtffjlpphcjfdgaaDoor.MFnExactListSkip
