-- Written by a program of this session out of the translation. Not trusted: Lean checks it.
import Derived.Test.YtffjlpphcjfdgaaDoorMFnFoundx0
import Derived.Test.YtffjlpphcjfdgaaDoorMFnFoundx2
import Derived.Test.YtffjlpphcjfdgaaDoorMFnFoundx3
import Derived.Test.YtffjlpphcjfdgaaDoorMFnFoundx5
namespace Go.Proofs.YtffjlpphcjfdgaaDoor.MFnFound
-- short
-- shrunk
-- TAB
-- RD
open Go.Proofs.YtffjlpphcjfdgaaDoor Go.RowKit Go.Proofs.YtffjlpphcjfdgaaDoorW.PrintWords Go.Proofs.YtffjlpphcjfdgaaDoorW.PrintLast Go.Proofs.YtffjlpphcjfdgaaDoorW.PrintMore Go.Proofs.YtffjlpphcjfdgaaDoorX
attribute [local go_sem] max2_int min2_int max_two min_two max_three min_three max_four min_four str_gtr str_leq str_geq cell_twice
set_option linter.unusedVariables false
set_option linter.unusedSimpArgs false
-- COMPACT
/-! ### impl_Skip_list: function 51 -/
def impl_Skip_list.l0:Nat→Int→List (S28)→Int→List Int→List (S77)→Option ((List (S28)))
  |0,_,_,_,_,_=>none
  |k + 1,x1,x5,x6,x1000,x1001=>if x6=(-1) then (some x5) else (if 0≤x6 then (if x6 < (x1001.length:Int) then (if x5.length < 2932031007402 then ((impl_Skip_next.f x1000 x1001 x6 x1).bind fun t159=>(impl_Skip_list.l0 k x1 (x5 ++ [(⟨(rd_T77 x1001 x6).f0.f0,(rd_T77 x1001 x6).f0.f1,(rd_T77 x1001 x6).f0.f2,(rd_T77 x1001 x6).f0.f3⟩:S28)]) t159 x1000 x1001)) else (none)) else (none)) else (none))
def impl_Skip_list.f (k:Nat) (s0_0:List Int) (s0_1:List (S77)) (a1:Int):Option ((List (S28))):=(impl_Skip_next.f s0_0 s0_1 (-1) a1).bind fun t154=>(impl_Skip_list.l0 k a1 (([]:List (S28))) t154 s0_0 s0_1)
theorem impl_Skip_list.mono_l:∀ k,(∀ y0 y1 y2 y3 y4,LeO (impl_Skip_list.l0 k y0 y1 y2 y3 y4) (impl_Skip_list.l0 (k + 1) y0 y1 y2 y3 y4))
  |0=>fun _ _ _ _ _ r h=>by simp [impl_Skip_list.l0] at h
  |k + 1=>by
    have ih0:=impl_Skip_list.mono_l k
    · intro y0 y1 y2 y3 y4
      unfold impl_Skip_list.l0
      repeat' first|(with_reducible first|exact ih0 _ _ _ _ _|exact LeO.refl _|exact LeO.none _|refine LeO.ite ?_ ?_|refine LeO.bind ?_ (fun _=>?_))|exact ih0 _ _ _ _ _|exact LeO.none _|refine LeO.ite ?_ ?_|refine LeO.bind ?_ (fun _=>?_)
theorem impl_Skip_list.mono:∀ a0 a1 a2 k,LeO (impl_Skip_list.f k a0 a1 a2) (impl_Skip_list.f (k + 1) a0 a1 a2):=by
  intro a0 a1 a2 k
  have ih0:=impl_Skip_list.mono_l k
  unfold impl_Skip_list.f
  repeat' first|(with_reducible first|exact ih0 _ _ _ _ _|exact LeO.refl _|exact LeO.none _|refine LeO.ite ?_ ?_|refine LeO.bind ?_ (fun _=>?_))|exact ih0 _ _ _ _ _|exact LeO.none _|refine LeO.ite ?_ ?_|refine LeO.bind ?_ (fun _=>?_)
set_option maxHeartbeats 8000000 in
set_option maxRecDepth 100000 in
theorem impl_Skip_list.calls (k:Nat) (g:Nat) (s0_0:List Int) (s0_1:List (S77)) (a1:Int) (r:List (S28)) (w0 w:World) (hI:IsS26 w0 w g s0_0 s0_1) (hB:Below w0.heap.size w0 w) (h:impl_Skip_list.f k s0_0 s0_1 a1=some r) :
    Calls Tryd.prog 51 #[.pointer (some ⟨g,0,none⟩),.int .i64 a1] w fun e w' => ∃ v0_:Value,e = .returned (v0_)∧Kd.R k28 28 w' w.heap.size (fun _=>True) v0_ r∧IsS26 w0 w' g s0_0 s0_1∧Below w0.heap.size w0 w'∧KeepF w w' g none:=by
 have hu28:=Tryd.underlying28
 have HI0:=AsZ.mk hI
 obtain ⟨A0q_,c0q_,A1q_,c1q_,HGq_,_⟩:=hI
 have HGq:=AsZ.mk HGq_
 clear HGq_
 have HK:=AsZ.mk (KeepF.refl w g none)
 have HL:=AsZ.mk hB.size
 have HW0:=AsZ.mk hB.size
 have HB:=AsZ.mk hB
 clear hB
 have H:((impl_Skip_next.f s0_0 s0_1 (-1) a1).bind fun t154=>(impl_Skip_list.l0 k a1 (([]:List (S28))) t154 s0_0 s0_1))=some r:=h
 clear h
 obtain ⟨y151,hy151⟩:∃ y_:List (S28),y_=(([]:List (S28))):=⟨_,rfl⟩
 replace H:((impl_Skip_next.f s0_0 s0_1 (-1) a1).bind fun t154=>(impl_Skip_list.l0 k a1 y151 t154 s0_0 s0_1))=some r:=ry hy151 H
 have Ny151:=AsZ.mk hy151
 clear hy151
 replace H:=bs H
 obtain ⟨t154,A3,H⟩:=H
 have H':=AsZ.mk H
 clear H
 go_enter Tryd.func51,Tryd.ntmps51
 go_wp2_with (first|((with_reducible refine gate_dst (N:=7) rfl ?_);refine Kd.R_lit k28 _ 28 ?hg (N:=7) ?hd (xs:=([]:List (S28))) (inner:=[]) (ok:=fun _=>True) (okp:=fun _=>True) ?hr ?hp (fun _ hk=>hk) trivial (Below.refl _ _) (Nat.le_refl _) (by simp) ?_;(case hd=>rfl);(case hg=>rfl);(case hr=>first|(go_simp;done)|(go_simp;rfl));(case hp=>exact (Reps.none _ _));intro v152 w4 ho5 hb hg_ hnew_;clear hg_ hnew_;(first|rw [← Ny151.out] at ho5|(simp only [Int.reduceToNat] at ho5;rw [← Ny151.out] at ho5));have HO153:=AsZ.mk (Kd.R_lower ho5 (keep_size (w:=w) (g:=g) (row:=none) (kF HK)));replace HI0:=AsZ.mk (IsS26.below (st26 HI0) hb);replace HK:=AsZ.mk (KeepF.trans (kF HK) (KeepF.of_below hb g none) (.inl rfl));replace HB:=bp hb;clear hb ho5)|((with_reducible refine gcl (f:=41) rfl ?_);refine goesL_ (some 10) rfl rfl Tryd.func41 (by kernel_rfl) rfl #[.pointer (some ⟨g,0,none⟩),.int .i64 (-1),.int .i64 a1] rfl gl ?_;(with_reducible refine (impl_Skip_next.calls g s0_0 s0_1 (-1) a1 t154 w0 _ ?side1 ?side2 A3.out).mono ?_);(case side1=>exact st26 HI0);(case side2=>exact bel);rintro e w' ⟨rfl,⟨nd,rfl⟩⟩;refine ⟨_,rfl,?_⟩))
 go_loopg [5,6] k (fun kq v5 v6 w' => ∃ (x5_1:List (S28)) (x6_1:Int),v6 = .int .i64 x6_1∧AsZ (impl_Skip_list.l0 kq a1 x5_1 x6_1 s0_0 s0_1=some r)∧AsZ (kq≤k)∧AsZ (Kd.R k28 28 w' w.heap.size (fun _=>True) v5 x5_1)∧AsZ (IsS26 w0 w' g s0_0 s0_1)∧AsZ (KeepF w w' g none)∧AsZ (Below w0.heap.size w0 w'))
 case atStart=>exact ⟨(y151),(t154),rs,H',⟨Nat.le_refl _⟩,⟨kR HO153⟩,⟨st26 HI0⟩,⟨kF HK⟩,⟨bel⟩⟩
 case round =>
  clear H'
  try clear p2
  obtain ⟨x5_1,x6_1,rfl,HA,HK1,HO_5,HI0,HK,HB⟩:=hrel
  cases gk with
  |zero=>exact absurd HA.out (by simp [impl_Skip_list.l0])
  |succ k1 =>
   have H:=HA.out
   clear HA
   simp only [impl_Skip_list.l0] at H
   by_cases c6:x6_1=(-1)
   · rw [if_pos c6] at H
     have c6b0:(x6_1 == (-1))=true:=beq_iff_eq.mpr c6
     have c6b1:(x6_1 != (-1))=false:=bne_eq_false_iff_eq.mpr c6
     clear c6
     obtain rfl:=zI H
     go_wp2
     go_ret
     exact ⟨_,re,kR HO_5,st26 HI0,bel,kF HK⟩
   rw [if_neg c6] at H
   have c6b0:(x6_1 == (-1))=false:=beq_eq_false_iff_ne.mpr c6
   have c6b1:(x6_1 != (-1))=true:=bne_iff_ne.mpr c6
   by_cases c7:0≤x6_1
   rotate_left
   · rw [if_neg c7] at H
     exact absurd H (by simp)
   rw [if_pos c7] at H
   have c7b0:decide (0≤x6_1)=true:=zE c7
   clear c7
   by_cases c8:x6_1 < (s0_1.length:Int)
   rotate_left
   · rw [if_neg c8] at H
     exact absurd H (by simp)
   rw [if_pos c8] at H
   have c8b0:decide (x6_1 < (s0_1.length:Int))=true:=zE c8
   clear c8
   by_cases c9:x5_1.length < 2932031007402
   rotate_left
   · rw [if_neg c9] at H
     exact absurd H (by simp)
   rw [if_pos c9] at H
   have LMc9:=AsZ.mk c9
   clear c9
   obtain ⟨y156,hy156⟩:∃ y_:List (S28),y_=(x5_1 ++ [(⟨(rd_T77 s0_1 x6_1).f0.f0,(rd_T77 s0_1 x6_1).f0.f1,(rd_T77 s0_1 x6_1).f0.f2,(rd_T77 s0_1 x6_1).f0.f3⟩:S28)]):=⟨_,rfl⟩
   replace H:((impl_Skip_next.f s0_0 s0_1 x6_1 a1).bind fun t159=>(impl_Skip_list.l0 k1 a1 y156 t159 s0_0 s0_1))=some r:=ry hy156 H
   have Ny156:=AsZ.mk hy156
   clear hy156
   replace H:=bs H
   obtain ⟨t159,A10,H⟩:=H
   have H':=AsZ.mk H
   clear H
   obtain ⟨ASz11_0,cSz11_0,ASz11_1,cSz11_1,HGz11,hgz11,HSz11_0,HSCz11_0,HSz11_1,HSCz11_1⟩:=HI0.out
   obtain ⟨es0_,es1_,es2_,es3_⟩:=IsS26.same_ HGq.out HK.out HGz11
   subst es0_
   subst es1_
   subst es2_
   subst es3_
   have hcz11_0:=cellS26_0 HGz11
   have hcz11_1:=cellS26_1 HGz11
   clear HGz11 hgz11
   have p155:0≤(x6_1:Int):=dd
   have q155:x6_1 < (s0_1.length:Int):=dd
   obtain ⟨ad155,A155_4,c155_4,e155,hx155_0,hx155_1,hx155_2,hx155_3,hx155_4,hl155_4,hi155_4⟩:=at_T77 HSz11_1 x6_1 p155 q155
   cases e155
   replace hx155_0:=pcb HB.out hx155_0
   replace hx155_1:=pcb HB.out hx155_1
   replace hx155_2:=pcb HB.out hx155_2
   replace hx155_3:=pcb HB.out hx155_3
   replace hx155_4:=pcb HB.out hx155_4
   have HR155_4:=AsZ.mk hi155_4
   have HC155_4:=AsZ.mk hl155_4
   clear hi155_4 hl155_4
   replace p155:=eq_true p155
   replace q155:=eq_true q155
   go_wp2_with (first|((with_reducible refine gate_builtin (b := .append) (xs:=#[.tmp 17,.tmp 26]) rfl ?_);at_builtin;refine Kd.R_append k28 w.heap.size rfl (.tmp 17) (.tmp 26) 33 28 (.agg #[(.string ⟨#[]⟩),(.int .i64 0),(.int .i64 0),(.string ⟨#[]⟩)]) 48 rfl Tryd.underlying33 info28 rfl (by decide) (by omega) u5 x5_1 (⟨(rd_T77 s0_1 x6_1).f0.f0,(rd_T77 s0_1 x6_1).f0.f1,(rd_T77 s0_1 x6_1).f0.f2,(rd_T77 s0_1 x6_1).f0.f3⟩:S28) [.string ((rd_T77 s0_1 x6_1).f0.f0),.int .i64 ((rd_T77 s0_1 x6_1).f0.f1),.int .i64 ((rd_T77 s0_1 x6_1).f0.f2),.string ((rd_T77 s0_1 x6_1).f0.f3)] (fun _=>True) (fun _=>False) rfl rfl ?aP (fun _ hk=>hk.elim) ?aF ?aO (Below.refl _ _) ?aS ?aL ?_;(case aP=>exact k28_mkM _ _ _ (⟨(rd_T77 s0_1 x6_1).f0.f0,(rd_T77 s0_1 x6_1).f0.f1,(rd_T77 s0_1 x6_1).f0.f2,(rd_T77 s0_1 x6_1).f0.f3⟩:S28));(case aF=>exact (fun _ _=>trivial));(case aO=>exact (kR HO_5));(case aS=>exact (keep_size (w:=w) (g:=g) (row:=none) (kF HK)));(case aL=>have:=LMc9.out;omega);intro v157 w12 ho hb hg hat;rw [← Ny156.out] at ho;have HO158:=AsZ.mk (ho);replace HI0:=AsZ.mk (IsS26.grown (st26 HI0) hg (IsS26.own_ne HI0.out HO_5.out (by decide)));replace HB:=AsZ.mk (below_weaken bel HL.out hb);replace HK:=AsZ.mk (KeepF.put (kF HK) hg (Kd.R_base2 HO_5.out));clear HO_5;clear ho hb hg hat)|((with_reducible refine gcl (f:=41) rfl ?_);refine goesL_ (some 16) rfl rfl Tryd.func41 (by kernel_rfl) rfl #[.pointer (some ⟨g,0,none⟩),.int .i64 x6_1,.int .i64 a1] rfl gl ?_;(with_reducible refine (impl_Skip_next.calls g s0_0 s0_1 x6_1 a1 t159 w0 _ ?side1 ?side2 A10.out).mono ?_);(case side1=>exact st26 HI0);(case side2=>exact bel);rintro e w' ⟨rfl,⟨nd,rfl⟩⟩;refine ⟨_,rfl,?_⟩))
   go_roundg k1
   case measure=>have:=HK1.out;omega
   case rel=>exact ⟨(y156),(t159),rs,H',⟨by have:=HK1.out;omega⟩,⟨kR HO158⟩,⟨st26 HI0⟩,⟨kF HK⟩,⟨bel⟩⟩
/-! ### impl_ListSkip: function 14 -/
def impl_ListSkip.j0:Nat→Int→Bool→List Int→List (S77)→Option ((List (S28)) × Bool)
  |0,_,_,_,_=>none
  |k + 1,x1,x13,x161000,x161001=>if x13=true then (some (([]:List (S28)),false)) else ((impl_Skip_list.f k x161000 x161001 x1).bind fun t163=>(some (t163,true)))
def impl_ListSkip.f (k:Nat) (l0_0:List Int) (l0_1:List (S77)) (a1:Int):Option ((List (S28)) × Bool):=(impl_GoodSkip.f k l0_0 l0_1).bind fun t161=>(if t161=true then ((impl_in.f a1 0 4).bind fun t162=>(impl_ListSkip.j0 k a1 (!t162) l0_0 l0_1)) else (impl_ListSkip.j0 k a1 true l0_0 l0_1))
theorem impl_ListSkip.mono_l:∀ k,(∀ y0 y1 y2 y3,LeO (impl_ListSkip.j0 k y0 y1 y2 y3) (impl_ListSkip.j0 (k + 1) y0 y1 y2 y3))
  |0=>fun _ _ _ _ r h=>by simp [impl_ListSkip.j0] at h
  |k + 1=>by
    have ih0:=impl_ListSkip.mono_l k
    · intro y0 y1 y2 y3
      unfold impl_ListSkip.j0
      repeat' first|(with_reducible first|exact ih0 _ _ _ _|exact impl_GoodSkip.mono _ _ _|exact impl_Skip_list.mono _ _ _ _|exact LeO.refl _|exact LeO.none _|refine LeO.ite ?_ ?_|refine LeO.bind ?_ (fun _=>?_))|exact ih0 _ _ _ _|exact impl_GoodSkip.mono _ _ _|exact impl_Skip_list.mono _ _ _ _|exact LeO.none _|refine LeO.ite ?_ ?_|refine LeO.bind ?_ (fun _=>?_)
theorem impl_ListSkip.mono:∀ a0 a1 a2 k,LeO (impl_ListSkip.f k a0 a1 a2) (impl_ListSkip.f (k + 1) a0 a1 a2):=by
  intro a0 a1 a2 k
  have ih0:=impl_ListSkip.mono_l k
  unfold impl_ListSkip.f
  repeat' first|(with_reducible first|exact ih0 _ _ _ _|exact impl_GoodSkip.mono _ _ _|exact impl_Skip_list.mono _ _ _ _|exact LeO.refl _|exact LeO.none _|refine LeO.ite ?_ ?_|refine LeO.bind ?_ (fun _=>?_))|exact ih0 _ _ _ _|exact impl_GoodSkip.mono _ _ _|exact impl_Skip_list.mono _ _ _ _|exact LeO.none _|refine LeO.ite ?_ ?_|refine LeO.bind ?_ (fun _=>?_)
set_option maxHeartbeats 8000000 in
set_option maxRecDepth 100000 in
theorem impl_ListSkip.calls (k:Nat) (A0_0:Option Addr) (c0_0:Nat) (l0_0:List Int) (A0_1:Option Addr) (c0_1:Nat) (l0_1:List (S77)) (a1:Int) (r1:List (S28)) (r2:Bool) (w:World) (hr0_0:Kd.C (Kd.int .i64) w A0_0 l0_0.length l0_0) (hc0_0:l0_0.length≤c0_0) (hr0_1:Kd.C k77 w A0_1 l0_1.length l0_1) (hc0_1:l0_1.length≤c0_1) (hT:Tab w) (h:impl_ListSkip.f k l0_0 l0_1 a1=some (r1,r2)) :
    Calls Tryd.prog 14 #[.agg #[.slice A0_0 l0_0.length c0_0,.slice A0_1 l0_1.length c0_1],.int .i64 a1] w fun e w' => ∃ v0_:Value,e = .returned (.tuple #[v0_,.bool r2])∧Kd.R k28 28 w' w.heap.size (fun _=>True) v0_ r1∧Below w.heap.size w w':=by
 have HT:=AsZ.mk hT
 clear hT
 have hu26:=Tryd.underlying26
 have HR0_0:=AsZ.mk hr0_0
 have HC0_0:=AsZ.mk hc0_0
 clear hr0_0 hc0_0
 have HR0_1:=AsZ.mk hr0_1
 have HC0_1:=AsZ.mk hc0_1
 clear hr0_1 hc0_1
 have HB:=AsZ.mk (Below.refl w.heap.size w)
 have H:((impl_GoodSkip.f k l0_0 l0_1).bind fun t161=>(if t161=true then ((impl_in.f a1 0 4).bind fun t162=>(impl_ListSkip.j0 k a1 (!t162) l0_0 l0_1)) else (impl_ListSkip.j0 k a1 true l0_0 l0_1)))=some (r1,r2):=h
 clear h
 have HC3:=AsZ.mk H
 clear H
 go_enter Tryd.func14,Tryd.ntmps14
 go_upto_region 1 with (first|((with_reducible refine gate_dst (N:=2) rfl ?_);refine bev 2 26 (cs:=#[.slice A0_0 l0_0.length c0_0,.slice A0_1 l0_1.length c0_1]) ?_;intro gb160 hg w4 hbox hb;have GW160:=gz HB hg;have GE160:=gz HB hg;have HI160:=AsZ.mk ((show IsS26F A0_0 c0_0 A0_1 c0_1 w w4 gb160 l0_0 l0_1 from ⟨hbox,(by rw [hg];exact (bwz bel)),HR0_0.out,HC0_0.out,HR0_1.out,HC0_1.out⟩));replace HB:=bp hb;clear hb hbox hg))
 (try simp only [Act.put,zS,zT,zU])
 go_cut [13] (fun v13 wc => ∃ (kq:Nat) (x13_2:Bool),v13 = .bool x13_2∧AsZ (impl_ListSkip.j0 kq a1 x13_2 l0_0 l0_1=some (r1,r2))∧AsZ (kq≤k)∧AsZ (IsS26F A0_0 c0_0 A0_1 c0_1 w wc gb160 l0_0 l0_1)∧AsZ (Below w.heap.size w wc))
 case first =>
  have H:=HC3.out
  clear HC3
  replace H:=bs H
  obtain ⟨t161,A5,H⟩:=H
  by_cases c6:t161=true
  rotate_left
  · replace c6:=Bool.eq_false_iff.mpr c6
    subst c6
    replace H:=iN H
    have H':=AsZ.mk H
    clear H
    obtain ⟨ASz10_0,cSz10_0,ASz10_1,cSz10_1,⟨es0_,es1_,es2_,es3_⟩,HGz10,hgz10,HSz10_0,HSCz10_0,HSz10_1,HSCz10_1⟩:=IsS26F.ex HI160.out
    subst es0_
    subst es1_
    subst es2_
    subst es3_
    have hcz10_0:=cellS26_0 HGz10
    have hcz10_1:=cellS26_1 HGz10
    clear HGz10 hgz10
    go_wp2_with (first|((with_reducible refine gcl (f:=15) rfl ?_);refine goesL_ (some 7) rfl rfl Tryd.func15 (by kernel_rfl) rfl #[.agg #[.slice ASz10_0 l0_0.length cSz10_0,.slice ASz10_1 l0_1.length cSz10_1]] rfl gl ?_;(with_reducible refine (impl_GoodSkip.calls k _ _ l0_0 _ _ l0_1 false _ ?side1 ?side2 ?side3 ?side4 ?sideT A5.out).mono ?_);(case sideT=>exact tab_below HT.out (by repeat (first|(with_reducible first|exact HB.out|apply bwa|apply pbN|apply bw1|refine bws ?_ (AsZ.out (by assumption)))|exact HB.out)));(case side1=>exact Kd.C_below HSz10_0 bel);(case side2=>exact HSCz10_0);(case side3=>exact Kd.C_below HSz10_1 bel);(case side4=>exact HSCz10_1);rintro e w11 ⟨rfl,hb⟩;refine ⟨_,rfl,?_⟩;replace HI160:=AsZ.mk (IsS26F.below (st26F HI160) hb);replace HB:=bp hb;(try clear hb);(try clear hb2);(try clear hk);(try clear hi)))
    go_meet
    case rel=>exact ⟨_,(true),rs,H',⟨lo⟩,⟨st26F HI160⟩,⟨bel⟩⟩
  subst c6
  replace H:=iP H
  replace H:=bs H
  obtain ⟨t162,A7,H⟩:=H
  have H':=AsZ.mk H
  clear H
  obtain ⟨ASz8_0,cSz8_0,ASz8_1,cSz8_1,⟨es0_,es1_,es2_,es3_⟩,HGz8,hgz8,HSz8_0,HSCz8_0,HSz8_1,HSCz8_1⟩:=IsS26F.ex HI160.out
  subst es0_
  subst es1_
  subst es2_
  subst es3_
  have hcz8_0:=cellS26_0 HGz8
  have hcz8_1:=cellS26_1 HGz8
  clear HGz8 hgz8
  go_wp2_with (first|((with_reducible refine gcl (f:=15) rfl ?_);refine goesL_ (some 7) rfl rfl Tryd.func15 (by kernel_rfl) rfl #[.agg #[.slice ASz8_0 l0_0.length cSz8_0,.slice ASz8_1 l0_1.length cSz8_1]] rfl gl ?_;(with_reducible refine (impl_GoodSkip.calls k _ _ l0_0 _ _ l0_1 true _ ?side1 ?side2 ?side3 ?side4 ?sideT A5.out).mono ?_);(case sideT=>exact tab_below HT.out (by repeat (first|(with_reducible first|exact HB.out|apply bwa|apply pbN|apply bw1|refine bws ?_ (AsZ.out (by assumption)))|exact HB.out)));(case side1=>exact Kd.C_below HSz8_0 bel);(case side2=>exact HSCz8_0);(case side3=>exact Kd.C_below HSz8_1 bel);(case side4=>exact HSCz8_1);rintro e w9 ⟨rfl,hb⟩;refine ⟨_,rfl,?_⟩;replace HI160:=AsZ.mk (IsS26F.below (st26F HI160) hb);replace HB:=bp hb;(try clear hb);(try clear hb2);(try clear hk);(try clear hi))|(go_at_call 50;(with_reducible refine (impl_in.calls a1 0 4 t162 _ A7.out).mono ?_);rintro e w' ⟨rfl,⟨nd,rfl⟩⟩))
  go_meet
  case rel=>exact ⟨_,(!t162),rs,H',⟨lo⟩,⟨st26F HI160⟩,⟨bel⟩⟩
 case rest =>
  clear HC3
  try clear p2
  try clear hcz10_0 hcz10_1
  try clear hcz8_0 hcz8_1
  obtain ⟨kq,x13_2,rfl,HA,HJ2,HI160,HB⟩:=hcut
  cases kq with
  |zero=>exact absurd HA.out (by simp [impl_ListSkip.j0])
  |succ kj2 =>
   have H:=HA.out
   clear HA
   simp only [impl_ListSkip.j0] at H
   by_cases c12:x13_2=true
   · subst c12
     replace H:=iP H
     simp only [Option.some.injEq,Prod.mk.injEq] at H
     obtain ⟨rfl,rfl⟩:=H
     go_wp2
     go_ret2
     exact ⟨_,re,by first|exact Kd.R_nil _ _ _ _ _|exact Kd.N_nil _ _ _ _ _|exact Kd.V_nil _ _ _ _ _|exact Kd.Q_nil _ _ _ _ _|exact Kd.S_nil _ _ _ _ _,bel⟩
   replace c12:=Bool.eq_false_iff.mpr c12
   subst c12
   replace H:=iN H
   replace H:=bs H
   obtain ⟨t163,A13,H⟩:=H
   simp only [Option.some.injEq,Prod.mk.injEq] at H
   obtain ⟨rfl,rfl⟩:=H
   go_wp2_with (first|((with_reducible refine gcl (f:=51) rfl ?_);refine goesL_ (some 15) rfl rfl Tryd.func51 (by kernel_rfl) rfl #[.pointer (some ⟨gb160,0,none⟩),.int .i64 a1] rfl gl ?_;(with_reducible refine (impl_Skip_list.calls kj2 gb160 l0_0 l0_1 a1 t163 w _ ?side1 ?side2 A13.out).mono ?_);(case side1=>apply IsS26F.to;repeat (first|(with_reducible first|exact HI160.out|apply IsS26F.alloc|apply IsS26F.drewN|apply IsS26F.drew)|exact HI160.out));(case side2=>exact bel);rintro e w14 ⟨v164,rfl,ho0,hi,hb,hk⟩;replace hi:=IsS26F.below (st26F HI160) hk;replace hk:=KeepF.keep hk;refine ⟨_,rfl,?_⟩;have HO165:=AsZ.mk (Kd.R_lower ho0 (bwz bel));replace HB:=AsZ.mk (hb);replace HI160:=AsZ.mk (hi);(try clear hb);(try clear hb2);(try clear hk);(try clear hi);(try clear ho0)))
   go_ret2
   exact ⟨_,re,kR HO165,bel⟩
/-! ### spec_l1In: function 59 -/
def spec_l1In.f (a0:Int) (a1:Int) (a2:Int):Option (Bool):=if a0 ≥ a1 then (some (decide (a0≤a2))) else (some false)
set_option maxHeartbeats 8000000 in
set_option maxRecDepth 100000 in
theorem spec_l1In.calls (a0:Int) (a1:Int) (a2:Int) (r:Bool) (w:World) (h:spec_l1In.f a0 a1 a2=some r) :
    Calls Tryd.prog 59 #[.int .i64 a0,.int .i64 a1,.int .i64 a2] w fun e w'=>e = .returned (.bool r)∧Drawn0 w w':=by
 have H:(if a0 ≥ a1 then (some (decide (a0≤a2))) else (some false))=some r:=h
 clear h
 by_cases c4:a0 ≥ a1
 · rw [if_pos c4] at H
   have c4b0:decide (a1≤a0)=true:=zE c4
   clear c4
   obtain rfl:=zI H
   go_enter Tryd.func59,Tryd.ntmps59
   go_wp2
   go_ret
   exact ⟨rs,dw⟩
 rw [if_neg c4] at H
 have c4b0:decide (a1≤a0)=false:=decide_eq_false c4
 clear c4
 obtain rfl:=zI H
 go_enter Tryd.func59,Tryd.ntmps59
 go_wp2
 go_ret
 exact ⟨rs,dw⟩
/-! ### spec_l4Key: function 53 -/
def spec_l4Key.f (a0:ByteArray):Option (Bool):=(spec_l1In.f (a0.size:Int) 1 16).bind fun t166=>(some t166)
set_option maxHeartbeats 8000000 in
set_option maxRecDepth 100000 in
theorem spec_l4Key.calls (a0:ByteArray) (r:Bool) (w:World) (h:spec_l4Key.f a0=some r) :
    Calls Tryd.prog 53 #[.string a0] w fun e w'=>e = .returned (.bool r)∧Drawn0 w w':=by
 have H:((spec_l1In.f (a0.size:Int) 1 16).bind fun t166=>(some t166))=some r:=h
 clear h
 replace H:=bs H
 obtain ⟨t166,A2,H⟩:=H
 obtain rfl:=zI H
 go_enter Tryd.func53,Tryd.ntmps53
 go_wp2_with (first|((with_reducible refine gcl (f:=59) rfl ?_);refine goesL_ (some 5) rfl rfl Tryd.func59 (by kernel_rfl) rfl #[.int .i64 (a0.size:Int),.int .i64 1,.int .i64 16] rfl gl ?_;(with_reducible refine (spec_l1In.calls (a0.size:Int) 1 16 t166 _ A2.out).mono ?_);rintro e w' ⟨rfl,⟨nd,rfl⟩⟩;refine ⟨_,rfl,?_⟩))
 go_ret
 exact ⟨rs,dw⟩
/-! ### spec_l4Seq: function 54 -/
def spec_l4Seq.f (a0:Int):Option (Bool):=(spec_l1In.f a0 0 1000000000).bind fun t167=>(some t167)
set_option maxHeartbeats 8000000 in
set_option maxRecDepth 100000 in
theorem spec_l4Seq.calls (a0:Int) (r:Bool) (w:World) (h:spec_l4Seq.f a0=some r) :
    Calls Tryd.prog 54 #[.int .i64 a0] w fun e w'=>e = .returned (.bool r)∧Drawn0 w w':=by
 have H:((spec_l1In.f a0 0 1000000000).bind fun t167=>(some t167))=some r:=h
 clear h
 replace H:=bs H
 obtain ⟨t167,A2,H⟩:=H
 obtain rfl:=zI H
 go_enter Tryd.func54,Tryd.ntmps54
 go_wp2_with (first|((with_reducible refine gcl (f:=59) rfl ?_);refine goesL_ (some 4) rfl rfl Tryd.func59 (by kernel_rfl) rfl #[.int .i64 a0,.int .i64 0,.int .i64 1000000000] rfl gl ?_;(with_reducible refine (spec_l1In.calls a0 0 1000000000 t167 _ A2.out).mono ?_);rintro e w' ⟨rfl,⟨nd,rfl⟩⟩;refine ⟨_,rfl,?_⟩))
 go_ret
 exact ⟨rs,dw⟩
/-! ### spec_GoodItem: function 45 -/
def spec_GoodItem.f (a0_0:ByteArray) (a0_1:Int) (a0_2:Int) (a0_3:ByteArray):Option (Bool):=(spec_l4Key.f a0_0).bind fun t169=>(if t169=true then ((spec_l4Seq.f a0_1).bind fun t170=>(if t170=true then ((spec_l1In.f a0_2 0 1).bind fun t171=>(if t171=true then (if (a0_3.size:Int)≤40 then (if a0_2=1 then (some true) else (some (a0_3.toList == ([]:List UInt8)))) else (some false)) else (some false))) else (some false))) else (some false))
set_option maxHeartbeats 8000000 in
set_option maxRecDepth 100000 in
theorem spec_GoodItem.calls (a0_0:ByteArray) (a0_1:Int) (a0_2:Int) (a0_3:ByteArray) (r:Bool) (w:World) (h:spec_GoodItem.f a0_0 a0_1 a0_2 a0_3=some r) :
    Calls Tryd.prog 45 #[.agg #[.string a0_0,.int .i64 a0_1,.int .i64 a0_2,.string a0_3]] w fun e w'=>e = .returned (.bool r)∧Below w.heap.size w w':=by
 have hu28:=Tryd.underlying28
 have HB:=AsZ.mk (Below.refl w.heap.size w)
 have H:((spec_l4Key.f a0_0).bind fun t169=>(if t169=true then ((spec_l4Seq.f a0_1).bind fun t170=>(if t170=true then ((spec_l1In.f a0_2 0 1).bind fun t171=>(if t171=true then (if (a0_3.size:Int)≤40 then (if a0_2=1 then (some true) else (some (a0_3.toList == ([]:List UInt8)))) else (some false)) else (some false))) else (some false))) else (some false)))=some r:=h
 clear h
 replace H:=bs H
 obtain ⟨t169,A2,H⟩:=H
 by_cases c3:t169=true
 rotate_left
 · replace c3:=Bool.eq_false_iff.mpr c3
   subst c3
   replace H:=iN H
   obtain rfl:=zI H
   go_enter Tryd.func45,Tryd.ntmps45
   go_wp2_with (first|((with_reducible refine gate_dst (N:=1) rfl ?_);(try (refine gate_guard (by rfl) ?_;dsimp only));refine bev 1 28 (cs:=#[.string a0_0,.int .i64 a0_1,.int .i64 a0_2,.string a0_3]) ?_;intro gb168 hg w20 hbox hb;have BK168:=AsZ.mk (hbox);have GW168:=gz HB hg;have GE168:=gz HB hg;replace HB:=bp hb;clear hb hbox hg;obtain ⟨hcz21_0,hcz21_1,hcz21_2,hcz21_3,hfz21_0,hfz21_1,hfz21_2,hfz21_3⟩:=bx4 BK168)|((with_reducible refine gcl (f:=53) rfl ?_);refine goesL_ (some 5) rfl rfl Tryd.func53 (by kernel_rfl) rfl #[.string a0_0] rfl gl ?_;(with_reducible refine (spec_l4Key.calls a0_0 false _ A2.out).mono ?_);rintro e w' ⟨rfl,⟨nd,rfl⟩⟩;refine ⟨_,rfl,?_⟩))
   go_ret
   exact ⟨re,bel⟩
 subst c3
 replace H:=iP H
 replace H:=bs H
 obtain ⟨t170,A4,H⟩:=H
 by_cases c5:t170=true
 rotate_left
 · replace c5:=Bool.eq_false_iff.mpr c5
   subst c5
   replace H:=iN H
   obtain rfl:=zI H
   go_enter Tryd.func45,Tryd.ntmps45
   go_wp2_with (first|((with_reducible refine gate_dst (N:=1) rfl ?_);(try (refine gate_guard (by rfl) ?_;dsimp only));refine bev 1 28 (cs:=#[.string a0_0,.int .i64 a0_1,.int .i64 a0_2,.string a0_3]) ?_;intro gb168 hg w18 hbox hb;have BK168:=AsZ.mk (hbox);have GW168:=gz HB hg;have GE168:=gz HB hg;replace HB:=bp hb;clear hb hbox hg;obtain ⟨hcz19_0,hcz19_1,hcz19_2,hcz19_3,hfz19_0,hfz19_1,hfz19_2,hfz19_3⟩:=bx4 BK168)|((with_reducible refine gcl (f:=53) rfl ?_);refine goesL_ (some 5) rfl rfl Tryd.func53 (by kernel_rfl) rfl #[.string a0_0] rfl gl ?_;(with_reducible refine (spec_l4Key.calls a0_0 true _ A2.out).mono ?_);rintro e w' ⟨rfl,⟨nd,rfl⟩⟩;refine ⟨_,rfl,?_⟩)|(go_at_call 54;(with_reducible refine (spec_l4Seq.calls a0_1 false _ A4.out).mono ?_);rintro e w' ⟨rfl,⟨nd,rfl⟩⟩))
   go_ret
   exact ⟨re,bel⟩
 subst c5
 replace H:=iP H
 replace H:=bs H
 obtain ⟨t171,A6,H⟩:=H
 by_cases c7:t171=true
 rotate_left
 · replace c7:=Bool.eq_false_iff.mpr c7
   subst c7
   replace H:=iN H
   obtain rfl:=zI H
   go_enter Tryd.func45,Tryd.ntmps45
   go_wp2_with (first|((with_reducible refine gate_dst (N:=1) rfl ?_);(try (refine gate_guard (by rfl) ?_;dsimp only));refine bev 1 28 (cs:=#[.string a0_0,.int .i64 a0_1,.int .i64 a0_2,.string a0_3]) ?_;intro gb168 hg w16 hbox hb;have BK168:=AsZ.mk (hbox);have GW168:=gz HB hg;have GE168:=gz HB hg;replace HB:=bp hb;clear hb hbox hg;obtain ⟨hcz17_0,hcz17_1,hcz17_2,hcz17_3,hfz17_0,hfz17_1,hfz17_2,hfz17_3⟩:=bx4 BK168)|((with_reducible refine gcl (f:=53) rfl ?_);refine goesL_ (some 5) rfl rfl Tryd.func53 (by kernel_rfl) rfl #[.string a0_0] rfl gl ?_;(with_reducible refine (spec_l4Key.calls a0_0 true _ A2.out).mono ?_);rintro e w' ⟨rfl,⟨nd,rfl⟩⟩;refine ⟨_,rfl,?_⟩)|(go_at_call 54;(with_reducible refine (spec_l4Seq.calls a0_1 true _ A4.out).mono ?_);rintro e w' ⟨rfl,⟨nd,rfl⟩⟩)|(go_at_call 59;(with_reducible refine (spec_l1In.calls a0_2 0 1 false _ A6.out).mono ?_);rintro e w' ⟨rfl,⟨nd,rfl⟩⟩))
   go_ret
   exact ⟨re,bel⟩
 subst c7
 replace H:=iP H
 by_cases c8:(a0_3.size:Int)≤40
 rotate_left
 · rw [if_neg c8] at H
   have c8b0:decide ((a0_3.size:Int)≤40)=false:=decide_eq_false c8
   have c8b1:decide (a0_3.size≤40)=false:=decide_eq_false (by omega)
   clear c8
   obtain rfl:=zI H
   go_enter Tryd.func45,Tryd.ntmps45
   go_wp2_with (first|((with_reducible refine gate_dst (N:=1) rfl ?_);(try (refine gate_guard (by rfl) ?_;dsimp only));refine bev 1 28 (cs:=#[.string a0_0,.int .i64 a0_1,.int .i64 a0_2,.string a0_3]) ?_;intro gb168 hg w14 hbox hb;have BK168:=AsZ.mk (hbox);have GW168:=gz HB hg;have GE168:=gz HB hg;replace HB:=bp hb;clear hb hbox hg;obtain ⟨hcz15_0,hcz15_1,hcz15_2,hcz15_3,hfz15_0,hfz15_1,hfz15_2,hfz15_3⟩:=bx4 BK168)|((with_reducible refine gcl (f:=53) rfl ?_);refine goesL_ (some 5) rfl rfl Tryd.func53 (by kernel_rfl) rfl #[.string a0_0] rfl gl ?_;(with_reducible refine (spec_l4Key.calls a0_0 true _ A2.out).mono ?_);rintro e w' ⟨rfl,⟨nd,rfl⟩⟩;refine ⟨_,rfl,?_⟩)|(go_at_call 54;(with_reducible refine (spec_l4Seq.calls a0_1 true _ A4.out).mono ?_);rintro e w' ⟨rfl,⟨nd,rfl⟩⟩)|(go_at_call 59;(with_reducible refine (spec_l1In.calls a0_2 0 1 true _ A6.out).mono ?_);rintro e w' ⟨rfl,⟨nd,rfl⟩⟩))
   go_ret
   exact ⟨re,bel⟩
 rw [if_pos c8] at H
 have c8b0:decide ((a0_3.size:Int)≤40)=true:=zE c8
 have c8b1:decide (a0_3.size≤40)=true:=zE (by omega)
 clear c8
 by_cases c9:a0_2=1
 rotate_left
 · rw [if_neg c9] at H
   have c9b0:(a0_2 == 1)=false:=beq_eq_false_iff_ne.mpr c9
   have c9b1:(a0_2 != 1)=true:=bne_iff_ne.mpr c9
   obtain rfl:=zI H
   go_enter Tryd.func45,Tryd.ntmps45
   go_wp2_with (first|((with_reducible refine gate_dst (N:=1) rfl ?_);(try (refine gate_guard (by rfl) ?_;dsimp only));refine bev 1 28 (cs:=#[.string a0_0,.int .i64 a0_1,.int .i64 a0_2,.string a0_3]) ?_;intro gb168 hg w12 hbox hb;have BK168:=AsZ.mk (hbox);have GW168:=gz HB hg;have GE168:=gz HB hg;replace HB:=bp hb;clear hb hbox hg;obtain ⟨hcz13_0,hcz13_1,hcz13_2,hcz13_3,hfz13_0,hfz13_1,hfz13_2,hfz13_3⟩:=bx4 BK168)|((with_reducible refine gcl (f:=53) rfl ?_);refine goesL_ (some 5) rfl rfl Tryd.func53 (by kernel_rfl) rfl #[.string a0_0] rfl gl ?_;(with_reducible refine (spec_l4Key.calls a0_0 true _ A2.out).mono ?_);rintro e w' ⟨rfl,⟨nd,rfl⟩⟩;refine ⟨_,rfl,?_⟩)|(go_at_call 54;(with_reducible refine (spec_l4Seq.calls a0_1 true _ A4.out).mono ?_);rintro e w' ⟨rfl,⟨nd,rfl⟩⟩)|(go_at_call 59;(with_reducible refine (spec_l1In.calls a0_2 0 1 true _ A6.out).mono ?_);rintro e w' ⟨rfl,⟨nd,rfl⟩⟩))
   go_ret
   exact ⟨re,bel⟩
 rw [if_pos c9] at H
 have c9b0:(a0_2 == 1)=true:=beq_iff_eq.mpr c9
 have c9b1:(a0_2 != 1)=false:=bne_eq_false_iff_eq.mpr c9
 clear c9
 obtain rfl:=zI H
 go_enter Tryd.func45,Tryd.ntmps45
 go_wp2_with (first|((with_reducible refine gate_dst (N:=1) rfl ?_);(try (refine gate_guard (by rfl) ?_;dsimp only));refine bev 1 28 (cs:=#[.string a0_0,.int .i64 a0_1,.int .i64 a0_2,.string a0_3]) ?_;intro gb168 hg w10 hbox hb;have BK168:=AsZ.mk (hbox);have GW168:=gz HB hg;have GE168:=gz HB hg;replace HB:=bp hb;clear hb hbox hg;obtain ⟨hcz11_0,hcz11_1,hcz11_2,hcz11_3,hfz11_0,hfz11_1,hfz11_2,hfz11_3⟩:=bx4 BK168)|((with_reducible refine gcl (f:=53) rfl ?_);refine goesL_ (some 5) rfl rfl Tryd.func53 (by kernel_rfl) rfl #[.string a0_0] rfl gl ?_;(with_reducible refine (spec_l4Key.calls a0_0 true _ A2.out).mono ?_);rintro e w' ⟨rfl,⟨nd,rfl⟩⟩;refine ⟨_,rfl,?_⟩)|(go_at_call 54;(with_reducible refine (spec_l4Seq.calls a0_1 true _ A4.out).mono ?_);rintro e w' ⟨rfl,⟨nd,rfl⟩⟩)|(go_at_call 59;(with_reducible refine (spec_l1In.calls a0_2 0 1 true _ A6.out).mono ?_);rintro e w' ⟨rfl,⟨nd,rfl⟩⟩))
 go_ret
 exact ⟨re,bel⟩
/-! ### spec_l4Compare: function 47 -/
mutual
def spec_l4Compare.j0:Nat→Bool→ByteArray→Int→Int→ByteArray→ByteArray→Int→Int→ByteArray→Option (Int)
  |0,_,_,_,_,_,_,_,_,_=>none
  |k + 1,x5,x173000,x173001,x173002,x173003,x174000,x174001,x174002,x174003=>if x5=true then (some (-1)) else (if x173000.toList=x174000.toList then (spec_l4Compare.j1 k (x173001 == x174001)) else (spec_l4Compare.j1 k false))
def spec_l4Compare.j1:Nat→Bool→Option (Int)
  |0,_=>none
  |k + 1,x25=>if x25=true then (some 0) else (some 1)
end
def spec_l4Compare.f (k:Nat) (a0_0:ByteArray) (a0_1:Int) (a0_2:Int) (a0_3:ByteArray) (a1_0:ByteArray) (a1_1:Int) (a1_2:Int) (a1_3:ByteArray):Option (Int):=if (Op.bytesLess a0_0.toList a1_0.toList)=true then (spec_l4Compare.j0 k true a0_0 a0_1 a0_2 a0_3 a1_0 a1_1 a1_2 a1_3) else (if a0_0.toList=a1_0.toList then (spec_l4Compare.j0 k (decide (a0_1 > a1_1)) a0_0 a0_1 a0_2 a0_3 a1_0 a1_1 a1_2 a1_3) else (spec_l4Compare.j0 k false a0_0 a0_1 a0_2 a0_3 a1_0 a1_1 a1_2 a1_3))
theorem spec_l4Compare.mono_l:∀ k,(∀ y0 y1 y2 y3 y4 y5 y6 y7 y8,LeO (spec_l4Compare.j0 k y0 y1 y2 y3 y4 y5 y6 y7 y8) (spec_l4Compare.j0 (k + 1) y0 y1 y2 y3 y4 y5 y6 y7 y8))∧(∀ y0,LeO (spec_l4Compare.j1 k y0) (spec_l4Compare.j1 (k + 1) y0))
  |0=>⟨fun _ _ _ _ _ _ _ _ _ r h=>by simp [spec_l4Compare.j0] at h,fun _ r h=>by simp [spec_l4Compare.j1] at h⟩
  |k + 1=>by
    obtain ⟨ih0,ih1⟩:=spec_l4Compare.mono_l k
    refine ⟨?_,?_⟩
    · intro y0 y1 y2 y3 y4 y5 y6 y7 y8
      unfold spec_l4Compare.j0
      repeat' first|(with_reducible first|exact ih0 _ _ _ _ _ _ _ _ _|exact ih1 _|exact LeO.refl _|exact LeO.none _|refine LeO.ite ?_ ?_|refine LeO.bind ?_ (fun _=>?_))|exact ih0 _ _ _ _ _ _ _ _ _|exact ih1 _|exact LeO.none _|refine LeO.ite ?_ ?_|refine LeO.bind ?_ (fun _=>?_)
    · intro y0
      unfold spec_l4Compare.j1
      repeat' first|(with_reducible first|exact ih0 _ _ _ _ _ _ _ _ _|exact ih1 _|exact LeO.refl _|exact LeO.none _|refine LeO.ite ?_ ?_|refine LeO.bind ?_ (fun _=>?_))|exact ih0 _ _ _ _ _ _ _ _ _|exact ih1 _|exact LeO.none _|refine LeO.ite ?_ ?_|refine LeO.bind ?_ (fun _=>?_)
theorem spec_l4Compare.mono:∀ a0 a1 a2 a3 a4 a5 a6 a7 k,LeO (spec_l4Compare.f k a0 a1 a2 a3 a4 a5 a6 a7) (spec_l4Compare.f (k + 1) a0 a1 a2 a3 a4 a5 a6 a7):=by
  intro a0 a1 a2 a3 a4 a5 a6 a7 k
  obtain ⟨ih0,ih1⟩:=spec_l4Compare.mono_l k
  unfold spec_l4Compare.f
  repeat' first|(with_reducible first|exact ih0 _ _ _ _ _ _ _ _ _|exact ih1 _|exact LeO.refl _|exact LeO.none _|refine LeO.ite ?_ ?_|refine LeO.bind ?_ (fun _=>?_))|exact ih0 _ _ _ _ _ _ _ _ _|exact ih1 _|exact LeO.none _|refine LeO.ite ?_ ?_|refine LeO.bind ?_ (fun _=>?_)
set_option maxHeartbeats 8000000 in
set_option maxRecDepth 100000 in
theorem spec_l4Compare.calls (k:Nat) (a0_0:ByteArray) (a0_1:Int) (a0_2:Int) (a0_3:ByteArray) (a1_0:ByteArray) (a1_1:Int) (a1_2:Int) (a1_3:ByteArray) (r:Int) (w:World) (h:spec_l4Compare.f k a0_0 a0_1 a0_2 a0_3 a1_0 a1_1 a1_2 a1_3=some r) :
    Calls Tryd.prog 47 #[.agg #[.string a0_0,.int .i64 a0_1,.int .i64 a0_2,.string a0_3],.agg #[.string a1_0,.int .i64 a1_1,.int .i64 a1_2,.string a1_3]] w fun e w'=>e = .returned (.int .i64 r)∧Below w.heap.size w w':=by
 have hu28:=Tryd.underlying28
 have HB:=AsZ.mk (Below.refl w.heap.size w)
 have H:(if (Op.bytesLess a0_0.toList a1_0.toList)=true then (spec_l4Compare.j0 k true a0_0 a0_1 a0_2 a0_3 a1_0 a1_1 a1_2 a1_3) else (if a0_0.toList=a1_0.toList then (spec_l4Compare.j0 k (decide (a0_1 > a1_1)) a0_0 a0_1 a0_2 a0_3 a1_0 a1_1 a1_2 a1_3) else (spec_l4Compare.j0 k false a0_0 a0_1 a0_2 a0_3 a1_0 a1_1 a1_2 a1_3)))=some r:=h
 clear h
 have HC3:=AsZ.mk H
 clear H
 go_enter Tryd.func47,Tryd.ntmps47
 go_upto_region 1 with (first|((with_reducible refine gate_dst (N:=2) rfl ?_);refine bev 2 28 (cs:=#[.string a0_0,.int .i64 a0_1,.int .i64 a0_2,.string a0_3]) ?_;intro gb172 hg w4 hbox hb;have BK172:=AsZ.mk (hbox);have GW172:=gz HB hg;have GE172:=gz HB hg;replace HB:=bp hb;clear hb hbox hg)|((with_reducible refine gate_dst (N:=3) rfl ?_);refine bev 3 28 (cs:=#[.string a1_0,.int .i64 a1_1,.int .i64 a1_2,.string a1_3]) ?_;intro gb173 hg w5 hbox hb;have BK173:=AsZ.mk (hbox);have GW173:=gz HB hg;have GE173:=gz HB hg;have NB172_173:=nl BK172 hg;have NB173_172:=nr BK172 hg;replace BK172:=bb BK172 hb;replace HB:=bp hb;clear hb hbox hg))
 (try simp only [Act.put,zS,zT,zU])
 go_cut [5] (fun v5 wc => ∃ (kq:Nat) (x5_2:Bool),v5 = .bool x5_2∧AsZ (spec_l4Compare.j0 kq x5_2 a0_0 a0_1 a0_2 a0_3 a1_0 a1_1 a1_2 a1_3=some r)∧AsZ (kq≤k)∧AsZ (wc.heap[gb172]? = some (.cells #[.string a0_0,.int .i64 a0_1,.int .i64 a0_2,.string a0_3] 28 (0,0)))∧AsZ (wc.heap[gb173]? = some (.cells #[.string a1_0,.int .i64 a1_1,.int .i64 a1_2,.string a1_3] 28 (0,0)))∧AsZ (Below w.heap.size w wc))
 case first =>
  have H:=HC3.out
  clear HC3
  by_cases c6:(Op.bytesLess a0_0.toList a1_0.toList)=true
  · rw [if_pos c6] at H
    have c6b0:(Op.bytesLess a0_0.toList a1_0.toList)=true:=c6
    clear c6
    (first|rw [c6b0]|(simp only [i64_w,i32_w];rw [c6b0])|rw [c6b1]|skip)
    have H':=AsZ.mk H
    clear H
    have hnb7:=NB172_173.out
    have hnc7:=NB173_172.out
    obtain ⟨hcz8_0,hcz8_1,hcz8_2,hcz8_3,hfz8_0,hfz8_1,hfz8_2,hfz8_3⟩:=bx4 BK172
    obtain ⟨hcz9_0,hcz9_1,hcz9_2,hcz9_3,hfz9_0,hfz9_1,hfz9_2,hfz9_3⟩:=bx4 BK173
    go_wp2
    go_meet
    case rel=>exact ⟨_,(true),rs,H',⟨lo⟩,⟨bk BK172⟩,⟨bk BK173⟩,⟨bel⟩⟩
  rw [if_neg c6] at H
  have c6b0:(Op.bytesLess a0_0.toList a1_0.toList)=false:=by simpa using c6
  clear c6
  (first|rw [c6b0]|(simp only [i64_w,i32_w];rw [c6b0])|rw [c6b1]|skip)
  by_cases c10:a0_0.toList=a1_0.toList
  rotate_left
  · rw [if_neg c10] at H
    have c10b0:(a0_0.toList == a1_0.toList)=false:=beq_eq_false_iff_ne.mpr c10
    have c10b1:(a0_0.toList != a1_0.toList)=true:=bne_iff_ne.mpr c10
    have H':=AsZ.mk H
    clear H
    have hnb14:=NB172_173.out
    have hnc14:=NB173_172.out
    obtain ⟨hcz15_0,hcz15_1,hcz15_2,hcz15_3,hfz15_0,hfz15_1,hfz15_2,hfz15_3⟩:=bx4 BK172
    obtain ⟨hcz16_0,hcz16_1,hcz16_2,hcz16_3,hfz16_0,hfz16_1,hfz16_2,hfz16_3⟩:=bx4 BK173
    go_wp2
    go_meet
    case rel=>exact ⟨_,(false),rs,H',⟨lo⟩,⟨bk BK172⟩,⟨bk BK173⟩,⟨bel⟩⟩
  rw [if_pos c10] at H
  have c10b0:(a0_0.toList == a1_0.toList)=true:=beq_iff_eq.mpr c10
  have c10b1:(a0_0.toList != a1_0.toList)=false:=bne_eq_false_iff_eq.mpr c10
  clear c10
  have H':=AsZ.mk H
  clear H
  have hnb11:=NB172_173.out
  have hnc11:=NB173_172.out
  obtain ⟨hcz12_0,hcz12_1,hcz12_2,hcz12_3,hfz12_0,hfz12_1,hfz12_2,hfz12_3⟩:=bx4 BK172
  obtain ⟨hcz13_0,hcz13_1,hcz13_2,hcz13_3,hfz13_0,hfz13_1,hfz13_2,hfz13_3⟩:=bx4 BK173
  go_wp2
  go_meet
  case rel=>exact ⟨_,(decide (a0_1 > a1_1)),rs,H',⟨lo⟩,⟨bk BK172⟩,⟨bk BK173⟩,⟨bel⟩⟩
 case rest =>
  clear HC3
  try clear p2
  try clear c6b0
  try clear c6b1
  try clear c10b0
  try clear c10b1
  try clear hcz12_0 hcz12_1 hcz12_2 hcz12_3 hfz12_0 hfz12_1 hfz12_2 hfz12_3
  try clear hcz13_0 hcz13_1 hcz13_2 hcz13_3 hfz13_0 hfz13_1 hfz13_2 hfz13_3
  try clear hcz15_0 hcz15_1 hcz15_2 hcz15_3 hfz15_0 hfz15_1 hfz15_2 hfz15_3
  try clear hcz16_0 hcz16_1 hcz16_2 hcz16_3 hfz16_0 hfz16_1 hfz16_2 hfz16_3
  try clear hcz8_0 hcz8_1 hcz8_2 hcz8_3 hfz8_0 hfz8_1 hfz8_2 hfz8_3
  try clear hcz9_0 hcz9_1 hcz9_2 hcz9_3 hfz9_0 hfz9_1 hfz9_2 hfz9_3
  obtain ⟨kq,x5_2,rfl,HA,HJ2,BK172,BK173,HB⟩:=hcut
  cases kq with
  |zero=>exact absurd HA.out (by simp [spec_l4Compare.j0])
  |succ kj2 =>
   have H:=HA.out
   clear HA
   simp only [spec_l4Compare.j0] at H
   by_cases c17:x5_2=true
   · subst c17
     replace H:=iP H
     obtain rfl:=zI H
     go_wp2
     go_ret
     exact ⟨re,bel⟩
   replace c17:=Bool.eq_false_iff.mpr c17
   subst c17
   replace H:=iN H
   have HC18:=AsZ.mk H
   clear H
   go_upto_region 3 with (fail)
   go_cut [25] (fun v25 wc => ∃ (kq:Nat) (x25_17:Bool),v25 = .bool x25_17∧AsZ (spec_l4Compare.j1 kq x25_17=some r)∧AsZ (kq≤kj2)∧AsZ (wc.heap[gb172]? = some (.cells #[.string a0_0,.int .i64 a0_1,.int .i64 a0_2,.string a0_3] 28 (0,0)))∧AsZ (wc.heap[gb173]? = some (.cells #[.string a1_0,.int .i64 a1_1,.int .i64 a1_2,.string a1_3] 28 (0,0)))∧AsZ (Below w.heap.size w wc))
   case first =>
    have H:=HC18.out
    clear HC18
    by_cases c19:a0_0.toList=a1_0.toList
    rotate_left
    · rw [if_neg c19] at H
      have c19b0:(a0_0.toList == a1_0.toList)=false:=beq_eq_false_iff_ne.mpr c19
      have c19b1:(a0_0.toList != a1_0.toList)=true:=bne_iff_ne.mpr c19
      (first|rw [c19b0]|(simp only [i64_w,i32_w];rw [c19b0])|rw [c19b1]|skip)
      have H':=AsZ.mk H
      clear H
      have hnb23:=NB172_173.out
      have hnc23:=NB173_172.out
      obtain ⟨hcz24_0,hcz24_1,hcz24_2,hcz24_3,hfz24_0,hfz24_1,hfz24_2,hfz24_3⟩:=bx4 BK172
      obtain ⟨hcz25_0,hcz25_1,hcz25_2,hcz25_3,hfz25_0,hfz25_1,hfz25_2,hfz25_3⟩:=bx4 BK173
      go_wp2
      go_meet
      case rel=>exact ⟨_,(false),rs,H',⟨by have:=HJ2.out;first|omega|exact Nat.le_refl _⟩,⟨bk BK172⟩,⟨bk BK173⟩,⟨bel⟩⟩
    rw [if_pos c19] at H
    have c19b0:(a0_0.toList == a1_0.toList)=true:=beq_iff_eq.mpr c19
    have c19b1:(a0_0.toList != a1_0.toList)=false:=bne_eq_false_iff_eq.mpr c19
    clear c19
    (first|rw [c19b0]|(simp only [i64_w,i32_w];rw [c19b0])|rw [c19b1]|skip)
    have H':=AsZ.mk H
    clear H
    have hnb20:=NB172_173.out
    have hnc20:=NB173_172.out
    obtain ⟨hcz21_0,hcz21_1,hcz21_2,hcz21_3,hfz21_0,hfz21_1,hfz21_2,hfz21_3⟩:=bx4 BK172
    obtain ⟨hcz22_0,hcz22_1,hcz22_2,hcz22_3,hfz22_0,hfz22_1,hfz22_2,hfz22_3⟩:=bx4 BK173
    go_wp2
    go_meet
    case rel=>exact ⟨_,((a0_1 == a1_1)),rs,H',⟨by have:=HJ2.out;first|omega|exact Nat.le_refl _⟩,⟨bk BK172⟩,⟨bk BK173⟩,⟨bel⟩⟩
   case rest =>
    clear HC18
    try clear p2
    try clear c6b0
    try clear c6b1
    try clear c10b0
    try clear c10b1
    try clear c19b0
    try clear c19b1
    try clear hcz12_0 hcz12_1 hcz12_2 hcz12_3 hfz12_0 hfz12_1 hfz12_2 hfz12_3
    try clear hcz13_0 hcz13_1 hcz13_2 hcz13_3 hfz13_0 hfz13_1 hfz13_2 hfz13_3
    try clear hcz15_0 hcz15_1 hcz15_2 hcz15_3 hfz15_0 hfz15_1 hfz15_2 hfz15_3
    try clear hcz16_0 hcz16_1 hcz16_2 hcz16_3 hfz16_0 hfz16_1 hfz16_2 hfz16_3
    try clear hcz21_0 hcz21_1 hcz21_2 hcz21_3 hfz21_0 hfz21_1 hfz21_2 hfz21_3
    try clear hcz22_0 hcz22_1 hcz22_2 hcz22_3 hfz22_0 hfz22_1 hfz22_2 hfz22_3
    try clear hcz24_0 hcz24_1 hcz24_2 hcz24_3 hfz24_0 hfz24_1 hfz24_2 hfz24_3
    try clear hcz25_0 hcz25_1 hcz25_2 hcz25_3 hfz25_0 hfz25_1 hfz25_2 hfz25_3
    try clear hcz8_0 hcz8_1 hcz8_2 hcz8_3 hfz8_0 hfz8_1 hfz8_2 hfz8_3
    try clear hcz9_0 hcz9_1 hcz9_2 hcz9_3 hfz9_0 hfz9_1 hfz9_2 hfz9_3
    obtain ⟨kq,x25_17,rfl,HA,HJ17,BK172,BK173,HB⟩:=hcut
    cases kq with
    |zero=>exact absurd HA.out (by simp [spec_l4Compare.j1])
    |succ kj17 =>
     have H:=HA.out
     clear HA
     simp only [spec_l4Compare.j1] at H
     by_cases c26:x25_17=true
     · subst c26
       replace H:=iP H
       obtain rfl:=zI H
       go_wp2
       go_ret
       exact ⟨re,bel⟩
     replace c26:=Bool.eq_false_iff.mpr c26
     subst c26
     replace H:=iN H
     obtain rfl:=zI H
     go_wp2
     go_ret
     exact ⟨re,bel⟩
end Go.Proofs.YtffjlpphcjfdgaaDoor.MFnFound
