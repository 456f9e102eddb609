-- Written by a program of this session out of the translation. Not trusted: Lean checks it.
import Derived.Test.YtffjlpphcjfdgaaDoorMFnSkipx0
import Derived.Test.YtffjlpphcjfdgaaDoorMFnSkipx2
import Derived.Test.YtffjlpphcjfdgaaDoorMFnSkipx3
import Derived.Test.YtffjlpphcjfdgaaDoorMFnSkipx12
import Derived.Test.YtffjlpphcjfdgaaDoorMFnSkipx13
import Derived.Test.YtffjlpphcjfdgaaDoorMFnSkipx15
namespace Go.Proofs.YtffjlpphcjfdgaaDoor.MFnSkip
-- joined
-- short
-- shrunk
-- TAB
-- RD
open Go.Proofs.YtffjlpphcjfdgaaDoor Go.RowKit Go.Proofs.YtffjlpphcjfdgaaDoorW.PrintWords Go.Proofs.YtffjlpphcjfdgaaDoorW.PrintLast Go.Proofs.YtffjlpphcjfdgaaDoorW.PrintMore Go.Proofs.YtffjlpphcjfdgaaDoorX
attribute [local go_sem] max2_int min2_int max_two min_two max_three min_three max_four min_four str_gtr str_leq str_geq cell_twice
set_option linter.unusedVariables false
set_option linter.unusedSimpArgs false
-- COMPACT
/-! ### impl_Skip_list: function 51 -/
def impl_Skip_list.l0:Nat→Int→List (S28)→Int→List Int→List (S77)→Option ((List (S28)))
  |0,_,_,_,_,_=>none
  |k + 1,x1,x5,x6,x1000,x1001=>if x6=(-1) then (some x5) else (if 0≤x6 then (if x6 < (x1001.length:Int) then (if x5.length < 2932031007402 then ((impl_Skip_next.f x1000 x1001 x6 x1).bind fun t509=>(impl_Skip_list.l0 k x1 (x5 ++ [(⟨(rd_T77 x1001 x6).f0.f0,(rd_T77 x1001 x6).f0.f1,(rd_T77 x1001 x6).f0.f2,(rd_T77 x1001 x6).f0.f3⟩:S28)]) t509 x1000 x1001)) else (none)) else (none)) else (none))
def impl_Skip_list.f (k:Nat) (s0_0:List Int) (s0_1:List (S77)) (a1:Int):Option ((List (S28))):=(impl_Skip_next.f s0_0 s0_1 (-1) a1).bind fun t504=>(impl_Skip_list.l0 k a1 (([]:List (S28))) t504 s0_0 s0_1)
theorem impl_Skip_list.mono_l:∀ k,(∀ y0 y1 y2 y3 y4,LeO (impl_Skip_list.l0 k y0 y1 y2 y3 y4) (impl_Skip_list.l0 (k + 1) y0 y1 y2 y3 y4))
  |0=>fun _ _ _ _ _ r h=>by simp [impl_Skip_list.l0] at h
  |k + 1=>by
    have ih0:=impl_Skip_list.mono_l k
    · intro y0 y1 y2 y3 y4
      unfold impl_Skip_list.l0;exact mo
theorem impl_Skip_list.mono:∀ a0 a1 a2 k,LeO (impl_Skip_list.f k a0 a1 a2) (impl_Skip_list.f (k + 1) a0 a1 a2):=by
  intro a0 a1 a2 k;have ih0:=impl_Skip_list.mono_l k;unfold impl_Skip_list.f;exact mo
set_option maxHeartbeats 8000000 in
set_option maxRecDepth 100000 in
theorem impl_Skip_list.calls (k:Nat) (g:Nat) (s0_0:List Int) (s0_1:List (S77)) (a1:Int) (r:List (S28)) (w0 w:World) (hI:IsS26 w0 w g s0_0 s0_1) (hB:Below w0.heap.size w0 w) (h:impl_Skip_list.f k s0_0 s0_1 a1=some r) :
    Calls Tryd.prog 51 #[.pointer (some ⟨g,0,none⟩),.int .i64 a1] w fun e w' => ∃ v0_:Value,e = .returned (v0_)∧Kd.R k28 28 w' w.heap.size (fun _=>True) v0_ r∧IsS26 w0 w' g s0_0 s0_1∧Below w0.heap.size w0 w'∧KeepF w w' g none:=by
 have hu28:=Tryd.underlying28;have HI0:=AsZ.mk hI;obtain ⟨A0q_,c0q_,A1q_,c1q_,HGq_,_⟩:=hI;have HGq:=AsZ.mk HGq_;clear HGq_;have HK:=AsZ.mk (KeepF.refl w g none);have HL:=AsZ.mk hB.size;have HW0:=AsZ.mk hB.size;have HB:=AsZ.mk hB;clear hB;have H:((impl_Skip_next.f s0_0 s0_1 (-1) a1).bind fun t504=>(impl_Skip_list.l0 k a1 (([]:List (S28))) t504 s0_0 s0_1))=some r:=h;clear h;obtain ⟨y501,hy501⟩:∃ y_:List (S28),y_=(([]:List (S28))):=⟨_,rfl⟩;replace H:((impl_Skip_next.f s0_0 s0_1 (-1) a1).bind fun t504=>(impl_Skip_list.l0 k a1 y501 t504 s0_0 s0_1))=some r:=ry hy501 H;have Ny501:=AsZ.mk hy501;clear hy501;replace H:=bs H;obtain ⟨t504,A3,H⟩:=H;have H':=AsZ.mk H;clear H;go_enter Tryd.func51,Tryd.ntmps51;go_wp2_with (first|((with_reducible refine gate_dst (N:=7) rfl ?_);refine Kd.R_lit k28 _ 28 ?hg (N:=7) ?hd (xs:=([]:List (S28))) (inner:=[]) (ok:=fun _=>True) (okp:=fun _=>True) ?hr ?hp (fun _ hk=>hk) trivial (Below.refl _ _) (Nat.le_refl _) (by simp) ?_;(case hd=>rfl);(case hg=>rfl);(case hr=>first|(go_simp;done)|(go_simp;rfl));(case hp=>exact (Reps.none _ _));intro v502 w4 ho5 hb hg_ hnew_;clear hg_ hnew_;(first|rw [← Ny501.out] at ho5|(simp only [Int.reduceToNat] at ho5;rw [← Ny501.out] at ho5));have HO503:=AsZ.mk (Kd.R_lower ho5 (keep_size (w:=w) (g:=g) (row:=none) (kF HK)));replace HI0:=AsZ.mk (IsS26.below (st26 HI0) hb);replace HK:=AsZ.mk (KeepF.trans (kF HK) (KeepF.of_below hb g none) (.inl rfl));replace HB:=bp hb;clear hb ho5)|((with_reducible refine gcl (f:=41) rfl ?_);refine gk (some 10) Tryd.func41 #[.pointer (some ⟨g,0,none⟩),.int .i64 (-1),.int .i64 a1] ?_;(with_reducible refine (impl_Skip_next.calls g s0_0 s0_1 (-1) a1 t504 w0 _ ?side1 ?side2 A3.out).mono ?_);(case side1=>exact st26 HI0);(case side2=>exact bel);rintro e w' ⟨rfl,⟨nd,rfl⟩⟩;refine ⟨_,rfl,?_⟩))
 go_loopg [5,6] k (fun kq v5 v6 w' => ∃ (x5_1:List (S28)) (x6_1:Int),v6 = .int .i64 x6_1∧AsZ (impl_Skip_list.l0 kq a1 x5_1 x6_1 s0_0 s0_1=some r)∧AsZ (kq≤k)∧AsZ (Kd.R k28 28 w' w.heap.size (fun _=>True) v5 x5_1)∧AsZ (IsS26 w0 w' g s0_0 s0_1)∧AsZ (KeepF w w' g none)∧AsZ (Below w0.heap.size w0 w'))
 case atStart=>exact ⟨(y501),(t504),rs,H',⟨Nat.le_refl _⟩,⟨kR HO503⟩,⟨st26 HI0⟩,⟨kF HK⟩,⟨bel⟩⟩
 case round =>
  clear H'
  try clear p2
  obtain ⟨x5_1,x6_1,rfl,HA,HK1,HO_5,HI0,HK,HB⟩:=hrel
  cases gk with
  |zero=>exact absurd HA.out (by simp [impl_Skip_list.l0])
  |succ k1 =>
   have H:=HA.out;clear HA;simp only [impl_Skip_list.l0] at H;by_cases c6:x6_1=(-1)
   · rw [if_pos c6] at H
     have c6b0:(x6_1 == (-1))=true:=beq_iff_eq.mpr c6;have c6b1:(x6_1 != (-1))=false:=bne_eq_false_iff_eq.mpr c6;clear c6;obtain rfl:=zI H;go_wp2;go_ret;exact ⟨_,re,kR HO_5,st26 HI0,bel,kF HK⟩
   rw [if_neg c6] at H;have c6b0:(x6_1 == (-1))=false:=beq_eq_false_iff_ne.mpr c6;have c6b1:(x6_1 != (-1))=true:=bne_iff_ne.mpr c6;by_cases c7:0≤x6_1;rotate_left
   · rw [if_neg c7] at H
     exact absurd H (by simp)
   rw [if_pos c7] at H;have c7b0:decide (0≤x6_1)=true:=zE c7;clear c7;by_cases c8:x6_1 < (s0_1.length:Int);rotate_left
   · rw [if_neg c8] at H
     exact absurd H (by simp)
   rw [if_pos c8] at H;have c8b0:=zE c8;clear c8;by_cases c9:x5_1.length < 2932031007402;rotate_left
   · rw [if_neg c9] at H
     exact absurd H (by simp)
   rw [if_pos c9] at H;have LMc9:=AsZ.mk c9;clear c9;obtain ⟨y506,hy506⟩:∃ y_:List (S28),y_=(x5_1 ++ [(⟨(rd_T77 s0_1 x6_1).f0.f0,(rd_T77 s0_1 x6_1).f0.f1,(rd_T77 s0_1 x6_1).f0.f2,(rd_T77 s0_1 x6_1).f0.f3⟩:S28)]):=⟨_,rfl⟩;replace H:((impl_Skip_next.f s0_0 s0_1 x6_1 a1).bind fun t509=>(impl_Skip_list.l0 k1 a1 y506 t509 s0_0 s0_1))=some r:=ry hy506 H;have Ny506:=AsZ.mk hy506;clear hy506;replace H:=bs H;obtain ⟨t509,A10,H⟩:=H;have H':=AsZ.mk H;clear H;obtain ⟨ASz11_0,cSz11_0,ASz11_1,cSz11_1,HGz11,hgz11,HSz11_0,HSCz11_0,HSz11_1,HSCz11_1⟩:=HI0.out;obtain ⟨es0_,es1_,es2_,es3_⟩:=IsS26.same_ HGq.out HK.out HGz11;subst es0_;subst es1_;subst es2_;subst es3_;have hcz11_0:=cellS26_0 HGz11;have hcz11_1:=cellS26_1 HGz11;clear HGz11 hgz11;have p505:0≤(x6_1:Int):=dd;have q505:x6_1 < (s0_1.length:Int):=dd;obtain ⟨ad505,A505_4,c505_4,e505,hx505_0,hx505_1,hx505_2,hx505_3,hx505_4,hl505_4,hi505_4⟩:=at_T77 HSz11_1 x6_1 p505 q505;cases e505;replace hx505_0:=pcb HB.out hx505_0;replace hx505_1:=pcb HB.out hx505_1;replace hx505_2:=pcb HB.out hx505_2;replace hx505_3:=pcb HB.out hx505_3;replace hx505_4:=pcb HB.out hx505_4;have HR505_4:=AsZ.mk hi505_4;have HC505_4:=AsZ.mk hl505_4;clear hi505_4 hl505_4;replace p505:=eq_true p505;replace q505:=eq_true q505;go_wp2_with (first|((with_reducible refine gate_builtin (b := .append) (xs:=#[.tmp 17,.tmp 26]) rfl ?_);at_builtin;refine Kd.R_append k28 w.heap.size rfl (.tmp 17) (.tmp 26) 33 28 (.agg #[(.string ⟨#[]⟩),(.int .i64 0),(.int .i64 0),(.string ⟨#[]⟩)]) 48 rfl Tryd.underlying33 info28 rfl (by decide) (by omega) u5 x5_1 (⟨(rd_T77 s0_1 x6_1).f0.f0,(rd_T77 s0_1 x6_1).f0.f1,(rd_T77 s0_1 x6_1).f0.f2,(rd_T77 s0_1 x6_1).f0.f3⟩:S28) [.string ((rd_T77 s0_1 x6_1).f0.f0),.int .i64 ((rd_T77 s0_1 x6_1).f0.f1),.int .i64 ((rd_T77 s0_1 x6_1).f0.f2),.string ((rd_T77 s0_1 x6_1).f0.f3)] (fun _=>True) (fun _=>False) rfl rfl ?aP (fun _ hk=>hk.elim) ?aF ?aO (Below.refl _ _) ?aS ?aL ?_;(case aP=>exact k28_mkM _ _ _ (⟨(rd_T77 s0_1 x6_1).f0.f0,(rd_T77 s0_1 x6_1).f0.f1,(rd_T77 s0_1 x6_1).f0.f2,(rd_T77 s0_1 x6_1).f0.f3⟩:S28));(case aF=>exact (fun _ _=>trivial));(case aO=>exact (kR HO_5));(case aS=>exact (keep_size (w:=w) (g:=g) (row:=none) (kF HK)));(case aL=>have:=LMc9.out;omega);intro v507 w12 ho hb hg hat;rw [← Ny506.out] at ho;have HO508:=AsZ.mk (ho);replace HI0:=AsZ.mk (IsS26.grown (st26 HI0) hg (IsS26.own_ne HI0.out HO_5.out (by decide)));replace HB:=AsZ.mk (below_weaken bel HL.out hb);replace HK:=AsZ.mk (KeepF.put (kF HK) hg (Kd.R_base2 HO_5.out));clear HO_5;clear ho hb hg hat)|((with_reducible refine gcl (f:=41) rfl ?_);refine gk (some 16) Tryd.func41 #[.pointer (some ⟨g,0,none⟩),.int .i64 x6_1,.int .i64 a1] ?_;(with_reducible refine (impl_Skip_next.calls g s0_0 s0_1 x6_1 a1 t509 w0 _ ?side1 ?side2 A10.out).mono ?_);(case side1=>exact st26 HI0);(case side2=>exact bel);rintro e w' ⟨rfl,⟨nd,rfl⟩⟩;refine ⟨_,rfl,?_⟩));go_roundg k1
   case measure=>have:=HK1.out;omega
   case rel=>exact ⟨(y506),(t509),rs,H',⟨by have:=HK1.out;omega⟩,⟨kR HO508⟩,⟨st26 HI0⟩,⟨kF HK⟩,⟨bel⟩⟩
/-! ### impl_ListSkip: function 14 -/
def impl_ListSkip.j0:Nat→Int→Bool→List Int→List (S77)→Option ((List (S28)) × Bool)
  |0,_,_,_,_=>none
  |k + 1,x1,x13,x511000,x511001=>if x13=true then (some (([]:List (S28)),false)) else ((impl_Skip_list.f k x511000 x511001 x1).bind fun t513=>(some (t513,true)))
def impl_ListSkip.f (k:Nat) (l0_0:List Int) (l0_1:List (S77)) (a1:Int):Option ((List (S28)) × Bool):=(impl_GoodSkip.f k l0_0 l0_1).bind fun t511=>(if t511=true then ((impl_in.f a1 0 4).bind fun t512=>(impl_ListSkip.j0 k a1 (!t512) l0_0 l0_1)) else (impl_ListSkip.j0 k a1 true l0_0 l0_1))
theorem impl_ListSkip.mono_l:∀ k,(∀ y0 y1 y2 y3,LeO (impl_ListSkip.j0 k y0 y1 y2 y3) (impl_ListSkip.j0 (k + 1) y0 y1 y2 y3))
  |0=>fun _ _ _ _ r h=>by simp [impl_ListSkip.j0] at h
  |k + 1=>by
    have ih0:=impl_ListSkip.mono_l k
    · intro y0 y1 y2 y3
      unfold impl_ListSkip.j0;have j0:=@impl_GoodSkip.mono;have j1:=@impl_Skip_list.mono;exact mo
theorem impl_ListSkip.mono:∀ a0 a1 a2 k,LeO (impl_ListSkip.f k a0 a1 a2) (impl_ListSkip.f (k + 1) a0 a1 a2):=by
  intro a0 a1 a2 k;have ih0:=impl_ListSkip.mono_l k;unfold impl_ListSkip.f;have j0:=@impl_GoodSkip.mono;have j1:=@impl_Skip_list.mono;exact mo
set_option maxHeartbeats 8000000 in
set_option maxRecDepth 100000 in
theorem impl_ListSkip.calls (k:Nat) (A0_0:Option Addr) (c0_0:Nat) (l0_0:List Int) (A0_1:Option Addr) (c0_1:Nat) (l0_1:List (S77)) (a1:Int) (r1:List (S28)) (r2:Bool) (w:World) (hr0_0:Kd.C (Kd.int .i64) w A0_0 l0_0.length l0_0) (hc0_0:l0_0.length≤c0_0) (hr0_1:Kd.C k77 w A0_1 l0_1.length l0_1) (hc0_1:l0_1.length≤c0_1) (hT:Tab w) (h:impl_ListSkip.f k l0_0 l0_1 a1=some (r1,r2)) :
    Calls Tryd.prog 14 #[.agg #[.slice A0_0 l0_0.length c0_0,.slice A0_1 l0_1.length c0_1],.int .i64 a1] w fun e w' => ∃ v0_:Value,e = .returned (.tuple #[v0_,.bool r2])∧Kd.R k28 28 w' w.heap.size (fun _=>True) v0_ r1∧Below w.heap.size w w':=by
 have HT:=AsZ.mk hT;clear hT;have hu26:=Tryd.underlying26;have HR0_0:=AsZ.mk hr0_0;have HC0_0:=AsZ.mk hc0_0;clear hr0_0 hc0_0;have HR0_1:=AsZ.mk hr0_1;have HC0_1:=AsZ.mk hc0_1;clear hr0_1 hc0_1;have HB:=AsZ.mk (Below.refl w.heap.size w);have H:((impl_GoodSkip.f k l0_0 l0_1).bind fun t511=>(if t511=true then ((impl_in.f a1 0 4).bind fun t512=>(impl_ListSkip.j0 k a1 (!t512) l0_0 l0_1)) else (impl_ListSkip.j0 k a1 true l0_0 l0_1)))=some (r1,r2):=h;clear h;have HC3:=AsZ.mk H;clear H;go_enter Tryd.func14,Tryd.ntmps14;go_upto_region 1 with (first|((with_reducible refine gate_dst (N:=2) rfl ?_);refine bev 2 26 (cs:=#[.slice A0_0 l0_0.length c0_0,.slice A0_1 l0_1.length c0_1]) ?_;intro gb510 hg w4 hbox hb;have GW510:=gz HB hg;have GE510:=gz HB hg;have HI510:=AsZ.mk ((show IsS26F A0_0 c0_0 A0_1 c0_1 w w4 gb510 l0_0 l0_1 from ⟨hbox,(by rw [hg];exact (bwz bel)),HR0_0.out,HC0_0.out,HR0_1.out,HC0_1.out⟩));replace HB:=bp hb;clear hb hbox hg))
 (try simp only [Act.put,zS,zT,zU])
 go_cut [13] (fun v13 wc => ∃ (kq:Nat) (x13_2:Bool),v13 = .bool x13_2∧AsZ (impl_ListSkip.j0 kq a1 x13_2 l0_0 l0_1=some (r1,r2))∧AsZ (kq≤k)∧AsZ (IsS26F A0_0 c0_0 A0_1 c0_1 w wc gb510 l0_0 l0_1)∧AsZ (Below w.heap.size w wc))
 case first =>
  have H:=HC3.out;clear HC3;replace H:=bs H;obtain ⟨t511,A5,H⟩:=H;by_cases c6:t511=true;rotate_left
  · replace c6:=Bool.eq_false_iff.mpr c6
    subst c6;replace H:=iN H;have H':=AsZ.mk H;clear H;obtain ⟨ASz10_0,cSz10_0,ASz10_1,cSz10_1,⟨es0_,es1_,es2_,es3_⟩,HGz10,hgz10,HSz10_0,HSCz10_0,HSz10_1,HSCz10_1⟩:=IsS26F.ex HI510.out;subst es0_;subst es1_;subst es2_;subst es3_;have hcz10_0:=cellS26_0 HGz10;have hcz10_1:=cellS26_1 HGz10;clear HGz10 hgz10;go_wp2_with (first|((with_reducible refine gcl (f:=15) rfl ?_);refine gk (some 7) Tryd.func15 #[.agg #[.slice ASz10_0 l0_0.length cSz10_0,.slice ASz10_1 l0_1.length cSz10_1]] ?_;(with_reducible refine (impl_GoodSkip.calls k _ _ l0_0 _ _ l0_1 false _ ?side1 ?side2 ?side3 ?side4 ?sideT A5.out).mono ?_);(case sideT=>exact tab_below HT.out (by repeat (first|(with_reducible first|exact HB.out|apply bwa|apply pbN|apply bw1|refine bws ?_ (AsZ.out (by assumption)))|exact HB.out)));(case side1=>exact Kd.C_below HSz10_0 bel);(case side2=>exact HSCz10_0);(case side3=>exact Kd.C_below HSz10_1 bel);(case side4=>exact HSCz10_1);rintro e w11 ⟨rfl,hb⟩;refine ⟨_,rfl,?_⟩;replace HI510:=AsZ.mk (IsS26F.below (st26F HI510) hb);replace HB:=bp hb;(try clear hb);(try clear hb2);(try clear hk);(try clear hi)));go_meet
    case rel=>exact ⟨_,(true),rs,H',⟨lo⟩,⟨st26F HI510⟩,⟨bel⟩⟩
  subst c6;replace H:=iP H;replace H:=bs H;obtain ⟨t512,A7,H⟩:=H;have H':=AsZ.mk H;clear H;obtain ⟨ASz8_0,cSz8_0,ASz8_1,cSz8_1,⟨es0_,es1_,es2_,es3_⟩,HGz8,hgz8,HSz8_0,HSCz8_0,HSz8_1,HSCz8_1⟩:=IsS26F.ex HI510.out;subst es0_;subst es1_;subst es2_;subst es3_;have hcz8_0:=cellS26_0 HGz8;have hcz8_1:=cellS26_1 HGz8;clear HGz8 hgz8;go_wp2_with (first|((with_reducible refine gcl (f:=15) rfl ?_);refine gk (some 7) Tryd.func15 #[.agg #[.slice ASz8_0 l0_0.length cSz8_0,.slice ASz8_1 l0_1.length cSz8_1]] ?_;(with_reducible refine (impl_GoodSkip.calls k _ _ l0_0 _ _ l0_1 true _ ?side1 ?side2 ?side3 ?side4 ?sideT A5.out).mono ?_);(case sideT=>exact tab_below HT.out (by repeat (first|(with_reducible first|exact HB.out|apply bwa|apply pbN|apply bw1|refine bws ?_ (AsZ.out (by assumption)))|exact HB.out)));(case side1=>exact Kd.C_below HSz8_0 bel);(case side2=>exact HSCz8_0);(case side3=>exact Kd.C_below HSz8_1 bel);(case side4=>exact HSCz8_1);rintro e w9 ⟨rfl,hb⟩;refine ⟨_,rfl,?_⟩;replace HI510:=AsZ.mk (IsS26F.below (st26F HI510) hb);replace HB:=bp hb;(try clear hb);(try clear hb2);(try clear hk);(try clear hi))|(go_at_call 50;(with_reducible refine (impl_in.calls a1 0 4 t512 _ A7.out).mono ?_);rintro e w' ⟨rfl,⟨nd,rfl⟩⟩));go_meet
  case rel=>exact ⟨_,(!t512),rs,H',⟨lo⟩,⟨st26F HI510⟩,⟨bel⟩⟩
 case rest =>
  clear HC3
  try clear p2
  try clear hcz10_0 hcz10_1
  try clear hcz8_0 hcz8_1
  obtain ⟨kq,x13_2,rfl,HA,HJ2,HI510,HB⟩:=hcut
  cases kq with
  |zero=>exact absurd HA.out (by simp [impl_ListSkip.j0])
  |succ kj2 =>
   have H:=HA.out;clear HA;simp only [impl_ListSkip.j0] at H;by_cases c12:x13_2=true
   · subst c12
     replace H:=iP H;simp only [Option.some.injEq,Prod.mk.injEq] at H;obtain ⟨rfl,rfl⟩:=H;go_wp2
     go_ret2
     exact ⟨_,re,by first|exact Kd.R_nil _ _ _ _ _|exact Kd.N_nil _ _ _ _ _|exact Kd.V_nil _ _ _ _ _|exact Kd.Q_nil _ _ _ _ _|exact Kd.S_nil _ _ _ _ _,bel⟩
   replace c12:=Bool.eq_false_iff.mpr c12;subst c12;replace H:=iN H;replace H:=bs H;obtain ⟨t513,A13,H⟩:=H;simp only [Option.some.injEq,Prod.mk.injEq] at H;obtain ⟨rfl,rfl⟩:=H;go_wp2_with (first|((with_reducible refine gcl (f:=51) rfl ?_);refine gk (some 15) Tryd.func51 #[.pointer (some ⟨gb510,0,none⟩),.int .i64 a1] ?_;(with_reducible refine (impl_Skip_list.calls kj2 gb510 l0_0 l0_1 a1 t513 w _ ?side1 ?side2 A13.out).mono ?_);(case side1=>apply IsS26F.to;repeat (first|(with_reducible first|exact HI510.out|apply IsS26F.alloc|apply IsS26F.drewN|apply IsS26F.drew)|exact HI510.out));(case side2=>exact bel);rintro e w14 ⟨v514,rfl,ho0,hi,hb,hk⟩;replace hi:=IsS26F.below (st26F HI510) hk;replace hk:=KeepF.keep hk;refine ⟨_,rfl,?_⟩;have HO515:=AsZ.mk (Kd.R_lower ho0 (bwz bel));replace HB:=AsZ.mk (hb);replace HI510:=AsZ.mk (hi);(try clear hb);(try clear hb2);(try clear hk);(try clear hi);(try clear ho0)))
   go_ret2
   exact ⟨_,re,kR HO515,bel⟩
/-! ### spec_CompareItem: function 16 -/
def spec_CompareItem.j0:Nat→Bool→ByteArray→Int→Int→ByteArray→ByteArray→Int→Int→ByteArray→Option (Int × Bool)
  |0,_,_,_,_,_,_,_,_,_=>none
  |k + 1,x13,x517000,x517001,x517002,x517003,x518000,x518001,x518002,x518003=>if x13=true then (some (0,false)) else ((spec_l4Compare.f k x517000 x517001 x517002 x517003 x518000 x518001 x518002 x518003).bind fun t520=>(some (t520,true)))
def spec_CompareItem.f (k:Nat) (a0_0:ByteArray) (a0_1:Int) (a0_2:Int) (a0_3:ByteArray) (a1_0:ByteArray) (a1_1:Int) (a1_2:Int) (a1_3:ByteArray):Option (Int × Bool):=(spec_GoodItem.f a0_0 a0_1 a0_2 a0_3).bind fun t518=>(if t518=true then ((spec_GoodItem.f a1_0 a1_1 a1_2 a1_3).bind fun t519=>(spec_CompareItem.j0 k (!t519) a0_0 a0_1 a0_2 a0_3 a1_0 a1_1 a1_2 a1_3)) else (spec_CompareItem.j0 k true a0_0 a0_1 a0_2 a0_3 a1_0 a1_1 a1_2 a1_3))
theorem spec_CompareItem.mono_l:∀ k,(∀ y0 y1 y2 y3 y4 y5 y6 y7 y8,LeO (spec_CompareItem.j0 k y0 y1 y2 y3 y4 y5 y6 y7 y8) (spec_CompareItem.j0 (k + 1) y0 y1 y2 y3 y4 y5 y6 y7 y8))
  |0=>fun _ _ _ _ _ _ _ _ _ r h=>by simp [spec_CompareItem.j0] at h
  |k + 1=>by
    have ih0:=spec_CompareItem.mono_l k
    · intro y0 y1 y2 y3 y4 y5 y6 y7 y8
      unfold spec_CompareItem.j0;have j0:=@spec_l4Compare.mono;exact mo
theorem spec_CompareItem.mono:∀ a0 a1 a2 a3 a4 a5 a6 a7 k,LeO (spec_CompareItem.f k a0 a1 a2 a3 a4 a5 a6 a7) (spec_CompareItem.f (k + 1) a0 a1 a2 a3 a4 a5 a6 a7):=by
  intro a0 a1 a2 a3 a4 a5 a6 a7 k;have ih0:=spec_CompareItem.mono_l k;unfold spec_CompareItem.f;have j0:=@spec_l4Compare.mono;exact mo
set_option maxHeartbeats 8000000 in
set_option maxRecDepth 100000 in
theorem spec_CompareItem.calls (k:Nat) (a0_0:ByteArray) (a0_1:Int) (a0_2:Int) (a0_3:ByteArray) (a1_0:ByteArray) (a1_1:Int) (a1_2:Int) (a1_3:ByteArray) (r1:Int) (r2:Bool) (w:World) (h:spec_CompareItem.f k a0_0 a0_1 a0_2 a0_3 a1_0 a1_1 a1_2 a1_3=some (r1,r2)) :
    Calls Tryd.prog 16 #[.agg #[.string a0_0,.int .i64 a0_1,.int .i64 a0_2,.string a0_3],.agg #[.string a1_0,.int .i64 a1_1,.int .i64 a1_2,.string a1_3]] w fun e w'=>e = .returned (.tuple #[.int .i64 r1,.bool r2])∧Below w.heap.size w w':=by
 have hu28:=Tryd.underlying28;have HB:=AsZ.mk (Below.refl w.heap.size w);have H:((spec_GoodItem.f a0_0 a0_1 a0_2 a0_3).bind fun t518=>(if t518=true then ((spec_GoodItem.f a1_0 a1_1 a1_2 a1_3).bind fun t519=>(spec_CompareItem.j0 k (!t519) a0_0 a0_1 a0_2 a0_3 a1_0 a1_1 a1_2 a1_3)) else (spec_CompareItem.j0 k true a0_0 a0_1 a0_2 a0_3 a1_0 a1_1 a1_2 a1_3)))=some (r1,r2):=h;clear h;have HC3:=AsZ.mk H;clear H;go_enter Tryd.func16,Tryd.ntmps16;go_upto_region 1 with (first|((with_reducible refine gate_dst (N:=2) rfl ?_);refine bev 2 28 (cs:=#[.string a0_0,.int .i64 a0_1,.int .i64 a0_2,.string a0_3]) ?_;intro gb516 hg w4 hbox hb;have BK516:=AsZ.mk (hbox);have GW516:=gz HB hg;have GE516:=gz HB hg;replace HB:=bp hb;clear hb hbox hg)|((with_reducible refine gate_dst (N:=3) rfl ?_);refine bev 3 28 (cs:=#[.string a1_0,.int .i64 a1_1,.int .i64 a1_2,.string a1_3]) ?_;intro gb517 hg w5 hbox hb;have BK517:=AsZ.mk (hbox);have GW517:=gz HB hg;have GE517:=gz HB hg;have NB516_517:=nl BK516 hg;have NB517_516:=nr BK516 hg;replace BK516:=bb BK516 hb;replace HB:=bp hb;clear hb hbox hg))
 (try simp only [Act.put,zS,zT,zU])
 go_cut [13] (fun v13 wc => ∃ (kq:Nat) (x13_2:Bool),v13 = .bool x13_2∧AsZ (spec_CompareItem.j0 kq x13_2 a0_0 a0_1 a0_2 a0_3 a1_0 a1_1 a1_2 a1_3=some (r1,r2))∧AsZ (kq≤k)∧AsZ (wc.heap[gb516]? = some (.cells #[.string a0_0,.int .i64 a0_1,.int .i64 a0_2,.string a0_3] 28 (0,0)))∧AsZ (wc.heap[gb517]? = some (.cells #[.string a1_0,.int .i64 a1_1,.int .i64 a1_2,.string a1_3] 28 (0,0)))∧AsZ (Below w.heap.size w wc))
 case first =>
  have H:=HC3.out;clear HC3;replace H:=bs H;obtain ⟨t518,A6,H⟩:=H;by_cases c7:t518=true;rotate_left
  · replace c7:=Bool.eq_false_iff.mpr c7
    subst c7;replace H:=iN H;have H':=AsZ.mk H;clear H;have hnb14:=NB516_517.out;have hnc14:=NB517_516.out;obtain ⟨hcz15_0,hcz15_1,hcz15_2,hcz15_3,hfz15_0,hfz15_1,hfz15_2,hfz15_3⟩:=bx4 BK516;go_wp2_with (first|((with_reducible refine gcl (f:=45) rfl ?_);refine gk (some 7) Tryd.func45 #[.agg #[.string a0_0,.int .i64 a0_1,.int .i64 a0_2,.string a0_3]] ?_;(with_reducible refine (spec_GoodItem.calls a0_0 a0_1 a0_2 a0_3 false _ A6.out).mono ?_);rintro e w16 ⟨rfl,hb⟩;refine ⟨_,rfl,?_⟩;replace BK516:=bb BK516 hb;replace BK517:=bb BK517 hb;replace HB:=bp hb;(try clear hb);(try clear hb2);(try clear hk);(try clear hi)));go_meet
    case rel=>exact ⟨_,(true),rs,H',⟨lo⟩,⟨bk BK516⟩,⟨bk BK517⟩,⟨bel⟩⟩
  subst c7;replace H:=iP H;replace H:=bs H;obtain ⟨t519,A8,H⟩:=H;have H':=AsZ.mk H;clear H;have hnb9:=NB516_517.out;have hnc9:=NB517_516.out;obtain ⟨hcz10_0,hcz10_1,hcz10_2,hcz10_3,hfz10_0,hfz10_1,hfz10_2,hfz10_3⟩:=bx4 BK516;go_wp2_with (first|((with_reducible refine gcl (f:=45) rfl ?_);refine gk (some 7) Tryd.func45 #[.agg #[.string a0_0,.int .i64 a0_1,.int .i64 a0_2,.string a0_3]] ?_;(with_reducible refine (spec_GoodItem.calls a0_0 a0_1 a0_2 a0_3 true _ A6.out).mono ?_);rintro e w11 ⟨rfl,hb⟩;refine ⟨_,rfl,?_⟩;replace BK516:=bb BK516 hb;replace BK517:=bb BK517 hb;replace HB:=bp hb;(try clear hb);(try clear hb2);(try clear hk);(try clear hi);obtain ⟨hcz12_0,hcz12_1,hcz12_2,hcz12_3,hfz12_0,hfz12_1,hfz12_2,hfz12_3⟩:=bx4 BK517)|(go_at_call 45;(with_reducible refine (spec_GoodItem.calls a1_0 a1_1 a1_2 a1_3 t519 _ A8.out).mono ?_);rintro e w13 ⟨rfl,hb⟩;replace BK516:=bb BK516 hb;replace BK517:=bb BK517 hb;replace HB:=bp hb;(try clear hb);(try clear hb2);(try clear hk);(try clear hi)));go_meet
  case rel=>exact ⟨_,(!t519),rs,H',⟨lo⟩,⟨bk BK516⟩,⟨bk BK517⟩,⟨bel⟩⟩
 case rest =>
  clear HC3
  try clear p2
  try clear hcz10_0 hcz10_1 hcz10_2 hcz10_3 hfz10_0 hfz10_1 hfz10_2 hfz10_3
  try clear hcz12_0 hcz12_1 hcz12_2 hcz12_3 hfz12_0 hfz12_1 hfz12_2 hfz12_3
  try clear hcz15_0 hcz15_1 hcz15_2 hcz15_3 hfz15_0 hfz15_1 hfz15_2 hfz15_3
  obtain ⟨kq,x13_2,rfl,HA,HJ2,BK516,BK517,HB⟩:=hcut
  cases kq with
  |zero=>exact absurd HA.out (by simp [spec_CompareItem.j0])
  |succ kj2 =>
   have H:=HA.out;clear HA;simp only [spec_CompareItem.j0] at H;by_cases c17:x13_2=true
   · subst c17
     replace H:=iP H;simp only [Option.some.injEq,Prod.mk.injEq] at H;obtain ⟨rfl,rfl⟩:=H;go_wp2
     go_ret2
     exact ⟨re,bel⟩
   replace c17:=Bool.eq_false_iff.mpr c17;subst c17;replace H:=iN H;replace H:=bs H;obtain ⟨t520,A18,H⟩:=H;simp only [Option.some.injEq,Prod.mk.injEq] at H;obtain ⟨rfl,rfl⟩:=H;have hnb19:=NB516_517.out;have hnc19:=NB517_516.out;obtain ⟨hcz20_0,hcz20_1,hcz20_2,hcz20_3,hfz20_0,hfz20_1,hfz20_2,hfz20_3⟩:=bx4 BK516;obtain ⟨hcz21_0,hcz21_1,hcz21_2,hcz21_3,hfz21_0,hfz21_1,hfz21_2,hfz21_3⟩:=bx4 BK517;go_wp2_with (first|((with_reducible refine gcl (f:=47) rfl ?_);refine gk (some 16) Tryd.func47 #[.agg #[.string a0_0,.int .i64 a0_1,.int .i64 a0_2,.string a0_3],.agg #[.string a1_0,.int .i64 a1_1,.int .i64 a1_2,.string a1_3]] ?_;(with_reducible refine (spec_l4Compare.calls kj2 a0_0 a0_1 a0_2 a0_3 a1_0 a1_1 a1_2 a1_3 t520 _ A18.out).mono ?_);rintro e w22 ⟨rfl,hb⟩;refine ⟨_,rfl,?_⟩;replace BK516:=bb BK516 hb;replace BK517:=bb BK517 hb;replace HB:=bp hb;(try clear hb);(try clear hb2);(try clear hk);(try clear hi)))
   go_ret2
   exact ⟨re,bel⟩
/-! ### spec_TowerOf: function 17 -/
def spec_TowerOf.j0:Nat→ByteArray→Int→Bool→Option (Int × Bool)
  |0,_,_,_=>none
  |k + 1,x0,x1,x13=>if x13=true then (some (0,false)) else ((spec_l2Table.f k).bind fun t523=>((spec_l4Tower.f k t523 x0 x1).bind fun t526=>(some (t526,true))))
def spec_TowerOf.f (k:Nat) (a0:ByteArray) (a1:Int):Option (Int × Bool):=(spec_l4Key.f a0).bind fun t521=>(if t521=true then ((spec_l4Seq.f a1).bind fun t522=>(spec_TowerOf.j0 k a0 a1 (!t522))) else (spec_TowerOf.j0 k a0 a1 true))
theorem spec_TowerOf.mono_l:∀ k,(∀ y0 y1 y2,LeO (spec_TowerOf.j0 k y0 y1 y2) (spec_TowerOf.j0 (k + 1) y0 y1 y2))
  |0=>fun _ _ _ r h=>by simp [spec_TowerOf.j0] at h
  |k + 1=>by
    have ih0:=spec_TowerOf.mono_l k
    · intro y0 y1 y2
      unfold spec_TowerOf.j0;have j0:=@spec_l2Table.mono;have j1:=@spec_l4Tower.mono;exact mo
theorem spec_TowerOf.mono:∀ a0 a1 k,LeO (spec_TowerOf.f k a0 a1) (spec_TowerOf.f (k + 1) a0 a1):=by
  intro a0 a1 k;have ih0:=spec_TowerOf.mono_l k;unfold spec_TowerOf.f;have j0:=@spec_l2Table.mono;have j1:=@spec_l4Tower.mono;exact mo
set_option maxHeartbeats 8000000 in
set_option maxRecDepth 100000 in
theorem spec_TowerOf.calls (k:Nat) (a0:ByteArray) (a1:Int) (r1:Int) (r2:Bool) (w:World) (h:spec_TowerOf.f k a0 a1=some (r1,r2)) :
    Calls Tryd.prog 17 #[.string a0,.int .i64 a1] w fun e w'=>e = .returned (.tuple #[.int .i64 r1,.bool r2])∧Below w.heap.size w w':=by
 have HB:=AsZ.mk (Below.refl w.heap.size w);have H:((spec_l4Key.f a0).bind fun t521=>(if t521=true then ((spec_l4Seq.f a1).bind fun t522=>(spec_TowerOf.j0 k a0 a1 (!t522))) else (spec_TowerOf.j0 k a0 a1 true)))=some (r1,r2):=h;clear h;have HC3:=AsZ.mk H;clear H;go_enter Tryd.func17,Tryd.ntmps17;go_upto_region 1 with (fail)
 go_cut [13] (fun v13 wc => ∃ (kq:Nat) (x13_2:Bool),v13 = .bool x13_2∧AsZ (spec_TowerOf.j0 kq a0 a1 x13_2=some (r1,r2))∧AsZ (kq≤k)∧AsZ (Below w.heap.size w wc))
 case first =>
  have H:=HC3.out;clear HC3;replace H:=bs H;obtain ⟨t521,A4,H⟩:=H;by_cases c5:t521=true;rotate_left
  · replace c5:=Bool.eq_false_iff.mpr c5
    subst c5;replace H:=iN H;have H':=AsZ.mk H;clear H;go_wp2_with (first|((with_reducible refine gcl (f:=53) rfl ?_);refine gk (some 7) Tryd.func53 #[.string a0] ?_;(with_reducible refine (spec_l4Key.calls a0 false _ A4.out).mono ?_);rintro e w' ⟨rfl,⟨nd,rfl⟩⟩;refine ⟨_,rfl,?_⟩));go_meet
    case rel=>exact ⟨_,(true),rs,H',⟨lo⟩,⟨bel⟩⟩
  subst c5;replace H:=iP H;replace H:=bs H;obtain ⟨t522,A6,H⟩:=H;have H':=AsZ.mk H;clear H;go_wp2_with (first|((with_reducible refine gcl (f:=53) rfl ?_);refine gk (some 7) Tryd.func53 #[.string a0] ?_;(with_reducible refine (spec_l4Key.calls a0 true _ A4.out).mono ?_);rintro e w' ⟨rfl,⟨nd,rfl⟩⟩;refine ⟨_,rfl,?_⟩)|(go_at_call 54;(with_reducible refine (spec_l4Seq.calls a1 t522 _ A6.out).mono ?_);rintro e w' ⟨rfl,⟨nd,rfl⟩⟩));go_meet
  case rel=>exact ⟨_,(!t522),rs,H',⟨lo⟩,⟨bel⟩⟩
 case rest =>
  clear HC3
  try clear p2
  obtain ⟨kq,x13_2,rfl,HA,HJ2,HB⟩:=hcut
  cases kq with
  |zero=>exact absurd HA.out (by simp [spec_TowerOf.j0])
  |succ kj2 =>
   have H:=HA.out;clear HA;simp only [spec_TowerOf.j0] at H;by_cases c7:x13_2=true
   · subst c7
     replace H:=iP H;simp only [Option.some.injEq,Prod.mk.injEq] at H;obtain ⟨rfl,rfl⟩:=H;go_wp2
     go_ret2
     exact ⟨re,bel⟩
   replace c7:=Bool.eq_false_iff.mpr c7;subst c7;replace H:=iN H;replace H:=bs H;obtain ⟨t523,A8,H⟩:=H;replace H:=bs H;obtain ⟨t526,A9,H⟩:=H;simp only [Option.some.injEq,Prod.mk.injEq] at H;obtain ⟨rfl,rfl⟩:=H;go_wp2_with (first|((with_reducible refine gcl (f:=56) rfl ?_);refine gk (some 14) Tryd.func56 #[] ?_;(with_reducible refine (spec_l2Table.calls kj2  t523 _ A8.out).mono ?_);rintro e w10 ⟨v524,rfl,ho0,hb⟩;refine ⟨_,rfl,?_⟩;have HO525:=AsZ.mk (Kd.R_lower ho0 (bwz bel));replace HB:=bp hb;(try clear hb);(try clear hb2);(try clear hk);(try clear hi);(try clear ho0);obtain ⟨Ao11,co11,eo11⟩:=Kd.R_slice HO525.out;subst eo11)|((with_reducible refine gcl (f:=55) rfl ?_);refine gk (some 17) Tryd.func55 #[.slice Ao11 t523.length co11,.string a0,.int .i64 a1] ?_;(with_reducible refine (spec_l4Tower.calls kj2 _ _ t523 a0 a1 t526 _ ?side1 ?side2 A9.out).mono ?_);(case side1=>exact cC (Kd.R_reads' HO525.out).2.2);(case side2=>exact (Kd.R_reads' HO525.out).2.1);rintro e w12 ⟨rfl,hb⟩;refine ⟨_,rfl,?_⟩;replace HO525:=rR HO525 hb;replace HB:=bp hb;(try clear hb);(try clear hb2);(try clear hk);(try clear hi)))
   go_ret2
   exact ⟨re,bel⟩
end Go.Proofs.YtffjlpphcjfdgaaDoor.MFnSkip
