-- Written by a program of this session out of the translation. Not trusted: Lean checks it.
import Derived.Test.YtffjlpphcjfdgaaDoorMFnExactSeekSkipx0
import Derived.Test.YtffjlpphcjfdgaaDoorMFnExactSeekSkipx2
import Derived.Test.YtffjlpphcjfdgaaDoorMFnExactSeekSkipx5
import Derived.Test.YtffjlpphcjfdgaaDoorMFnExactSeekSkipx6
namespace Go.Proofs.YtffjlpphcjfdgaaDoor.MFnExactSeekSkip
-- short
-- shrunk
-- TAB
-- RD
open Go.Proofs.YtffjlpphcjfdgaaDoor Go.RowKit Go.Proofs.YtffjlpphcjfdgaaDoorW.PrintWords Go.Proofs.YtffjlpphcjfdgaaDoorW.PrintLast Go.Proofs.YtffjlpphcjfdgaaDoorW.PrintMore Go.Proofs.YtffjlpphcjfdgaaDoorX
attribute [local go_sem] max2_int min2_int max_two min_two max_three min_three max_four min_four str_gtr str_leq str_geq cell_twice
set_option linter.unusedVariables false
set_option linter.unusedSimpArgs false
/-! ### spec_SeekSkip: function 31 -/
def spec_SeekSkip.j0:Nat→ByteArray→Int→Bool→List Int→List (S77)→Option (ByteArray × Int × Int × ByteArray × Int × Bool)
  |0,_,_,_,_,_=>none
  |k + 1,x1,x2,x23,x240000,x240001=>if x23=true then (some ((⟨#[]⟩:ByteArray),0,0,(⟨#[]⟩:ByteArray),0,false)) else ((spec_l4First.f k x240000 x240001 x1 x2 0 (⟨#[]⟩:ByteArray)).bind fun bt244=>(if bt244.1 < 0 then (some ((⟨#[]⟩:ByteArray),0,0,(⟨#[]⟩:ByteArray),0,false)) else (if 0≤bt244.1 then (if bt244.1 < (x240001.length:Int) then (some ((rd_T77 x240001 bt244.1).f0.f0,(rd_T77 x240001 bt244.1).f0.f1,(rd_T77 x240001 bt244.1).f0.f2,(rd_T77 x240001 bt244.1).f0.f3,bt244.2,true)) else (none)) else (none))))
def spec_SeekSkip.f (k:Nat) (l0_0:List Int) (l0_1:List (S77)) (a1:ByteArray) (a2:Int):Option (ByteArray × Int × Int × ByteArray × Int × Bool):=(spec_GoodSkip.f k l0_0 l0_1).bind fun t241=>(if t241=true then ((spec_l4Key.f a1).bind fun t242=>(if t242=true then ((spec_l4Seq.f a2).bind fun t243=>(spec_SeekSkip.j0 k a1 a2 (!t243) l0_0 l0_1)) else (spec_SeekSkip.j0 k a1 a2 true l0_0 l0_1))) else (spec_SeekSkip.j0 k a1 a2 true l0_0 l0_1))
theorem spec_SeekSkip.mono_l:∀ k,(∀ y0 y1 y2 y3 y4,LeO (spec_SeekSkip.j0 k y0 y1 y2 y3 y4) (spec_SeekSkip.j0 (k + 1) y0 y1 y2 y3 y4))
  |0=>fun _ _ _ _ _ r h=>by simp [spec_SeekSkip.j0] at h
  |k + 1=>by
    have ih0:=spec_SeekSkip.mono_l k
    · intro y0 y1 y2 y3 y4
      unfold spec_SeekSkip.j0
      repeat' first
      |(with_reducible exact ih0 _ _ _ _ _)
      |(with_reducible exact spec_GoodSkip.mono _ _ _)
      |(with_reducible exact spec_l4First.mono _ _ _ _ _ _ _)
      |(with_reducible exact LeO.refl _)
      |(with_reducible exact LeO.none _)
      |(with_reducible refine LeO.ite ?_ ?_)
      |(with_reducible refine LeO.bind ?_ (fun _=>?_))
      |exact ih0 _ _ _ _ _
      |exact spec_GoodSkip.mono _ _ _
      |exact spec_l4First.mono _ _ _ _ _ _ _
      |exact LeO.none _
      |refine LeO.ite ?_ ?_
      |refine LeO.bind ?_ (fun _=>?_)
theorem spec_SeekSkip.mono:∀ a0 a1 a2 a3 k,LeO (spec_SeekSkip.f k a0 a1 a2 a3) (spec_SeekSkip.f (k + 1) a0 a1 a2 a3):=by
  intro a0 a1 a2 a3 k
  have ih0:=spec_SeekSkip.mono_l k
  unfold spec_SeekSkip.f
  repeat' first
      |(with_reducible exact ih0 _ _ _ _ _)
      |(with_reducible exact spec_GoodSkip.mono _ _ _)
      |(with_reducible exact spec_l4First.mono _ _ _ _ _ _ _)
      |(with_reducible exact LeO.refl _)
      |(with_reducible exact LeO.none _)
      |(with_reducible refine LeO.ite ?_ ?_)
      |(with_reducible refine LeO.bind ?_ (fun _=>?_))
      |exact ih0 _ _ _ _ _
      |exact spec_GoodSkip.mono _ _ _
      |exact spec_l4First.mono _ _ _ _ _ _ _
      |exact LeO.none _
      |refine LeO.ite ?_ ?_
      |refine LeO.bind ?_ (fun _=>?_)
set_option maxHeartbeats 8000000 in
set_option maxRecDepth 100000 in
theorem spec_SeekSkip.calls (k:Nat) (A0_0:Option Addr) (c0_0:Nat) (l0_0:List Int) (A0_1:Option Addr) (c0_1:Nat) (l0_1:List (S77)) (a1:ByteArray) (a2:Int) (r1:ByteArray) (r2:Int) (r3:Int) (r4:ByteArray) (r5:Int) (r6:Bool) (w:World) (hr0_0:Kd.C (Kd.int .i64) w A0_0 l0_0.length l0_0) (hc0_0:l0_0.length≤c0_0) (hr0_1:Kd.C k77 w A0_1 l0_1.length l0_1) (hc0_1:l0_1.length≤c0_1) (h:spec_SeekSkip.f k l0_0 l0_1 a1 a2=some (r1,r2,r3,r4,r5,r6)) :
    Calls Tryd.prog 31 #[.agg #[.slice A0_0 l0_0.length c0_0,.slice A0_1 l0_1.length c0_1],.string a1,.int .i64 a2] w fun e w'=>e = .returned (.tuple #[.agg #[.string r1,.int .i64 r2,.int .i64 r3,.string r4],.int .i64 r5,.bool r6])∧Below w.heap.size w w':=by
 have hu26:=Tryd.underlying26
 have hu28:=Tryd.underlying28
 have HR0_0:=AsZ.mk hr0_0
 have HC0_0:=AsZ.mk hc0_0
 clear hr0_0 hc0_0
 have HR0_1:=AsZ.mk hr0_1
 have HC0_1:=AsZ.mk hc0_1
 clear hr0_1 hc0_1
 have HB:=AsZ.mk (Below.refl w.heap.size w)
 have H:((spec_GoodSkip.f k l0_0 l0_1).bind fun t241=>(if t241=true then ((spec_l4Key.f a1).bind fun t242=>(if t242=true then ((spec_l4Seq.f a2).bind fun t243=>(spec_SeekSkip.j0 k a1 a2 (!t243) l0_0 l0_1)) else (spec_SeekSkip.j0 k a1 a2 true l0_0 l0_1))) else (spec_SeekSkip.j0 k a1 a2 true l0_0 l0_1)))=some (r1,r2,r3,r4,r5,r6):=h
 clear h
 have HC4:=AsZ.mk H
 clear H
 go_enter Tryd.func31,Tryd.ntmps31
 go_upto_region 1 with (first|((with_reducible refine gate_dst (N:=3) rfl ?_);refine box_event ?hg (N:=3) ?hd (cs:=#[.slice A0_0 l0_0.length c0_0,.slice A0_1 l0_1.length c0_1]) (t:=26) ?hr ?_;(case hd=>rfl);(case hg=>rfl);(case hr=>first|(go_simp;done)|(go_simp;rfl));intro gb239 hg w5 hbox hb;have n0_:=AsZ.mk (bwp (by repeat (first|(with_reducible first|exact HB.out|apply bwa|apply pbN|apply bw1)|exact HB.out)) hb);have n1_:=AsZ.mk (hbox);have n2_:=AsZ.mk ((by rw [hg];exact (bwz (by repeat (first|(with_reducible first|exact HB.out|apply bwa|apply pbN|apply bw1)|exact HB.out))):w.heap.size≤gb239));have n3_:=AsZ.mk ((by rw [hg];exact (bwz (by repeat (first|(with_reducible first|exact HB.out|apply bwa|apply pbN|apply bw1)|exact HB.out))):w.heap.size≤gb239));clear HB;have HB:=n0_;have BK239:=n1_;have GW239:=n2_;have GE239:=n3_;clear n0_ n1_ n2_ n3_;clear hb hbox hg)|((with_reducible refine gate_dst (N:=6) rfl ?_);refine box_event ?hg (N:=6) ?hd (cs:=#[.string (⟨#[]⟩:ByteArray),.int .i64 0,.int .i64 0,.string (⟨#[]⟩:ByteArray)]) (t:=28) ?hr ?_;(case hd=>rfl);(case hg=>rfl);(case hr=>first|(go_simp;done)|(go_simp;rfl));intro gb240 hg w6 hbox hb;have n0_:=AsZ.mk (kb (g:=gb239) (o := .cells #[.slice A0_0 l0_0.length c0_0,.slice A0_1 l0_1.length c0_1] 26 (0,0)) (by (with_reducible repeat (first|refine kdN ?_ _|refine kd ?_|refine ka ?_ _));exact BK239.out) hb);have n1_:=AsZ.mk (bwp (by repeat (first|(with_reducible first|exact HB.out|apply bwa|apply pbN|apply bw1|refine bws ?_ GE239.out)|exact HB.out)) hb);have n2_:=AsZ.mk (hbox);have n3_:=AsZ.mk ((by rw [hg];exact (bwz (by repeat (first|(with_reducible first|exact HB.out|apply bwa|apply pbN|apply bw1|refine bws ?_ GE239.out)|exact HB.out))):w.heap.size≤gb240));have n4_:=AsZ.mk ((by rw [hg];exact (bwz (by repeat (first|(with_reducible first|exact HB.out|apply bwa|apply pbN|apply bw1|refine bws ?_ GE239.out)|exact HB.out))):w.heap.size≤gb240));have n5_:=AsZ.mk ((by rw [hg];exact Nat.ne_of_lt (blk_lt (g:=gb239) (o := .cells #[.slice A0_0 l0_0.length c0_0,.slice A0_1 l0_1.length c0_1] 26 (0,0)) (by (with_reducible repeat (first|refine kdN ?_ _|refine kd ?_|refine ka ?_ _));exact BK239.out)):gb239 ≠ gb240));have n6_:=AsZ.mk ((by rw [hg];exact Nat.ne_of_gt (blk_lt (g:=gb239) (o := .cells #[.slice A0_0 l0_0.length c0_0,.slice A0_1 l0_1.length c0_1] 26 (0,0)) (by (with_reducible repeat (first|refine kdN ?_ _|refine kd ?_|refine ka ?_ _));exact BK239.out)):gb240 ≠ gb239));clear BK239;clear HB;have BK239:=n0_;have HB:=n1_;have BK240:=n2_;have GW240:=n3_;have GE240:=n4_;have NB239_240:=n5_;have NB240_239:=n6_;clear n0_ n1_ n2_ n3_ n4_ n5_ n6_;clear hb hbox hg))
 (try simp only [Act.put,zS,zT,zU])
 go_cut [23] (fun v23 wc => ∃ (kq:Nat) (x23_3:Bool),v23 = .bool x23_3∧AsZ (spec_SeekSkip.j0 kq a1 a2 x23_3 l0_0 l0_1=some (r1,r2,r3,r4,r5,r6))∧AsZ (kq≤k)∧AsZ (wc.heap[gb239]? = some (.cells #[(.slice A0_0 l0_0.length c0_0),(.slice A0_1 l0_1.length c0_1)] 26 (0,0)))∧AsZ (wc.heap[gb240]? = some (.cells #[.string (⟨#[]⟩:ByteArray),.int .i64 0,.int .i64 0,.string (⟨#[]⟩:ByteArray)] 28 (0,0)))∧AsZ (Below w.heap.size w wc))
 case first =>
  have H:=HC4.out
  clear HC4
  replace H:=Option.bind_eq_some_iff.mp H
  obtain ⟨t241,A70,H⟩:=H
  replace H:(if t241=true then ((spec_l4Key.f a1).bind fun t242=>(if t242=true then ((spec_l4Seq.f a2).bind fun t243=>(spec_SeekSkip.j0 k a1 a2 (!t243) l0_0 l0_1)) else (spec_SeekSkip.j0 k a1 a2 true l0_0 l0_1))) else (spec_SeekSkip.j0 k a1 a2 true l0_0 l0_1))=some (r1,r2,r3,r4,r5,r6):=H
  have A7:=AsZ.mk A70
  clear A70
  by_cases c8:t241=true
  rotate_left
  · replace c8:=Bool.eq_false_iff.mpr c8
    subst c8
    have H1:(spec_SeekSkip.j0 k a1 a2 true l0_0 l0_1)=some (r1,r2,r3,r4,r5,r6):=by rw [if_neg (show ¬ (false=true) by decide)] at H;exact H
    clear H
    have H:=H1
    clear H1
    have H':=AsZ.mk H
    clear H
    have hnb18:=NB239_240.out
    have hnc18:=NB240_239.out
    have hcz19_0:w6.cell? ⟨gb239,0,none⟩=some (.slice A0_0 l0_0.length c0_0):=(kc BK239.out 0).trans rfl
    have hcz19_1:w6.cell? ⟨gb239,1,none⟩=some (.slice A0_1 l0_1.length c0_1):=(kc BK239.out 1).trans rfl
    have hfz19_0:=kf BK239.out 0
    have hfz19_1:=kf BK239.out 1
    go_wp2_with (first|((with_reducible refine gcl (f:=30) rfl ?_);refine goesL_ (some 12) rfl rfl Tryd.func30 (by kernel_rfl) rfl #[.agg #[.slice A0_0 l0_0.length c0_0,.slice A0_1 l0_1.length c0_1]] rfl (by (try simp only [zA,zC,zN]);first|done|rfl|(simp only [zM,zL];rfl)) ?_;(with_reducible refine (spec_GoodSkip.calls k _ _ l0_0 _ _ l0_1 false _ ?side1 ?side2 ?side3 ?side4 A7.out).mono ?_);(case side1=>repeat (first|exact (Kd.C_below HR0_0.out HB.out)|(with_reducible refine Kd.C_alloc ?_ _)|(with_reducible refine Kd.C_drewN ?_ _)|(with_reducible refine Kd.C_drew ?_)));(case side2=>exact HC0_0.out);(case side3=>repeat (first|exact (Kd.C_below HR0_1.out HB.out)|(with_reducible refine Kd.C_alloc ?_ _)|(with_reducible refine Kd.C_drewN ?_ _)|(with_reducible refine Kd.C_drew ?_)));(case side4=>exact HC0_1.out);rintro e w20 ⟨rfl,hb⟩;refine ⟨_,rfl,?_⟩;have n0_:=AsZ.mk (kb (g:=gb239) (o := .cells #[.slice A0_0 l0_0.length c0_0,.slice A0_1 l0_1.length c0_1] 26 (0,0)) (by (with_reducible repeat (first|refine kdN ?_ _|refine kd ?_|refine ka ?_ _));exact BK239.out) hb);have n1_:=AsZ.mk (kb (g:=gb240) (o := .cells #[.string (⟨#[]⟩:ByteArray),.int .i64 0,.int .i64 0,.string (⟨#[]⟩:ByteArray)] 28 (0,0)) (by (with_reducible repeat (first|refine kdN ?_ _|refine kd ?_|refine ka ?_ _));exact BK240.out) hb);have n2_:=AsZ.mk (bwp (by repeat (first|(with_reducible first|exact HB.out|apply bwa|apply pbN|apply bw1|refine bws ?_ GE239.out|refine bws ?_ GE240.out)|exact HB.out)) hb);clear BK239;clear BK240;clear HB;have BK239:=n0_;have BK240:=n1_;have HB:=n2_;clear n0_ n1_ n2_;(try clear hb);(try clear hb2);(try clear hk);(try clear hi)))
    go_meet
    case rel=>exact ⟨_,(true),(by first|rfl|(simp;done)|(simp [*];done)),H',⟨by first|omega|exact Nat.le_refl _⟩,⟨by (with_reducible repeat (first|refine kdN ?_ _|refine kd ?_|refine ka ?_ _));exact BK239.out⟩,⟨by (with_reducible repeat (first|refine kdN ?_ _|refine kd ?_|refine ka ?_ _));exact BK240.out⟩,⟨by repeat (first|(with_reducible first|exact HB.out|apply bwa|apply pbN|apply bw1|refine bws ?_ GE239.out|refine bws ?_ GE240.out)|exact HB.out)⟩⟩
  subst c8
  have H1:((spec_l4Key.f a1).bind fun t242=>(if t242=true then ((spec_l4Seq.f a2).bind fun t243=>(spec_SeekSkip.j0 k a1 a2 (!t243) l0_0 l0_1)) else (spec_SeekSkip.j0 k a1 a2 true l0_0 l0_1)))=some (r1,r2,r3,r4,r5,r6):=by rw [if_pos rfl] at H;exact H
  clear H
  have H:=H1
  clear H1
  replace H:=Option.bind_eq_some_iff.mp H
  obtain ⟨t242,A90,H⟩:=H
  replace H:(if t242=true then ((spec_l4Seq.f a2).bind fun t243=>(spec_SeekSkip.j0 k a1 a2 (!t243) l0_0 l0_1)) else (spec_SeekSkip.j0 k a1 a2 true l0_0 l0_1))=some (r1,r2,r3,r4,r5,r6):=H
  have A9:=AsZ.mk A90
  clear A90
  by_cases c10:t242=true
  rotate_left
  · replace c10:=Bool.eq_false_iff.mpr c10
    subst c10
    have H1:(spec_SeekSkip.j0 k a1 a2 true l0_0 l0_1)=some (r1,r2,r3,r4,r5,r6):=by rw [if_neg (show ¬ (false=true) by decide)] at H;exact H
    clear H
    have H:=H1
    clear H1
    have H':=AsZ.mk H
    clear H
    have hnb15:=NB239_240.out
    have hnc15:=NB240_239.out
    have hcz16_0:w6.cell? ⟨gb239,0,none⟩=some (.slice A0_0 l0_0.length c0_0):=(kc BK239.out 0).trans rfl
    have hcz16_1:w6.cell? ⟨gb239,1,none⟩=some (.slice A0_1 l0_1.length c0_1):=(kc BK239.out 1).trans rfl
    have hfz16_0:=kf BK239.out 0
    have hfz16_1:=kf BK239.out 1
    go_wp2_with (first|((with_reducible refine gcl (f:=30) rfl ?_);refine goesL_ (some 12) rfl rfl Tryd.func30 (by kernel_rfl) rfl #[.agg #[.slice A0_0 l0_0.length c0_0,.slice A0_1 l0_1.length c0_1]] rfl (by (try simp only [zA,zC,zN]);first|done|rfl|(simp only [zM,zL];rfl)) ?_;(with_reducible refine (spec_GoodSkip.calls k _ _ l0_0 _ _ l0_1 true _ ?side1 ?side2 ?side3 ?side4 A7.out).mono ?_);(case side1=>repeat (first|exact (Kd.C_below HR0_0.out HB.out)|(with_reducible refine Kd.C_alloc ?_ _)|(with_reducible refine Kd.C_drewN ?_ _)|(with_reducible refine Kd.C_drew ?_)));(case side2=>exact HC0_0.out);(case side3=>repeat (first|exact (Kd.C_below HR0_1.out HB.out)|(with_reducible refine Kd.C_alloc ?_ _)|(with_reducible refine Kd.C_drewN ?_ _)|(with_reducible refine Kd.C_drew ?_)));(case side4=>exact HC0_1.out);rintro e w17 ⟨rfl,hb⟩;refine ⟨_,rfl,?_⟩;have n0_:=AsZ.mk (kb (g:=gb239) (o := .cells #[.slice A0_0 l0_0.length c0_0,.slice A0_1 l0_1.length c0_1] 26 (0,0)) (by (with_reducible repeat (first|refine kdN ?_ _|refine kd ?_|refine ka ?_ _));exact BK239.out) hb);have n1_:=AsZ.mk (kb (g:=gb240) (o := .cells #[.string (⟨#[]⟩:ByteArray),.int .i64 0,.int .i64 0,.string (⟨#[]⟩:ByteArray)] 28 (0,0)) (by (with_reducible repeat (first|refine kdN ?_ _|refine kd ?_|refine ka ?_ _));exact BK240.out) hb);have n2_:=AsZ.mk (bwp (by repeat (first|(with_reducible first|exact HB.out|apply bwa|apply pbN|apply bw1|refine bws ?_ GE239.out|refine bws ?_ GE240.out)|exact HB.out)) hb);clear BK239;clear BK240;clear HB;have BK239:=n0_;have BK240:=n1_;have HB:=n2_;clear n0_ n1_ n2_;(try clear hb);(try clear hb2);(try clear hk);(try clear hi))|(go_at_call 53;(with_reducible refine (spec_l4Key.calls a1 false _ A9.out).mono ?_);rintro e w' ⟨rfl,⟨nd,rfl⟩⟩))
    go_meet
    case rel=>exact ⟨_,(true),(by first|rfl|(simp;done)|(simp [*];done)),H',⟨by first|omega|exact Nat.le_refl _⟩,⟨by (with_reducible repeat (first|refine kdN ?_ _|refine kd ?_|refine ka ?_ _));exact BK239.out⟩,⟨by (with_reducible repeat (first|refine kdN ?_ _|refine kd ?_|refine ka ?_ _));exact BK240.out⟩,⟨by repeat (first|(with_reducible first|exact HB.out|apply bwa|apply pbN|apply bw1|refine bws ?_ GE239.out|refine bws ?_ GE240.out)|exact HB.out)⟩⟩
  subst c10
  have H1:((spec_l4Seq.f a2).bind fun t243=>(spec_SeekSkip.j0 k a1 a2 (!t243) l0_0 l0_1))=some (r1,r2,r3,r4,r5,r6):=by rw [if_pos rfl] at H;exact H
  clear H
  have H:=H1
  clear H1
  replace H:=Option.bind_eq_some_iff.mp H
  obtain ⟨t243,A110,H⟩:=H
  replace H:(spec_SeekSkip.j0 k a1 a2 (!t243) l0_0 l0_1)=some (r1,r2,r3,r4,r5,r6):=H
  have A11:=AsZ.mk A110
  clear A110
  have H':=AsZ.mk H
  clear H
  have hnb12:=NB239_240.out
  have hnc12:=NB240_239.out
  have hcz13_0:w6.cell? ⟨gb239,0,none⟩=some (.slice A0_0 l0_0.length c0_0):=(kc BK239.out 0).trans rfl
  have hcz13_1:w6.cell? ⟨gb239,1,none⟩=some (.slice A0_1 l0_1.length c0_1):=(kc BK239.out 1).trans rfl
  have hfz13_0:=kf BK239.out 0
  have hfz13_1:=kf BK239.out 1
  go_wp2_with (first|((with_reducible refine gcl (f:=30) rfl ?_);refine goesL_ (some 12) rfl rfl Tryd.func30 (by kernel_rfl) rfl #[.agg #[.slice A0_0 l0_0.length c0_0,.slice A0_1 l0_1.length c0_1]] rfl (by (try simp only [zA,zC,zN]);first|done|rfl|(simp only [zM,zL];rfl)) ?_;(with_reducible refine (spec_GoodSkip.calls k _ _ l0_0 _ _ l0_1 true _ ?side1 ?side2 ?side3 ?side4 A7.out).mono ?_);(case side1=>repeat (first|exact (Kd.C_below HR0_0.out HB.out)|(with_reducible refine Kd.C_alloc ?_ _)|(with_reducible refine Kd.C_drewN ?_ _)|(with_reducible refine Kd.C_drew ?_)));(case side2=>exact HC0_0.out);(case side3=>repeat (first|exact (Kd.C_below HR0_1.out HB.out)|(with_reducible refine Kd.C_alloc ?_ _)|(with_reducible refine Kd.C_drewN ?_ _)|(with_reducible refine Kd.C_drew ?_)));(case side4=>exact HC0_1.out);rintro e w14 ⟨rfl,hb⟩;refine ⟨_,rfl,?_⟩;have n0_:=AsZ.mk (kb (g:=gb239) (o := .cells #[.slice A0_0 l0_0.length c0_0,.slice A0_1 l0_1.length c0_1] 26 (0,0)) (by (with_reducible repeat (first|refine kdN ?_ _|refine kd ?_|refine ka ?_ _));exact BK239.out) hb);have n1_:=AsZ.mk (kb (g:=gb240) (o := .cells #[.string (⟨#[]⟩:ByteArray),.int .i64 0,.int .i64 0,.string (⟨#[]⟩:ByteArray)] 28 (0,0)) (by (with_reducible repeat (first|refine kdN ?_ _|refine kd ?_|refine ka ?_ _));exact BK240.out) hb);have n2_:=AsZ.mk (bwp (by repeat (first|(with_reducible first|exact HB.out|apply bwa|apply pbN|apply bw1|refine bws ?_ GE239.out|refine bws ?_ GE240.out)|exact HB.out)) hb);clear BK239;clear BK240;clear HB;have BK239:=n0_;have BK240:=n1_;have HB:=n2_;clear n0_ n1_ n2_;(try clear hb);(try clear hb2);(try clear hk);(try clear hi))|(go_at_call 53;(with_reducible refine (spec_l4Key.calls a1 true _ A9.out).mono ?_);rintro e w' ⟨rfl,⟨nd,rfl⟩⟩)|(go_at_call 54;(with_reducible refine (spec_l4Seq.calls a2 t243 _ A11.out).mono ?_);rintro e w' ⟨rfl,⟨nd,rfl⟩⟩))
  go_meet
  case rel=>exact ⟨_,(!t243),(by first|rfl|(simp;done)|(simp [*];done)),H',⟨by first|omega|exact Nat.le_refl _⟩,⟨by (with_reducible repeat (first|refine kdN ?_ _|refine kd ?_|refine ka ?_ _));exact BK239.out⟩,⟨by (with_reducible repeat (first|refine kdN ?_ _|refine kd ?_|refine ka ?_ _));exact BK240.out⟩,⟨by repeat (first|(with_reducible first|exact HB.out|apply bwa|apply pbN|apply bw1|refine bws ?_ GE239.out|refine bws ?_ GE240.out)|exact HB.out)⟩⟩
 case rest =>
  clear HC4
  try clear c1
  try clear p2
  try clear c3
  try clear c8
  try clear c10
  try clear c12
  try clear c15
  try clear c18
  try clear hcz13_0
  try clear hcz13_1
  try clear hcz16_0
  try clear hcz16_1
  try clear hcz19_0
  try clear hcz19_1
  try clear hfz13_0
  try clear hfz13_1
  try clear hfz16_0
  try clear hfz16_1
  try clear hfz19_0
  try clear hfz19_1
  obtain ⟨kq,x23_3,rfl,HA,HJ3,BK239,BK240,HB⟩:=hcut
  cases kq with
  |zero=>exact absurd HA.out (by simp [spec_SeekSkip.j0])
  |succ kj3 =>
   have H:=HA.out
   clear HA
   simp only [spec_SeekSkip.j0] at H
   by_cases c21:x23_3=true
   · subst c21
     have H1:(some ((⟨#[]⟩:ByteArray),0,0,(⟨#[]⟩:ByteArray),0,false))=some (r1,r2,r3,r4,r5,r6):=by rw [if_pos rfl] at H;exact H
     clear H
     have H:=H1
     clear H1
     simp only [Option.some.injEq,Prod.mk.injEq] at H
     obtain ⟨rfl,rfl,rfl,rfl,rfl,rfl⟩:=H
     have hnb22:=NB240_239.out
     have hnc22:=NB239_240.out
     have hcz23_0:wc.cell? ⟨gb240,0,none⟩=some (.string (⟨#[]⟩:ByteArray)):=(kc BK240.out 0).trans rfl
     have hcz23_1:wc.cell? ⟨gb240,1,none⟩=some (.int .i64 0):=(kc BK240.out 1).trans rfl
     have hcz23_2:wc.cell? ⟨gb240,2,none⟩=some (.int .i64 0):=(kc BK240.out 2).trans rfl
     have hcz23_3:wc.cell? ⟨gb240,3,none⟩=some (.string (⟨#[]⟩:ByteArray)):=(kc BK240.out 3).trans rfl
     have hfz23_0:=kf BK240.out 0
     have hfz23_1:=kf BK240.out 1
     have hfz23_2:=kf BK240.out 2
     have hfz23_3:=kf BK240.out 3
     go_wp2
     refine bodyPost_ret (results_ctt rfl _ _ gb240 28 #[.string (⟨#[]⟩:ByteArray),.int .i64 0,.int .i64 0,.string (⟨#[]⟩:ByteArray)] (0,0) _ rfl (by (with_reducible repeat (first|refine kdN ?_ _|refine kd ?_|refine ka ?_ _));refine blk_put (cs:=#[.string (⟨#[]⟩:ByteArray),.int .i64 0,.int .i64 0,.string (⟨#[]⟩:ByteArray)]) ?_ 3 _ rfl;(with_reducible repeat (first|refine kdN ?_ _|refine kd ?_|refine ka ?_ _));refine blk_put (cs:=#[.string (⟨#[]⟩:ByteArray),.int .i64 0,.int .i64 0,.string (⟨#[]⟩:ByteArray)]) ?_ 2 _ rfl;(with_reducible repeat (first|refine kdN ?_ _|refine kd ?_|refine ka ?_ _));refine blk_put (cs:=#[.string (⟨#[]⟩:ByteArray),.int .i64 0,.int .i64 0,.string (⟨#[]⟩:ByteArray)]) ?_ 1 _ rfl;(with_reducible repeat (first|refine kdN ?_ _|refine kd ?_|refine ka ?_ _));refine blk_put (cs:=#[.string (⟨#[]⟩:ByteArray),.int .i64 0,.int .i64 0,.string (⟨#[]⟩:ByteArray)]) ?_ 0 _ rfl;(with_reducible repeat (first|refine kdN ?_ _|refine kd ?_|refine ka ?_ _));exact BK240.out) Tryd.underlying28 rfl (by kernel_rfl)) rfl ?_
     exact ⟨by first|rfl|(simp [errW_none,errW_some]<;>rfl)|(simp [*,errW_none,errW_some]<;>rfl),by repeat (first|(with_reducible first|exact HB.out|apply bwa|apply pbN|apply bw1|refine bws ?_ GE239.out|refine bws ?_ GE240.out)|exact HB.out)⟩
   replace c21:=Bool.eq_false_iff.mpr c21
   subst c21
   have H1:((spec_l4First.f kj3 l0_0 l0_1 a1 a2 0 (⟨#[]⟩:ByteArray)).bind fun bt244=>(if bt244.1 < 0 then (some ((⟨#[]⟩:ByteArray),0,0,(⟨#[]⟩:ByteArray),0,false)) else (if 0≤bt244.1 then (if bt244.1 < (l0_1.length:Int) then (some ((rd_T77 l0_1 bt244.1).f0.f0,(rd_T77 l0_1 bt244.1).f0.f1,(rd_T77 l0_1 bt244.1).f0.f2,(rd_T77 l0_1 bt244.1).f0.f3,bt244.2,true)) else (none)) else (none))))=some (r1,r2,r3,r4,r5,r6):=by rw [if_neg (show ¬ (false=true) by decide)] at H;exact H
   clear H
   have H:=H1
   clear H1
   replace H:=Option.bind_eq_some_iff.mp H
   obtain ⟨⟨t244,t245⟩,A240,H⟩:=H
   replace H:(if t244 < 0 then (some ((⟨#[]⟩:ByteArray),0,0,(⟨#[]⟩:ByteArray),0,false)) else (if 0≤t244 then (if t244 < (l0_1.length:Int) then (some ((rd_T77 l0_1 t244).f0.f0,(rd_T77 l0_1 t244).f0.f1,(rd_T77 l0_1 t244).f0.f2,(rd_T77 l0_1 t244).f0.f3,t245,true)) else (none)) else (none)))=some (r1,r2,r3,r4,r5,r6):=H
   have A24:=AsZ.mk A240
   clear A240
   by_cases c25:t244 < 0
   · rw [if_pos c25] at H
     have c25b0:decide (t244 < 0)=true:=zE c25
     clear c25
     simp only [Option.some.injEq,Prod.mk.injEq] at H
     obtain ⟨rfl,rfl,rfl,rfl,rfl,rfl⟩:=H
     have hnb26:=NB239_240.out
     have hnc26:=NB240_239.out
     have hcz27_0:wc.cell? ⟨gb239,0,none⟩=some (.slice A0_0 l0_0.length c0_0):=(kc BK239.out 0).trans rfl
     have hcz27_1:wc.cell? ⟨gb239,1,none⟩=some (.slice A0_1 l0_1.length c0_1):=(kc BK239.out 1).trans rfl
     have hfz27_0:=kf BK239.out 0
     have hfz27_1:=kf BK239.out 1
     go_wp2_with (first|((with_reducible refine gcl (f:=46) rfl ?_);refine goesL_ (some 30) rfl rfl Tryd.func46 (by kernel_rfl) rfl #[.agg #[.slice A0_0 l0_0.length c0_0,.slice A0_1 l0_1.length c0_1],.agg #[.string a1,.int .i64 a2,.int .i64 0,.string (⟨#[]⟩:ByteArray)]] rfl (by (try simp only [zA,zC,zN]);first|done|rfl|(simp only [zM,zL];rfl)) ?_;(with_reducible refine (spec_l4First.calls kj3 _ _ l0_0 _ _ l0_1 a1 a2 0 (⟨#[]⟩:ByteArray) t244 t245 _ ?side1 ?side2 ?side3 ?side4 A24.out).mono ?_);(case side1=>repeat (first|exact (Kd.C_below HR0_0.out HB.out)|(with_reducible refine Kd.C_alloc ?_ _)|(with_reducible refine Kd.C_drewN ?_ _)|(with_reducible refine Kd.C_drew ?_)));(case side2=>exact HC0_0.out);(case side3=>repeat (first|exact (Kd.C_below HR0_1.out HB.out)|(with_reducible refine Kd.C_alloc ?_ _)|(with_reducible refine Kd.C_drewN ?_ _)|(with_reducible refine Kd.C_drew ?_)));(case side4=>exact HC0_1.out);rintro e w28 ⟨rfl,hb⟩;refine ⟨_,rfl,?_⟩;have n0_:=AsZ.mk (kb (g:=gb239) (o := .cells #[.slice A0_0 l0_0.length c0_0,.slice A0_1 l0_1.length c0_1] 26 (0,0)) (by (with_reducible repeat (first|refine kdN ?_ _|refine kd ?_|refine ka ?_ _));exact BK239.out) hb);have n1_:=AsZ.mk (kb (g:=gb240) (o := .cells #[.string (⟨#[]⟩:ByteArray),.int .i64 0,.int .i64 0,.string (⟨#[]⟩:ByteArray)] 28 (0,0)) (by (with_reducible repeat (first|refine kdN ?_ _|refine kd ?_|refine ka ?_ _));exact BK240.out) hb);have n2_:=AsZ.mk (bwp (by repeat (first|(with_reducible first|exact HB.out|apply bwa|apply pbN|apply bw1|refine bws ?_ GE239.out|refine bws ?_ GE240.out)|exact HB.out)) hb);clear BK239;clear BK240;clear HB;have BK239:=n0_;have BK240:=n1_;have HB:=n2_;clear n0_ n1_ n2_;(try clear hb);(try clear hb2);(try clear hk);(try clear hi);have hcz29_0:w28.cell? ⟨gb240,0,none⟩=some (.string (⟨#[]⟩:ByteArray)):=(kc BK240.out 0).trans rfl;have hcz29_1:w28.cell? ⟨gb240,1,none⟩=some (.int .i64 0):=(kc BK240.out 1).trans rfl;have hcz29_2:w28.cell? ⟨gb240,2,none⟩=some (.int .i64 0):=(kc BK240.out 2).trans rfl;have hcz29_3:w28.cell? ⟨gb240,3,none⟩=some (.string (⟨#[]⟩:ByteArray)):=(kc BK240.out 3).trans rfl;have hfz29_0:=kf BK240.out 0;have hfz29_1:=kf BK240.out 1;have hfz29_2:=kf BK240.out 2;have hfz29_3:=kf BK240.out 3))
     refine bodyPost_ret (results_ctt rfl _ _ gb240 28 #[.string (⟨#[]⟩:ByteArray),.int .i64 0,.int .i64 0,.string (⟨#[]⟩:ByteArray)] (0,0) _ rfl (by (with_reducible repeat (first|refine kdN ?_ _|refine kd ?_|refine ka ?_ _));refine blk_put (cs:=#[.string (⟨#[]⟩:ByteArray),.int .i64 0,.int .i64 0,.string (⟨#[]⟩:ByteArray)]) ?_ 3 _ rfl;(with_reducible repeat (first|refine kdN ?_ _|refine kd ?_|refine ka ?_ _));refine blk_put (cs:=#[.string (⟨#[]⟩:ByteArray),.int .i64 0,.int .i64 0,.string (⟨#[]⟩:ByteArray)]) ?_ 2 _ rfl;(with_reducible repeat (first|refine kdN ?_ _|refine kd ?_|refine ka ?_ _));refine blk_put (cs:=#[.string (⟨#[]⟩:ByteArray),.int .i64 0,.int .i64 0,.string (⟨#[]⟩:ByteArray)]) ?_ 1 _ rfl;(with_reducible repeat (first|refine kdN ?_ _|refine kd ?_|refine ka ?_ _));refine blk_put (cs:=#[.string (⟨#[]⟩:ByteArray),.int .i64 0,.int .i64 0,.string (⟨#[]⟩:ByteArray)]) ?_ 0 _ rfl;(with_reducible repeat (first|refine kdN ?_ _|refine kd ?_|refine ka ?_ _));exact BK240.out) Tryd.underlying28 rfl (by kernel_rfl)) rfl ?_
     exact ⟨by first|rfl|(simp [errW_none,errW_some]<;>rfl)|(simp [*,errW_none,errW_some]<;>rfl),by repeat (first|(with_reducible first|exact HB.out|apply bwa|apply pbN|apply bw1|refine bws ?_ GE239.out|refine bws ?_ GE240.out)|exact HB.out)⟩
   rw [if_neg c25] at H
   have c25b0:decide (t244 < 0)=false:=decide_eq_false c25
   clear c25
   by_cases c30:0≤t244
   rotate_left
   · rw [if_neg c30] at H
     exact absurd H (by simp)
   rw [if_pos c30] at H
   have c30b0:decide (0≤t244)=true:=zE c30
   clear c30
   by_cases c31:t244 < (l0_1.length:Int)
   rotate_left
   · rw [if_neg c31] at H
     exact absurd H (by simp)
   rw [if_pos c31] at H
   have c31b0:decide (t244 < (l0_1.length:Int))=true:=zE c31
   clear c31
   simp only [Option.some.injEq,Prod.mk.injEq] at H
   obtain ⟨rfl,rfl,rfl,rfl,rfl,rfl⟩:=H
   have hnb32:=NB239_240.out
   have hnc32:=NB240_239.out
   have hcz33_0:wc.cell? ⟨gb239,0,none⟩=some (.slice A0_0 l0_0.length c0_0):=(kc BK239.out 0).trans rfl
   have hcz33_1:wc.cell? ⟨gb239,1,none⟩=some (.slice A0_1 l0_1.length c0_1):=(kc BK239.out 1).trans rfl
   have hfz33_0:=kf BK239.out 0
   have hfz33_1:=kf BK239.out 1
   go_wp2_with (first|((with_reducible refine gcl (f:=46) rfl ?_);refine goesL_ (some 30) rfl rfl Tryd.func46 (by kernel_rfl) rfl #[.agg #[.slice A0_0 l0_0.length c0_0,.slice A0_1 l0_1.length c0_1],.agg #[.string a1,.int .i64 a2,.int .i64 0,.string (⟨#[]⟩:ByteArray)]] rfl (by (try simp only [zA,zC,zN]);first|done|rfl|(simp only [zM,zL];rfl)) ?_;(with_reducible refine (spec_l4First.calls kj3 _ _ l0_0 _ _ l0_1 a1 a2 0 (⟨#[]⟩:ByteArray) t244 t245 _ ?side1 ?side2 ?side3 ?side4 A24.out).mono ?_);(case side1=>repeat (first|exact (Kd.C_below HR0_0.out HB.out)|(with_reducible refine Kd.C_alloc ?_ _)|(with_reducible refine Kd.C_drewN ?_ _)|(with_reducible refine Kd.C_drew ?_)));(case side2=>exact HC0_0.out);(case side3=>repeat (first|exact (Kd.C_below HR0_1.out HB.out)|(with_reducible refine Kd.C_alloc ?_ _)|(with_reducible refine Kd.C_drewN ?_ _)|(with_reducible refine Kd.C_drew ?_)));(case side4=>exact HC0_1.out);rintro e w34 ⟨rfl,hb⟩;refine ⟨_,rfl,?_⟩;have n0_:=AsZ.mk (kb (g:=gb239) (o := .cells #[.slice A0_0 l0_0.length c0_0,.slice A0_1 l0_1.length c0_1] 26 (0,0)) (by (with_reducible repeat (first|refine kdN ?_ _|refine kd ?_|refine ka ?_ _));exact BK239.out) hb);have n1_:=AsZ.mk (kb (g:=gb240) (o := .cells #[.string (⟨#[]⟩:ByteArray),.int .i64 0,.int .i64 0,.string (⟨#[]⟩:ByteArray)] 28 (0,0)) (by (with_reducible repeat (first|refine kdN ?_ _|refine kd ?_|refine ka ?_ _));exact BK240.out) hb);have n2_:=AsZ.mk (bwp (by repeat (first|(with_reducible first|exact HB.out|apply bwa|apply pbN|apply bw1|refine bws ?_ GE239.out|refine bws ?_ GE240.out)|exact HB.out)) hb);clear BK239;clear BK240;clear HB;have BK239:=n0_;have BK240:=n1_;have HB:=n2_;clear n0_ n1_ n2_;(try clear hb);(try clear hb2);(try clear hk);(try clear hi);have hcz35_0:w34.cell? ⟨gb239,0,none⟩=some (.slice A0_0 l0_0.length c0_0):=(kc BK239.out 0).trans rfl;have hcz35_1:w34.cell? ⟨gb239,1,none⟩=some (.slice A0_1 l0_1.length c0_1):=(kc BK239.out 1).trans rfl;have hfz35_0:=kf BK239.out 0;have hfz35_1:=kf BK239.out 1;have p246:0≤(t244:Int):=zD (by first|(with_reducible assumption)|assumption);have q246:t244 < (l0_1.length:Int):=zD (by first|(with_reducible assumption)|assumption);obtain ⟨ad246,A246_4,c246_4,e246,hx246_0,hx246_1,hx246_2,hx246_3,hx246_4,hl246_4,hi246_4⟩:=at_T77 HR0_1.out t244 p246 q246;cases e246;replace hx246_0:=(HB.out.cell (zB w _ hx246_0)).trans hx246_0;replace hx246_1:=(HB.out.cell (zB w _ hx246_1)).trans hx246_1;replace hx246_2:=(HB.out.cell (zB w _ hx246_2)).trans hx246_2;replace hx246_3:=(HB.out.cell (zB w _ hx246_3)).trans hx246_3;replace hx246_4:=(HB.out.cell (zB w _ hx246_4)).trans hx246_4;have HR246_4:=AsZ.mk hi246_4;have HC246_4:=AsZ.mk hl246_4;clear hi246_4 hl246_4;replace p246:=eq_true p246;replace q246:=eq_true q246;have hcz36_0:w34.cell? ⟨gb240,0,none⟩=some (.string (⟨#[]⟩:ByteArray)):=(kc BK240.out 0).trans rfl;have hcz36_1:w34.cell? ⟨gb240,1,none⟩=some (.int .i64 0):=(kc BK240.out 1).trans rfl;have hcz36_2:w34.cell? ⟨gb240,2,none⟩=some (.int .i64 0):=(kc BK240.out 2).trans rfl;have hcz36_3:w34.cell? ⟨gb240,3,none⟩=some (.string (⟨#[]⟩:ByteArray)):=(kc BK240.out 3).trans rfl;have hfz36_0:=kf BK240.out 0;have hfz36_1:=kf BK240.out 1;have hfz36_2:=kf BK240.out 2;have hfz36_3:=kf BK240.out 3))
   refine bodyPost_ret (results_ctt rfl _ _ gb240 28 #[.string ((rd_T77 l0_1 t244).f0.f0),.int .i64 ((rd_T77 l0_1 t244).f0.f1),.int .i64 ((rd_T77 l0_1 t244).f0.f2),.string ((rd_T77 l0_1 t244).f0.f3)] (0,0) _ rfl (by (with_reducible repeat (first|refine kdN ?_ _|refine kd ?_|refine ka ?_ _));refine blk_put (cs:=#[.string ((rd_T77 l0_1 t244).f0.f0),.int .i64 ((rd_T77 l0_1 t244).f0.f1),.int .i64 ((rd_T77 l0_1 t244).f0.f2),.string (⟨#[]⟩:ByteArray)]) ?_ 3 _ rfl;(with_reducible repeat (first|refine kdN ?_ _|refine kd ?_|refine ka ?_ _));refine blk_put (cs:=#[.string ((rd_T77 l0_1 t244).f0.f0),.int .i64 ((rd_T77 l0_1 t244).f0.f1),.int .i64 0,.string (⟨#[]⟩:ByteArray)]) ?_ 2 _ rfl;(with_reducible repeat (first|refine kdN ?_ _|refine kd ?_|refine ka ?_ _));refine blk_put (cs:=#[.string ((rd_T77 l0_1 t244).f0.f0),.int .i64 0,.int .i64 0,.string (⟨#[]⟩:ByteArray)]) ?_ 1 _ rfl;(with_reducible repeat (first|refine kdN ?_ _|refine kd ?_|refine ka ?_ _));refine blk_put (cs:=#[.string (⟨#[]⟩:ByteArray),.int .i64 0,.int .i64 0,.string (⟨#[]⟩:ByteArray)]) ?_ 0 _ rfl;(with_reducible repeat (first|refine kdN ?_ _|refine kd ?_|refine ka ?_ _));exact BK240.out) Tryd.underlying28 rfl (by kernel_rfl)) rfl ?_
   exact ⟨by first|rfl|(simp [errW_none,errW_some]<;>rfl)|(simp [*,errW_none,errW_some]<;>rfl),by repeat (first|(with_reducible first|exact HB.out|apply bwa|apply pbN|apply bw1|refine bws ?_ GE239.out|refine bws ?_ GE240.out)|exact HB.out)⟩
/-! ### impl_in: function 50 -/
def impl_in.f (a0:Int) (a1:Int) (a2:Int):Option (Bool):=if a0 ≥ a1 then (some (decide (a0≤a2))) else (some false)
set_option maxHeartbeats 8000000 in
set_option maxRecDepth 100000 in
theorem impl_in.calls (a0:Int) (a1:Int) (a2:Int) (r:Bool) (w:World) (h:impl_in.f a0 a1 a2=some r) :
    Calls Tryd.prog 50 #[.int .i64 a0,.int .i64 a1,.int .i64 a2] w fun e w'=>e = .returned (.bool r)∧Drawn0 w w':=by
 have H:(if a0 ≥ a1 then (some (decide (a0≤a2))) else (some false))=some r:=h
 clear h
 by_cases c4:a0 ≥ a1
 · rw [if_pos c4] at H
   have c4b0:decide (a1≤a0)=true:=zE c4
   clear c4
   obtain rfl:=zI H
   go_enter Tryd.func50,Tryd.ntmps50
   go_wp2
   go_ret
   exact ⟨by first|rfl|(simp;done)|(simp [*];done),by repeat (first|exact Drawn0.refl _|apply Drawn0.step)⟩
 rw [if_neg c4] at H
 have c4b0:decide (a1≤a0)=false:=decide_eq_false c4
 clear c4
 obtain rfl:=zI H
 go_enter Tryd.func50,Tryd.ntmps50
 go_wp2
 go_ret
 exact ⟨by first|rfl|(simp;done)|(simp [*];done),by repeat (first|exact Drawn0.refl _|apply Drawn0.step)⟩
/-! ### impl_isKey: function 70 -/
def impl_isKey.f (a0:ByteArray):Option (Bool):=(impl_in.f (a0.size:Int) 1 16).bind fun t247=>(some t247)
set_option maxHeartbeats 8000000 in
set_option maxRecDepth 100000 in
theorem impl_isKey.calls (a0:ByteArray) (r:Bool) (w:World) (h:impl_isKey.f a0=some r) :
    Calls Tryd.prog 70 #[.string a0] w fun e w'=>e = .returned (.bool r)∧Drawn0 w w':=by
 have H:((impl_in.f (a0.size:Int) 1 16).bind fun t247=>(some t247))=some r:=h
 clear h
 replace H:=Option.bind_eq_some_iff.mp H
 obtain ⟨t247,A20,H⟩:=H
 replace H:(some t247)=some r:=H
 have A2:=AsZ.mk A20
 clear A20
 obtain rfl:=zI H
 go_enter Tryd.func70,Tryd.ntmps70
 go_wp2_with (first|((with_reducible refine gcl (f:=50) rfl ?_);refine goesL_ (some 5) rfl rfl Tryd.func50 (by kernel_rfl) rfl #[.int .i64 (a0.size:Int),.int .i64 1,.int .i64 16] rfl (by (try simp only [zA,zC,zN]);first|done|rfl|(simp only [zM,zL];rfl)) ?_;(with_reducible refine (impl_in.calls (a0.size:Int) 1 16 t247 _ A2.out).mono ?_);rintro e w' ⟨rfl,⟨nd,rfl⟩⟩;refine ⟨_,rfl,?_⟩))
 go_ret
 exact ⟨by first|rfl|(simp;done)|(simp [*];done),by repeat (first|exact Drawn0.refl _|apply Drawn0.step)⟩
/-! ### impl_isSeq: function 71 -/
def impl_isSeq.f (a0:Int):Option (Bool):=(impl_in.f a0 0 1000000000).bind fun t248=>(some t248)
set_option maxHeartbeats 8000000 in
set_option maxRecDepth 100000 in
theorem impl_isSeq.calls (a0:Int) (r:Bool) (w:World) (h:impl_isSeq.f a0=some r) :
    Calls Tryd.prog 71 #[.int .i64 a0] w fun e w'=>e = .returned (.bool r)∧Drawn0 w w':=by
 have H:((impl_in.f a0 0 1000000000).bind fun t248=>(some t248))=some r:=h
 clear h
 replace H:=Option.bind_eq_some_iff.mp H
 obtain ⟨t248,A20,H⟩:=H
 replace H:(some t248)=some r:=H
 have A2:=AsZ.mk A20
 clear A20
 obtain rfl:=zI H
 go_enter Tryd.func71,Tryd.ntmps71
 go_wp2_with (first|((with_reducible refine gcl (f:=50) rfl ?_);refine goesL_ (some 4) rfl rfl Tryd.func50 (by kernel_rfl) rfl #[.int .i64 a0,.int .i64 0,.int .i64 1000000000] rfl (by (try simp only [zA,zC,zN]);first|done|rfl|(simp only [zM,zL];rfl)) ?_;(with_reducible refine (impl_in.calls a0 0 1000000000 t248 _ A2.out).mono ?_);rintro e w' ⟨rfl,⟨nd,rfl⟩⟩;refine ⟨_,rfl,?_⟩))
 go_ret
 exact ⟨by first|rfl|(simp;done)|(simp [*];done),by repeat (first|exact Drawn0.refl _|apply Drawn0.step)⟩
/-! ### impl_isValue: function 80 -/
def impl_isValue.f (a0:ByteArray):Option (Bool):=some (decide ((a0.size:Int)≤40))
set_option maxHeartbeats 8000000 in
set_option maxRecDepth 100000 in
theorem impl_isValue.calls (a0:ByteArray) (r:Bool) (w:World) (h:impl_isValue.f a0=some r) :
    Calls Tryd.prog 80 #[.string a0] w fun e w'=>e = .returned (.bool r)∧Drawn0 w w':=by
 have H:(some (decide ((a0.size:Int)≤40)))=some r:=h
 clear h
 obtain rfl:=zI H
 go_enter Tryd.func80,Tryd.ntmps80
 go_wp2
 go_ret
 exact ⟨by first|rfl|(simp;done)|(simp [*];done),by repeat (first|exact Drawn0.refl _|apply Drawn0.step)⟩
/-! ### impl_GoodItem: function 39 -/
def impl_GoodItem.f (a0_0:ByteArray) (a0_1:Int) (a0_2:Int) (a0_3:ByteArray):Option (Bool):=(impl_isKey.f a0_0).bind fun t250=>(if t250=true then ((impl_isSeq.f a0_1).bind fun t251=>(if t251=true then ((impl_in.f a0_2 0 1).bind fun t252=>(if t252=true then ((impl_isValue.f a0_3).bind fun t253=>(if t253=true then (if a0_2=1 then (some true) else (some (a0_3.toList == ([]:List UInt8)))) else (some false))) else (some false))) else (some false))) else (some false))
set_option maxHeartbeats 8000000 in
set_option maxRecDepth 100000 in
theorem impl_GoodItem.calls (a0_0:ByteArray) (a0_1:Int) (a0_2:Int) (a0_3:ByteArray) (r:Bool) (w:World) (h:impl_GoodItem.f a0_0 a0_1 a0_2 a0_3=some r) :
    Calls Tryd.prog 39 #[.agg #[.string a0_0,.int .i64 a0_1,.int .i64 a0_2,.string a0_3]] w fun e w'=>e = .returned (.bool r)∧Below w.heap.size w w':=by
 have hu28:=Tryd.underlying28
 have HB:=AsZ.mk (Below.refl w.heap.size w)
 have H:((impl_isKey.f a0_0).bind fun t250=>(if t250=true then ((impl_isSeq.f a0_1).bind fun t251=>(if t251=true then ((impl_in.f a0_2 0 1).bind fun t252=>(if t252=true then ((impl_isValue.f a0_3).bind fun t253=>(if t253=true then (if a0_2=1 then (some true) else (some (a0_3.toList == ([]:List UInt8)))) else (some false))) else (some false))) else (some false))) else (some false)))=some r:=h
 clear h
 replace H:=Option.bind_eq_some_iff.mp H
 obtain ⟨t250,A20,H⟩:=H
 replace H:(if t250=true then ((impl_isSeq.f a0_1).bind fun t251=>(if t251=true then ((impl_in.f a0_2 0 1).bind fun t252=>(if t252=true then ((impl_isValue.f a0_3).bind fun t253=>(if t253=true then (if a0_2=1 then (some true) else (some (a0_3.toList == ([]:List UInt8)))) else (some false))) else (some false))) else (some false))) else (some false))=some r:=H
 have A2:=AsZ.mk A20
 clear A20
 by_cases c3:t250=true
 rotate_left
 · replace c3:=Bool.eq_false_iff.mpr c3
   subst c3
   have H1:(some false)=some r:=by rw [if_neg (show ¬ (false=true) by decide)] at H;exact H
   clear H
   have H:=H1
   clear H1
   obtain rfl:=zI H
   go_enter Tryd.func39,Tryd.ntmps39
   go_wp2_with (first|((with_reducible refine gate_dst (N:=1) rfl ?_);refine box_event ?hg (N:=1) ?hd (cs:=#[.string a0_0,.int .i64 a0_1,.int .i64 a0_2,.string a0_3]) (t:=28) ?hr ?_;(case hd=>rfl);(case hg=>rfl);(case hr=>first|(go_simp;done)|(go_simp;rfl));intro gb249 hg w21 hbox hb;have n0_:=AsZ.mk (bwp (by repeat (first|(with_reducible first|exact HB.out|apply bwa|apply pbN|apply bw1)|exact HB.out)) hb);have n1_:=AsZ.mk (hbox);have n2_:=AsZ.mk ((by rw [hg];exact (bwz (by repeat (first|(with_reducible first|exact HB.out|apply bwa|apply pbN|apply bw1)|exact HB.out))):w.heap.size≤gb249));have n3_:=AsZ.mk ((by rw [hg];exact (bwz (by repeat (first|(with_reducible first|exact HB.out|apply bwa|apply pbN|apply bw1)|exact HB.out))):w.heap.size≤gb249));clear HB;have HB:=n0_;have BK249:=n1_;have GW249:=n2_;have GE249:=n3_;clear n0_ n1_ n2_ n3_;clear hb hbox hg;have hcz22_0:w21.cell? ⟨gb249,0,none⟩=some (.string a0_0):=(kc BK249.out 0).trans rfl;have hcz22_1:w21.cell? ⟨gb249,1,none⟩=some (.int .i64 a0_1):=(kc BK249.out 1).trans rfl;have hcz22_2:w21.cell? ⟨gb249,2,none⟩=some (.int .i64 a0_2):=(kc BK249.out 2).trans rfl;have hcz22_3:w21.cell? ⟨gb249,3,none⟩=some (.string a0_3):=(kc BK249.out 3).trans rfl;have hfz22_0:=kf BK249.out 0;have hfz22_1:=kf BK249.out 1;have hfz22_2:=kf BK249.out 2;have hfz22_3:=kf BK249.out 3)|((with_reducible refine gcl (f:=70) rfl ?_);refine goesL_ (some 5) rfl rfl Tryd.func70 (by kernel_rfl) rfl #[.string a0_0] rfl (by (try simp only [zA,zC,zN]);first|done|rfl|(simp only [zM,zL];rfl)) ?_;(with_reducible refine (impl_isKey.calls a0_0 false _ A2.out).mono ?_);rintro e w' ⟨rfl,⟨nd,rfl⟩⟩;refine ⟨_,rfl,?_⟩))
   go_ret
   exact ⟨by first|rfl|(simp [errW_none,errW_some]<;>rfl)|(simp [*,errW_none,errW_some]<;>rfl),by repeat (first|(with_reducible first|exact HB.out|apply bwa|apply pbN|apply bw1|refine bws ?_ GE249.out)|exact HB.out)⟩
 subst c3
 have H1:((impl_isSeq.f a0_1).bind fun t251=>(if t251=true then ((impl_in.f a0_2 0 1).bind fun t252=>(if t252=true then ((impl_isValue.f a0_3).bind fun t253=>(if t253=true then (if a0_2=1 then (some true) else (some (a0_3.toList == ([]:List UInt8)))) else (some false))) else (some false))) else (some false)))=some r:=by rw [if_pos rfl] at H;exact H
 clear H
 have H:=H1
 clear H1
 replace H:=Option.bind_eq_some_iff.mp H
 obtain ⟨t251,A40,H⟩:=H
 replace H:(if t251=true then ((impl_in.f a0_2 0 1).bind fun t252=>(if t252=true then ((impl_isValue.f a0_3).bind fun t253=>(if t253=true then (if a0_2=1 then (some true) else (some (a0_3.toList == ([]:List UInt8)))) else (some false))) else (some false))) else (some false))=some r:=H
 have A4:=AsZ.mk A40
 clear A40
 by_cases c5:t251=true
 rotate_left
 · replace c5:=Bool.eq_false_iff.mpr c5
   subst c5
   have H1:(some false)=some r:=by rw [if_neg (show ¬ (false=true) by decide)] at H;exact H
   clear H
   have H:=H1
   clear H1
   obtain rfl:=zI H
   go_enter Tryd.func39,Tryd.ntmps39
   go_wp2_with (first|((with_reducible refine gate_dst (N:=1) rfl ?_);refine box_event ?hg (N:=1) ?hd (cs:=#[.string a0_0,.int .i64 a0_1,.int .i64 a0_2,.string a0_3]) (t:=28) ?hr ?_;(case hd=>rfl);(case hg=>rfl);(case hr=>first|(go_simp;done)|(go_simp;rfl));intro gb249 hg w19 hbox hb;have n0_:=AsZ.mk (bwp (by repeat (first|(with_reducible first|exact HB.out|apply bwa|apply pbN|apply bw1)|exact HB.out)) hb);have n1_:=AsZ.mk (hbox);have n2_:=AsZ.mk ((by rw [hg];exact (bwz (by repeat (first|(with_reducible first|exact HB.out|apply bwa|apply pbN|apply bw1)|exact HB.out))):w.heap.size≤gb249));have n3_:=AsZ.mk ((by rw [hg];exact (bwz (by repeat (first|(with_reducible first|exact HB.out|apply bwa|apply pbN|apply bw1)|exact HB.out))):w.heap.size≤gb249));clear HB;have HB:=n0_;have BK249:=n1_;have GW249:=n2_;have GE249:=n3_;clear n0_ n1_ n2_ n3_;clear hb hbox hg;have hcz20_0:w19.cell? ⟨gb249,0,none⟩=some (.string a0_0):=(kc BK249.out 0).trans rfl;have hcz20_1:w19.cell? ⟨gb249,1,none⟩=some (.int .i64 a0_1):=(kc BK249.out 1).trans rfl;have hcz20_2:w19.cell? ⟨gb249,2,none⟩=some (.int .i64 a0_2):=(kc BK249.out 2).trans rfl;have hcz20_3:w19.cell? ⟨gb249,3,none⟩=some (.string a0_3):=(kc BK249.out 3).trans rfl;have hfz20_0:=kf BK249.out 0;have hfz20_1:=kf BK249.out 1;have hfz20_2:=kf BK249.out 2;have hfz20_3:=kf BK249.out 3)|((with_reducible refine gcl (f:=70) rfl ?_);refine goesL_ (some 5) rfl rfl Tryd.func70 (by kernel_rfl) rfl #[.string a0_0] rfl (by (try simp only [zA,zC,zN]);first|done|rfl|(simp only [zM,zL];rfl)) ?_;(with_reducible refine (impl_isKey.calls a0_0 true _ A2.out).mono ?_);rintro e w' ⟨rfl,⟨nd,rfl⟩⟩;refine ⟨_,rfl,?_⟩)|(go_at_call 71;(with_reducible refine (impl_isSeq.calls a0_1 false _ A4.out).mono ?_);rintro e w' ⟨rfl,⟨nd,rfl⟩⟩))
   go_ret
   exact ⟨by first|rfl|(simp [errW_none,errW_some]<;>rfl)|(simp [*,errW_none,errW_some]<;>rfl),by repeat (first|(with_reducible first|exact HB.out|apply bwa|apply pbN|apply bw1|refine bws ?_ GE249.out)|exact HB.out)⟩
 subst c5
 have H1:((impl_in.f a0_2 0 1).bind fun t252=>(if t252=true then ((impl_isValue.f a0_3).bind fun t253=>(if t253=true then (if a0_2=1 then (some true) else (some (a0_3.toList == ([]:List UInt8)))) else (some false))) else (some false)))=some r:=by rw [if_pos rfl] at H;exact H
 clear H
 have H:=H1
 clear H1
 replace H:=Option.bind_eq_some_iff.mp H
 obtain ⟨t252,A60,H⟩:=H
 replace H:(if t252=true then ((impl_isValue.f a0_3).bind fun t253=>(if t253=true then (if a0_2=1 then (some true) else (some (a0_3.toList == ([]:List UInt8)))) else (some false))) else (some false))=some r:=H
 have A6:=AsZ.mk A60
 clear A60
 by_cases c7:t252=true
 rotate_left
 · replace c7:=Bool.eq_false_iff.mpr c7
   subst c7
   have H1:(some false)=some r:=by rw [if_neg (show ¬ (false=true) by decide)] at H;exact H
   clear H
   have H:=H1
   clear H1
   obtain rfl:=zI H
   go_enter Tryd.func39,Tryd.ntmps39
   go_wp2_with (first|((with_reducible refine gate_dst (N:=1) rfl ?_);refine box_event ?hg (N:=1) ?hd (cs:=#[.string a0_0,.int .i64 a0_1,.int .i64 a0_2,.string a0_3]) (t:=28) ?hr ?_;(case hd=>rfl);(case hg=>rfl);(case hr=>first|(go_simp;done)|(go_simp;rfl));intro gb249 hg w17 hbox hb;have n0_:=AsZ.mk (bwp (by repeat (first|(with_reducible first|exact HB.out|apply bwa|apply pbN|apply bw1)|exact HB.out)) hb);have n1_:=AsZ.mk (hbox);have n2_:=AsZ.mk ((by rw [hg];exact (bwz (by repeat (first|(with_reducible first|exact HB.out|apply bwa|apply pbN|apply bw1)|exact HB.out))):w.heap.size≤gb249));have n3_:=AsZ.mk ((by rw [hg];exact (bwz (by repeat (first|(with_reducible first|exact HB.out|apply bwa|apply pbN|apply bw1)|exact HB.out))):w.heap.size≤gb249));clear HB;have HB:=n0_;have BK249:=n1_;have GW249:=n2_;have GE249:=n3_;clear n0_ n1_ n2_ n3_;clear hb hbox hg;have hcz18_0:w17.cell? ⟨gb249,0,none⟩=some (.string a0_0):=(kc BK249.out 0).trans rfl;have hcz18_1:w17.cell? ⟨gb249,1,none⟩=some (.int .i64 a0_1):=(kc BK249.out 1).trans rfl;have hcz18_2:w17.cell? ⟨gb249,2,none⟩=some (.int .i64 a0_2):=(kc BK249.out 2).trans rfl;have hcz18_3:w17.cell? ⟨gb249,3,none⟩=some (.string a0_3):=(kc BK249.out 3).trans rfl;have hfz18_0:=kf BK249.out 0;have hfz18_1:=kf BK249.out 1;have hfz18_2:=kf BK249.out 2;have hfz18_3:=kf BK249.out 3)|((with_reducible refine gcl (f:=70) rfl ?_);refine goesL_ (some 5) rfl rfl Tryd.func70 (by kernel_rfl) rfl #[.string a0_0] rfl (by (try simp only [zA,zC,zN]);first|done|rfl|(simp only [zM,zL];rfl)) ?_;(with_reducible refine (impl_isKey.calls a0_0 true _ A2.out).mono ?_);rintro e w' ⟨rfl,⟨nd,rfl⟩⟩;refine ⟨_,rfl,?_⟩)|(go_at_call 71;(with_reducible refine (impl_isSeq.calls a0_1 true _ A4.out).mono ?_);rintro e w' ⟨rfl,⟨nd,rfl⟩⟩)|(go_at_call 50;(with_reducible refine (impl_in.calls a0_2 0 1 false _ A6.out).mono ?_);rintro e w' ⟨rfl,⟨nd,rfl⟩⟩))
   go_ret
   exact ⟨by first|rfl|(simp [errW_none,errW_some]<;>rfl)|(simp [*,errW_none,errW_some]<;>rfl),by repeat (first|(with_reducible first|exact HB.out|apply bwa|apply pbN|apply bw1|refine bws ?_ GE249.out)|exact HB.out)⟩
 subst c7
 have H1:((impl_isValue.f a0_3).bind fun t253=>(if t253=true then (if a0_2=1 then (some true) else (some (a0_3.toList == ([]:List UInt8)))) else (some false)))=some r:=by rw [if_pos rfl] at H;exact H
 clear H
 have H:=H1
 clear H1
 replace H:=Option.bind_eq_some_iff.mp H
 obtain ⟨t253,A80,H⟩:=H
 replace H:(if t253=true then (if a0_2=1 then (some true) else (some (a0_3.toList == ([]:List UInt8)))) else (some false))=some r:=H
 have A8:=AsZ.mk A80
 clear A80
 by_cases c9:t253=true
 rotate_left
 · replace c9:=Bool.eq_false_iff.mpr c9
   subst c9
   have H1:(some false)=some r:=by rw [if_neg (show ¬ (false=true) by decide)] at H;exact H
   clear H
   have H:=H1
   clear H1
   obtain rfl:=zI H
   go_enter Tryd.func39,Tryd.ntmps39
   go_wp2_with (first|((with_reducible refine gate_dst (N:=1) rfl ?_);refine box_event ?hg (N:=1) ?hd (cs:=#[.string a0_0,.int .i64 a0_1,.int .i64 a0_2,.string a0_3]) (t:=28) ?hr ?_;(case hd=>rfl);(case hg=>rfl);(case hr=>first|(go_simp;done)|(go_simp;rfl));intro gb249 hg w15 hbox hb;have n0_:=AsZ.mk (bwp (by repeat (first|(with_reducible first|exact HB.out|apply bwa|apply pbN|apply bw1)|exact HB.out)) hb);have n1_:=AsZ.mk (hbox);have n2_:=AsZ.mk ((by rw [hg];exact (bwz (by repeat (first|(with_reducible first|exact HB.out|apply bwa|apply pbN|apply bw1)|exact HB.out))):w.heap.size≤gb249));have n3_:=AsZ.mk ((by rw [hg];exact (bwz (by repeat (first|(with_reducible first|exact HB.out|apply bwa|apply pbN|apply bw1)|exact HB.out))):w.heap.size≤gb249));clear HB;have HB:=n0_;have BK249:=n1_;have GW249:=n2_;have GE249:=n3_;clear n0_ n1_ n2_ n3_;clear hb hbox hg;have hcz16_0:w15.cell? ⟨gb249,0,none⟩=some (.string a0_0):=(kc BK249.out 0).trans rfl;have hcz16_1:w15.cell? ⟨gb249,1,none⟩=some (.int .i64 a0_1):=(kc BK249.out 1).trans rfl;have hcz16_2:w15.cell? ⟨gb249,2,none⟩=some (.int .i64 a0_2):=(kc BK249.out 2).trans rfl;have hcz16_3:w15.cell? ⟨gb249,3,none⟩=some (.string a0_3):=(kc BK249.out 3).trans rfl;have hfz16_0:=kf BK249.out 0;have hfz16_1:=kf BK249.out 1;have hfz16_2:=kf BK249.out 2;have hfz16_3:=kf BK249.out 3)|((with_reducible refine gcl (f:=70) rfl ?_);refine goesL_ (some 5) rfl rfl Tryd.func70 (by kernel_rfl) rfl #[.string a0_0] rfl (by (try simp only [zA,zC,zN]);first|done|rfl|(simp only [zM,zL];rfl)) ?_;(with_reducible refine (impl_isKey.calls a0_0 true _ A2.out).mono ?_);rintro e w' ⟨rfl,⟨nd,rfl⟩⟩;refine ⟨_,rfl,?_⟩)|(go_at_call 71;(with_reducible refine (impl_isSeq.calls a0_1 true _ A4.out).mono ?_);rintro e w' ⟨rfl,⟨nd,rfl⟩⟩)|(go_at_call 50;(with_reducible refine (impl_in.calls a0_2 0 1 true _ A6.out).mono ?_);rintro e w' ⟨rfl,⟨nd,rfl⟩⟩)|(go_at_call 80;(with_reducible refine (impl_isValue.calls a0_3 false _ A8.out).mono ?_);rintro e w' ⟨rfl,⟨nd,rfl⟩⟩))
   go_ret
   exact ⟨by first|rfl|(simp [errW_none,errW_some]<;>rfl)|(simp [*,errW_none,errW_some]<;>rfl),by repeat (first|(with_reducible first|exact HB.out|apply bwa|apply pbN|apply bw1|refine bws ?_ GE249.out)|exact HB.out)⟩
 subst c9
 have H1:(if a0_2=1 then (some true) else (some (a0_3.toList == ([]:List UInt8))))=some r:=by rw [if_pos rfl] at H;exact H
 clear H
 have H:=H1
 clear H1
 by_cases c10:a0_2=1
 rotate_left
 · rw [if_neg c10] at H
   have c10b0:(a0_2 == 1)=false:=beq_eq_false_iff_ne.mpr c10
   have c10b1:(a0_2 != 1)=true:=bne_iff_ne.mpr c10
   obtain rfl:=zI H
   go_enter Tryd.func39,Tryd.ntmps39
   go_wp2_with (first|((with_reducible refine gate_dst (N:=1) rfl ?_);refine box_event ?hg (N:=1) ?hd (cs:=#[.string a0_0,.int .i64 a0_1,.int .i64 a0_2,.string a0_3]) (t:=28) ?hr ?_;(case hd=>rfl);(case hg=>rfl);(case hr=>first|(go_simp;done)|(go_simp;rfl));intro gb249 hg w13 hbox hb;have n0_:=AsZ.mk (bwp (by repeat (first|(with_reducible first|exact HB.out|apply bwa|apply pbN|apply bw1)|exact HB.out)) hb);have n1_:=AsZ.mk (hbox);have n2_:=AsZ.mk ((by rw [hg];exact (bwz (by repeat (first|(with_reducible first|exact HB.out|apply bwa|apply pbN|apply bw1)|exact HB.out))):w.heap.size≤gb249));have n3_:=AsZ.mk ((by rw [hg];exact (bwz (by repeat (first|(with_reducible first|exact HB.out|apply bwa|apply pbN|apply bw1)|exact HB.out))):w.heap.size≤gb249));clear HB;have HB:=n0_;have BK249:=n1_;have GW249:=n2_;have GE249:=n3_;clear n0_ n1_ n2_ n3_;clear hb hbox hg;have hcz14_0:w13.cell? ⟨gb249,0,none⟩=some (.string a0_0):=(kc BK249.out 0).trans rfl;have hcz14_1:w13.cell? ⟨gb249,1,none⟩=some (.int .i64 a0_1):=(kc BK249.out 1).trans rfl;have hcz14_2:w13.cell? ⟨gb249,2,none⟩=some (.int .i64 a0_2):=(kc BK249.out 2).trans rfl;have hcz14_3:w13.cell? ⟨gb249,3,none⟩=some (.string a0_3):=(kc BK249.out 3).trans rfl;have hfz14_0:=kf BK249.out 0;have hfz14_1:=kf BK249.out 1;have hfz14_2:=kf BK249.out 2;have hfz14_3:=kf BK249.out 3)|((with_reducible refine gcl (f:=70) rfl ?_);refine goesL_ (some 5) rfl rfl Tryd.func70 (by kernel_rfl) rfl #[.string a0_0] rfl (by (try simp only [zA,zC,zN]);first|done|rfl|(simp only [zM,zL];rfl)) ?_;(with_reducible refine (impl_isKey.calls a0_0 true _ A2.out).mono ?_);rintro e w' ⟨rfl,⟨nd,rfl⟩⟩;refine ⟨_,rfl,?_⟩)|(go_at_call 71;(with_reducible refine (impl_isSeq.calls a0_1 true _ A4.out).mono ?_);rintro e w' ⟨rfl,⟨nd,rfl⟩⟩)|(go_at_call 50;(with_reducible refine (impl_in.calls a0_2 0 1 true _ A6.out).mono ?_);rintro e w' ⟨rfl,⟨nd,rfl⟩⟩)|(go_at_call 80;(with_reducible refine (impl_isValue.calls a0_3 true _ A8.out).mono ?_);rintro e w' ⟨rfl,⟨nd,rfl⟩⟩))
   go_ret
   exact ⟨by first|rfl|(simp [errW_none,errW_some]<;>rfl)|(simp [*,errW_none,errW_some]<;>rfl),by repeat (first|(with_reducible first|exact HB.out|apply bwa|apply pbN|apply bw1|refine bws ?_ GE249.out)|exact HB.out)⟩
 rw [if_pos c10] at H
 have c10b0:(a0_2 == 1)=true:=beq_iff_eq.mpr c10
 have c10b1:(a0_2 != 1)=false:=bne_eq_false_iff_eq.mpr c10
 clear c10
 obtain rfl:=zI H
 go_enter Tryd.func39,Tryd.ntmps39
 go_wp2_with (first|((with_reducible refine gate_dst (N:=1) rfl ?_);refine box_event ?hg (N:=1) ?hd (cs:=#[.string a0_0,.int .i64 a0_1,.int .i64 a0_2,.string a0_3]) (t:=28) ?hr ?_;(case hd=>rfl);(case hg=>rfl);(case hr=>first|(go_simp;done)|(go_simp;rfl));intro gb249 hg w11 hbox hb;have n0_:=AsZ.mk (bwp (by repeat (first|(with_reducible first|exact HB.out|apply bwa|apply pbN|apply bw1)|exact HB.out)) hb);have n1_:=AsZ.mk (hbox);have n2_:=AsZ.mk ((by rw [hg];exact (bwz (by repeat (first|(with_reducible first|exact HB.out|apply bwa|apply pbN|apply bw1)|exact HB.out))):w.heap.size≤gb249));have n3_:=AsZ.mk ((by rw [hg];exact (bwz (by repeat (first|(with_reducible first|exact HB.out|apply bwa|apply pbN|apply bw1)|exact HB.out))):w.heap.size≤gb249));clear HB;have HB:=n0_;have BK249:=n1_;have GW249:=n2_;have GE249:=n3_;clear n0_ n1_ n2_ n3_;clear hb hbox hg;have hcz12_0:w11.cell? ⟨gb249,0,none⟩=some (.string a0_0):=(kc BK249.out 0).trans rfl;have hcz12_1:w11.cell? ⟨gb249,1,none⟩=some (.int .i64 a0_1):=(kc BK249.out 1).trans rfl;have hcz12_2:w11.cell? ⟨gb249,2,none⟩=some (.int .i64 a0_2):=(kc BK249.out 2).trans rfl;have hcz12_3:w11.cell? ⟨gb249,3,none⟩=some (.string a0_3):=(kc BK249.out 3).trans rfl;have hfz12_0:=kf BK249.out 0;have hfz12_1:=kf BK249.out 1;have hfz12_2:=kf BK249.out 2;have hfz12_3:=kf BK249.out 3)|((with_reducible refine gcl (f:=70) rfl ?_);refine goesL_ (some 5) rfl rfl Tryd.func70 (by kernel_rfl) rfl #[.string a0_0] rfl (by (try simp only [zA,zC,zN]);first|done|rfl|(simp only [zM,zL];rfl)) ?_;(with_reducible refine (impl_isKey.calls a0_0 true _ A2.out).mono ?_);rintro e w' ⟨rfl,⟨nd,rfl⟩⟩;refine ⟨_,rfl,?_⟩)|(go_at_call 71;(with_reducible refine (impl_isSeq.calls a0_1 true _ A4.out).mono ?_);rintro e w' ⟨rfl,⟨nd,rfl⟩⟩)|(go_at_call 50;(with_reducible refine (impl_in.calls a0_2 0 1 true _ A6.out).mono ?_);rintro e w' ⟨rfl,⟨nd,rfl⟩⟩)|(go_at_call 80;(with_reducible refine (impl_isValue.calls a0_3 true _ A8.out).mono ?_);rintro e w' ⟨rfl,⟨nd,rfl⟩⟩))
 go_ret
 exact ⟨by first|rfl|(simp [errW_none,errW_some]<;>rfl)|(simp [*,errW_none,errW_some]<;>rfl),by repeat (first|(with_reducible first|exact HB.out|apply bwa|apply pbN|apply bw1|refine bws ?_ GE249.out)|exact HB.out)⟩
/-! ### impl_SumTable: function 99 -/
mutual
def impl_SumTable.l0:Nat→List Int→Int→Option (List Int)
  |0,_,_=>none
  |k + 1,x1,x5=>if x5 < 256 then (impl_SumTable.l1 k x1 x5 x5 0) else (some x1)
def impl_SumTable.l1:Nat→List Int→Int→Int→Int→Option (List Int)
  |0,_,_,_,_=>none
  |k + 1,x1,x2,x5,x8=>if x8 < 8 then (if (Go.bits .and .u32 x2 1)=1 then (impl_SumTable.l1 k x1 (Go.bits .xor .u32 (x2 / 2) 2197175160) x5 (wrap64 (x8 + 1))) else (impl_SumTable.l1 k x1 (x2 / 2) x5 (wrap64 (x8 + 1)))) else (if x1.length < 35184372088832 then (impl_SumTable.l0 k (x1 ++ [x2]) ((x5 + 1) % 4294967296)) else (none))
end
def impl_SumTable.f (k:Nat)  : Option (List Int):=impl_SumTable.l0 k (([]:List Int)) 0
theorem impl_SumTable.mono_l:∀ k,(∀ y0 y1,LeO (impl_SumTable.l0 k y0 y1) (impl_SumTable.l0 (k + 1) y0 y1))∧(∀ y0 y1 y2 y3,LeO (impl_SumTable.l1 k y0 y1 y2 y3) (impl_SumTable.l1 (k + 1) y0 y1 y2 y3))
  |0=>⟨fun _ _ r h=>by simp [impl_SumTable.l0] at h,fun _ _ _ _ r h=>by simp [impl_SumTable.l1] at h⟩
  |k + 1=>by
    obtain ⟨ih0,ih1⟩:=impl_SumTable.mono_l k
    refine ⟨?_,?_⟩
    · intro y0 y1
      unfold impl_SumTable.l0
      repeat' first
      |(with_reducible exact ih0 _ _)
      |(with_reducible exact ih1 _ _ _ _)
      |(with_reducible exact LeO.refl _)
      |(with_reducible exact LeO.none _)
      |(with_reducible refine LeO.ite ?_ ?_)
      |(with_reducible refine LeO.bind ?_ (fun _=>?_))
      |exact ih0 _ _
      |exact ih1 _ _ _ _
      |exact LeO.none _
      |refine LeO.ite ?_ ?_
      |refine LeO.bind ?_ (fun _=>?_)
    · intro y0 y1 y2 y3
      unfold impl_SumTable.l1
      repeat' first
      |(with_reducible exact ih0 _ _)
      |(with_reducible exact ih1 _ _ _ _)
      |(with_reducible exact LeO.refl _)
      |(with_reducible exact LeO.none _)
      |(with_reducible refine LeO.ite ?_ ?_)
      |(with_reducible refine LeO.bind ?_ (fun _=>?_))
      |exact ih0 _ _
      |exact ih1 _ _ _ _
      |exact LeO.none _
      |refine LeO.ite ?_ ?_
      |refine LeO.bind ?_ (fun _=>?_)
theorem impl_SumTable.mono:∀ k,LeO (impl_SumTable.f k ) (impl_SumTable.f (k + 1) ):=by
  intro  k
  obtain ⟨ih0,ih1⟩:=impl_SumTable.mono_l k
  unfold impl_SumTable.f
  repeat' first
      |(with_reducible exact ih0 _ _)
      |(with_reducible exact ih1 _ _ _ _)
      |(with_reducible exact LeO.refl _)
      |(with_reducible exact LeO.none _)
      |(with_reducible refine LeO.ite ?_ ?_)
      |(with_reducible refine LeO.bind ?_ (fun _=>?_))
      |exact ih0 _ _
      |exact ih1 _ _ _ _
      |exact LeO.none _
      |refine LeO.ite ?_ ?_
      |refine LeO.bind ?_ (fun _=>?_)
set_option maxHeartbeats 8000000 in
set_option maxRecDepth 100000 in
theorem impl_SumTable.calls (k:Nat)  (r:List Int) (w:World) (h:impl_SumTable.f k  = some r) :
    Calls Tryd.prog 99 #[] w fun e w' => ∃ v0_:Value,e = .returned (v0_)∧Kd.R (Kd.int .u32) 106 w' w.heap.size (fun _=>True) v0_ r∧Below w.heap.size w w':=by
 have HB:=AsZ.mk (Below.refl w.heap.size w)
 have H:(impl_SumTable.l0 k (([]:List Int)) 0)=some r:=h
 clear h
 obtain ⟨y254,hy254⟩:∃ y_:List Int,y_=(([]:List Int)):=⟨_,rfl⟩
 replace H:(impl_SumTable.l0 k y254 0)=some r:=by first|(rw [hy254];with_reducible exact H)|(have H2_:=(Option.bind_some _ _).symm.trans H;rw [hy254];with_reducible exact H2_)|(have H2_:=(Option.bind_some _ _).symm.trans H;with_reducible exact H2_)|with_reducible exact H|(rw [hy254];exact H)|exact H
 have Ny254:=AsZ.mk hy254
 clear hy254
 have H':=AsZ.mk H
 clear H
 go_enter Tryd.func99,Tryd.ntmps99
 go_wp2_with (first|((with_reducible refine gate_dst (N:=4) rfl ?_);refine Kd.R_lit (Kd.int .u32) _ 106 ?hg (N:=4) ?hd (xs:=([]:List Int)) (inner:=[]) (ok:=fun _=>True) (okp:=fun _=>True) ?hr ?hp (fun _ hk=>hk) trivial (Below.refl _ _) (Nat.le_refl _) (by simp) ?_;(case hd=>rfl);(case hg=>rfl);(case hr=>first|(go_simp;done)|(go_simp;rfl));(case hp=>exact (Reps.none _ _));intro v255 w1 ho2 hb hg_ hnew_;clear hg_ hnew_;(first|rw [← Ny254.out] at ho2|(simp only [Int.reduceToNat] at ho2;rw [← Ny254.out] at ho2));have n0_:=AsZ.mk (Kd.R_lower ho2 (bwz (by repeat (first|(with_reducible first|exact HB.out|apply bwa|apply pbN|apply bw1)|exact HB.out))));have n1_:=AsZ.mk (bwp (by repeat (first|(with_reducible first|exact HB.out|apply bwa|apply pbN|apply bw1)|exact HB.out)) hb);clear HB;have HO256:=n0_;have HB:=n1_;clear n0_ n1_;clear hb ho2))
 go_loopg [1,5] k (fun kq v1 v5 w' => ∃ (x1_1:List Int) (x5_1:Int),v5 = .int .u32 x5_1∧AsZ (impl_SumTable.l0 kq x1_1 x5_1=some r)∧AsZ (kq≤k)∧AsZ (Kd.R (Kd.int .u32) 106 w' w.heap.size (fun _=>True) v1 x1_1)∧AsZ (Below w.heap.size w w'))
 case atStart=>exact ⟨(y254),(0),(by first|rfl|(simp;done)|(simp [*];done)),H',⟨Nat.le_refl _⟩,⟨by (with_reducible repeat (first|apply Kd.R_alloc|apply Kd.R_drewN|apply Kd.R_drew));exact HO256.out⟩,⟨by repeat (first|(with_reducible first|exact HB.out|apply bwa|apply pbN|apply bw1)|exact HB.out)⟩⟩
 case round =>
  clear H'
  try clear p2
  obtain ⟨x1_1,x5_1,rfl,HA,HK1,HO_1,HB⟩:=hrel
  cases gk with
  |zero=>exact absurd HA.out (by simp [impl_SumTable.l0])
  |succ k1 =>
   have H:=HA.out
   clear HA
   simp only [impl_SumTable.l0] at H
   by_cases c3:x5_1 < 256
   rotate_left
   · rw [if_neg c3] at H
     have c3b0:decide (x5_1 < 256)=false:=decide_eq_false c3
     clear c3
     obtain rfl:=zI H
     go_wp2
     go_ret
     exact ⟨_,by first|rfl|(simp [errW_none,errW_some]<;>rfl)|(simp [*,errW_none,errW_some]<;>rfl),by (with_reducible repeat (first|apply Kd.R_alloc|apply Kd.R_drewN|apply Kd.R_drew));exact HO_1.out,by repeat (first|(with_reducible first|exact HB.out|apply bwa|apply pbN|apply bw1)|exact HB.out)⟩
   rw [if_pos c3] at H
   have c3b0:decide (x5_1 < 256)=true:=zE c3
   clear c3
   have H':=AsZ.mk H
   clear H
   go_wp2
   go_loopg [2,8] k1 (fun kq v2 v8 w' => ∃ (x2_2:Int) (x8_2:Int),v2 = .int .u32 x2_2∧v8 = .int .i64 x8_2∧AsZ (impl_SumTable.l1 kq x1_1 x2_2 x5_1 x8_2=some r)∧AsZ (kq≤k1)∧AsZ (Kd.R (Kd.int .u32) 106 w' w.heap.size (fun _=>True) u1 x1_1)∧AsZ (Below w.heap.size w w'))
   case atStart=>exact ⟨(x5_1),(0),(by first|rfl|(simp;done)|(simp [*];done)),(by first|rfl|(simp;done)|(simp [*];done)),H',⟨Nat.le_refl _⟩,⟨by (with_reducible repeat (first|apply Kd.R_alloc|apply Kd.R_drewN|apply Kd.R_drew));exact HO_1.out⟩,⟨by repeat (first|(with_reducible first|exact HB.out|apply bwa|apply pbN|apply bw1)|exact HB.out)⟩⟩
   case round =>
    clear H'
    try clear p2
    try clear c3
    try clear c3b0
    try clear p2
    obtain ⟨x2_2,x8_2,rfl,rfl,HA,HK2,HO_1,HB⟩:=hrel
    cases gk with
    |zero=>exact absurd HA.out (by simp [impl_SumTable.l1])
    |succ k2 =>
     have H:=HA.out
     clear HA
     simp only [impl_SumTable.l1] at H
     by_cases c4:x8_2 < 8
     · rw [if_pos c4] at H
       have c4b0:decide (x8_2 < 8)=true:=zE c4
       clear c4
       by_cases c5:(Go.bits .and .u32 x2_2 1)=1
       rotate_left
       · rw [if_neg c5] at H
         have c5b0:((Go.bits .and .u32 x2_2 1) == 1)=false:=beq_eq_false_iff_ne.mpr c5
         have c5b1:((Go.bits .and .u32 x2_2 1) != 1)=true:=bne_iff_ne.mpr c5
         have H':=AsZ.mk H
         clear H
         go_wp2
         go_roundg k2
         case measure=>have:=HK1.out;have:=HK2.out;omega
         case rel=>exact ⟨(x2_2 / 2),(wrap64 (x8_2 + 1)),(by first|rfl|(simp;done)|(simp [*];done)),(by first|rfl|(simp;done)|(simp [*];done)),H',⟨by have:=HK1.out;have:=HK2.out;omega⟩,⟨by (with_reducible repeat (first|apply Kd.R_alloc|apply Kd.R_drewN|apply Kd.R_drew));exact HO_1.out⟩,⟨by repeat (first|(with_reducible first|exact HB.out|apply bwa|apply pbN|apply bw1)|exact HB.out)⟩⟩
       rw [if_pos c5] at H
       have c5b0:((Go.bits .and .u32 x2_2 1) == 1)=true:=beq_iff_eq.mpr c5
       have c5b1:((Go.bits .and .u32 x2_2 1) != 1)=false:=bne_eq_false_iff_eq.mpr c5
       clear c5
       have H':=AsZ.mk H
       clear H
       go_wp2
       go_roundg k2
       case measure=>have:=HK1.out;have:=HK2.out;omega
       case rel=>exact ⟨(Go.bits .xor .u32 (x2_2 / 2) 2197175160),(wrap64 (x8_2 + 1)),(by first|rfl|(simp;done)|(simp [*];done)),(by first|rfl|(simp;done)|(simp [*];done)),H',⟨by have:=HK1.out;have:=HK2.out;omega⟩,⟨by (with_reducible repeat (first|apply Kd.R_alloc|apply Kd.R_drewN|apply Kd.R_drew));exact HO_1.out⟩,⟨by repeat (first|(with_reducible first|exact HB.out|apply bwa|apply pbN|apply bw1)|exact HB.out)⟩⟩
     rw [if_neg c4] at H
     have c4b0:decide (x8_2 < 8)=false:=decide_eq_false c4
     clear c4
     by_cases c6:x1_1.length < 35184372088832
     rotate_left
     · rw [if_neg c6] at H
       exact absurd H (by simp)
     rw [if_pos c6] at H
     have LMc6:=AsZ.mk c6
     clear c6
     obtain ⟨y257,hy257⟩:∃ y_:List Int,y_=(x1_1 ++ [x2_2]):=⟨_,rfl⟩
     replace H:(impl_SumTable.l0 k2 y257 ((x5_1 + 1) % 4294967296))=some r:=by first|(rw [hy257];with_reducible exact H)|(have H2_:=(Option.bind_some _ _).symm.trans H;rw [hy257];with_reducible exact H2_)|(have H2_:=(Option.bind_some _ _).symm.trans H;with_reducible exact H2_)|with_reducible exact H|(rw [hy257];exact H)|exact H
     have Ny257:=AsZ.mk hy257
     clear hy257
     have H':=AsZ.mk H
     clear H
     go_wp2_with (first|((with_reducible refine gate_builtin (b := .append) (xs:=#[.tmp 19,.tmp 21]) rfl ?_);at_builtin;refine Kd.R_append (Kd.int .u32) (w0:=w) w.heap.size rfl (.tmp 19) (.tmp 21) 88 106 (.int .u32 0) 4 rfl Tryd.underlying88 info106 rfl (by decide) (by omega) u1 x1_1 x2_2 [.int .u32 x2_2] (fun _=>True) (fun _=>False) rfl rfl ?aP (fun _ hk=>hk.elim) ?aF ?aO ?aB ?aS ?aL ?_;(case aP=>exact rfl);(case aB=>exact (by repeat (first|(with_reducible first|exact HB.out|apply bwa|apply pbN|apply bw1)|exact HB.out)));(case aF=>exact (fun _ _=>trivial));(case aO=>exact (by (with_reducible repeat (first|apply Kd.R_alloc|apply Kd.R_drewN|apply Kd.R_drew));exact HO_1.out));(case aS=>exact (bwz (by repeat (first|(with_reducible first|exact HB.out|apply bwa|apply pbN|apply bw1)|exact HB.out))));(case aL=>have:=LMc6.out;omega);intro v258 w7 ho hb hg hat;rw [← Ny257.out] at ho;have n0_:=AsZ.mk (hb);have n1_:=AsZ.mk (ho);clear HB;clear HO_1;have HB:=n0_;have HO259:=n1_;clear n0_ n1_;clear ho hb hg hat))
     go_roundg k2
     case measure=>have:=HK1.out;have:=HK2.out;omega
     case rel=>exact ⟨(y257),((x5_1 + 1) % 4294967296),(by first|rfl|(simp;done)|(simp [*];done)),H',⟨by have:=HK1.out;have:=HK2.out;omega⟩,⟨by (with_reducible repeat (first|apply Kd.R_alloc|apply Kd.R_drewN|apply Kd.R_drew));exact HO259.out⟩,⟨by repeat (first|(with_reducible first|exact HB.out|apply bwa|apply pbN|apply bw1)|exact HB.out)⟩⟩
/-! ### impl_SumOn: function 97 -/
def impl_SumOn.l0:Nat→Int→ByteArray→List Int→Int→Int→Option (Int)
  |0,_,_,_,_,_=>none
  |k + 1,x0,x1,x5,x9,x10=>if x10 < x9 then (if 0≤x10 then (if x10 < (x1.size:Int) then (if 0≤(Go.bits .xor .u8 ((x0) % 256) (bt x1 x10)) then (if (Go.bits .xor .u8 ((x0) % 256) (bt x1 x10)) < (x5.length:Int) then (impl_SumOn.l0 k (Go.bits .xor .u32 (x0 / 256) (rd x5 (Go.bits .xor .u8 ((x0) % 256) (bt x1 x10)))) x1 x5 x9 (wrap64 (x10 + 1))) else (none)) else (none)) else (none)) else (none)) else (some x0)
def impl_SumOn.f (k:Nat) (a0:Int) (a1:ByteArray):Option (Int):=(impl_SumTable.f k).bind fun t260=>(impl_SumOn.l0 k a0 a1 t260 (a1.size:Int) 0)
theorem impl_SumOn.mono_l:∀ k,(∀ y0 y1 y2 y3 y4,LeO (impl_SumOn.l0 k y0 y1 y2 y3 y4) (impl_SumOn.l0 (k + 1) y0 y1 y2 y3 y4))
  |0=>fun _ _ _ _ _ r h=>by simp [impl_SumOn.l0] at h
  |k + 1=>by
    have ih0:=impl_SumOn.mono_l k
    · intro y0 y1 y2 y3 y4
      unfold impl_SumOn.l0
      repeat' first
      |(with_reducible exact ih0 _ _ _ _ _)
      |(with_reducible exact impl_SumTable.mono _)
      |(with_reducible exact LeO.refl _)
      |(with_reducible exact LeO.none _)
      |(with_reducible refine LeO.ite ?_ ?_)
      |(with_reducible refine LeO.bind ?_ (fun _=>?_))
      |exact ih0 _ _ _ _ _
      |exact impl_SumTable.mono _
      |exact LeO.none _
      |refine LeO.ite ?_ ?_
      |refine LeO.bind ?_ (fun _=>?_)
theorem impl_SumOn.mono:∀ a0 a1 k,LeO (impl_SumOn.f k a0 a1) (impl_SumOn.f (k + 1) a0 a1):=by
  intro a0 a1 k
  have ih0:=impl_SumOn.mono_l k
  unfold impl_SumOn.f
  repeat' first
      |(with_reducible exact ih0 _ _ _ _ _)
      |(with_reducible exact impl_SumTable.mono _)
      |(with_reducible exact LeO.refl _)
      |(with_reducible exact LeO.none _)
      |(with_reducible refine LeO.ite ?_ ?_)
      |(with_reducible refine LeO.bind ?_ (fun _=>?_))
      |exact ih0 _ _ _ _ _
      |exact impl_SumTable.mono _
      |exact LeO.none _
      |refine LeO.ite ?_ ?_
      |refine LeO.bind ?_ (fun _=>?_)
set_option maxHeartbeats 8000000 in
set_option maxRecDepth 100000 in
theorem impl_SumOn.calls (k:Nat) (a0:Int) (a1:ByteArray) (r:Int) (w:World) (h:impl_SumOn.f k a0 a1=some r) :
    Calls Tryd.prog 97 #[.int .u32 a0,.string a1] w fun e w'=>e = .returned (.int .u32 r)∧Below w.heap.size w w':=by
 have HB:=AsZ.mk (Below.refl w.heap.size w)
 have H:((impl_SumTable.f k).bind fun t260=>(impl_SumOn.l0 k a0 a1 t260 (a1.size:Int) 0))=some r:=h
 clear h
 replace H:=Option.bind_eq_some_iff.mp H
 obtain ⟨t260,A30,H⟩:=H
 replace H:(impl_SumOn.l0 k a0 a1 t260 (a1.size:Int) 0)=some r:=H
 have A3:=AsZ.mk A30
 clear A30
 have H':=AsZ.mk H
 clear H
 go_enter Tryd.func97,Tryd.ntmps97
 go_wp2_with (first|((with_reducible refine gcl (f:=99) rfl ?_);refine goesL_ (some 7) rfl rfl Tryd.func99 (by kernel_rfl) rfl #[] rfl (by (try simp only [zA,zC,zN]);first|done|rfl|(simp only [zM,zL];rfl)) ?_;(with_reducible refine (impl_SumTable.calls k  t260 _ A3.out).mono ?_);rintro e w4 ⟨v261,rfl,ho0,hb⟩;refine ⟨_,rfl,?_⟩;have n0_:=AsZ.mk (Kd.R_lower ho0 (bwz (by repeat (first|(with_reducible first|exact HB.out|apply bwa|apply pbN|apply bw1)|exact HB.out))));have n1_:=AsZ.mk (bwp (by repeat (first|(with_reducible first|exact HB.out|apply bwa|apply pbN|apply bw1)|exact HB.out)) hb);clear HB;have HO262:=n0_;have HB:=n1_;clear n0_ n1_;(try clear hb);(try clear hb2);(try clear hk);(try clear hi);(try clear ho0)))
 go_loopg [0,10] k (fun kq v0 v10 w' => ∃ (x0_1:Int) (x10_1:Int),v0 = .int .u32 x0_1∧v10 = .int .i64 x10_1∧AsZ (impl_SumOn.l0 kq x0_1 a1 t260 (a1.size:Int) x10_1=some r)∧AsZ (kq≤k)∧AsZ (Kd.R (Kd.int .u32) 106 w' w.heap.size (fun _=>True) v261 t260)∧AsZ (Below w.heap.size w w'))
 case atStart=>exact ⟨(a0),(0),(by first|rfl|(simp;done)|(simp [*];done)),(by first|rfl|(simp;done)|(simp [*];done)),H',⟨Nat.le_refl _⟩,⟨by (with_reducible repeat (first|apply Kd.R_alloc|apply Kd.R_drewN|apply Kd.R_drew));exact HO262.out⟩,⟨by repeat (first|(with_reducible first|exact HB.out|apply bwa|apply pbN|apply bw1)|exact HB.out)⟩⟩
 case round =>
  clear H'
  try clear p2
  obtain ⟨x0_1,x10_1,rfl,rfl,HA,HK1,HO_5,HB⟩:=hrel
  cases gk with
  |zero=>exact absurd HA.out (by simp [impl_SumOn.l0])
  |succ k1 =>
   have H:=HA.out
   clear HA
   simp only [impl_SumOn.l0] at H
   by_cases c5:x10_1 < (a1.size:Int)
   rotate_left
   · rw [if_neg c5] at H
     have c5b0:decide (x10_1 < (a1.size:Int))=false:=decide_eq_false c5
     clear c5
     obtain rfl:=zI H
     go_wp2
     go_ret
     exact ⟨by first|rfl|(simp [errW_none,errW_some]<;>rfl)|(simp [*,errW_none,errW_some]<;>rfl),by repeat (first|(with_reducible first|exact HB.out|apply bwa|apply pbN|apply bw1)|exact HB.out)⟩
   rw [if_pos c5] at H
   have c5b0:decide (x10_1 < (a1.size:Int))=true:=zE c5
   clear c5
   by_cases c6:0≤x10_1
   rotate_left
   · rw [if_neg c6] at H
     exact absurd H (by simp)
   rw [if_pos c6] at H
   have c6b0:decide (0≤x10_1)=true:=zE c6
   clear c6
   by_cases c7:x10_1 < (a1.size:Int)
   rotate_left
   · rw [if_neg c7] at H
     exact absurd H (by simp)
   rw [if_pos c7] at H
   have c7b0:decide (x10_1 < (a1.size:Int))=true:=zE c7
   clear c7
   obtain ⟨ji9,hji9⟩:∃ j_:Int,(Go.bits .xor .u8 ((x0_1) % 256) (bt a1 x10_1))=j_:=⟨_,rfl⟩
   replace H:(if 0≤(ji9) then (if (ji9) < (t260.length:Int) then (impl_SumOn.l0 k1 (Go.bits .xor .u32 (x0_1 / 256) (rd t260 (ji9))) a1 t260 (a1.size:Int) (wrap64 (x10_1 + 1))) else (none)) else (none))=some r:=by first|(rw [hji9] at H;exact H)|(simp only [hji9] at H ⊢;exact H)
   by_cases c10:0≤(ji9)
   rotate_left
   · rw [if_neg c10] at H
     exact absurd H (by simp)
   rw [if_pos c10] at H
   have c10b0:decide (0≤(ji9))=true:=zE c10
   clear c10
   by_cases c11:(ji9) < (t260.length:Int)
   rotate_left
   · rw [if_neg c11] at H
     exact absurd H (by simp)
   rw [if_pos c11] at H
   have c11b0:decide ((ji9) < (t260.length:Int))=true:=zE c11
   clear c11
   have H':=AsZ.mk H
   clear H
   have p8:0≤(x10_1:Int):=zD (by first|(with_reducible assumption)|assumption)
   have q8:x10_1 < (a1.size:Int):=zD (by first|(with_reducible assumption)|assumption)
   have hx8:=bt_at a1 x10_1
   replace p8:=eq_true p8
   replace q8:=eq_true q8
   obtain ⟨Ao12,co12,eo12⟩:=Kd.R_slice HO_5.out
   subst eo12
   have p263:0≤((ji9):Int):=zD (by first|(with_reducible assumption)|assumption)
   have q263:(ji9) < (t260.length:Int):=zD (by first|(with_reducible assumption)|assumption)
   obtain ⟨ad263,e263,hx263_0⟩:=Kd.at_int (Kd.R_reads' HO_5.out).2.2 (ji9) p263 q263
   cases e263
   replace p263:=eq_true p263
   replace q263:=eq_true q263
   go_wp2
   go_roundg k1
   case measure=>have:=HK1.out;omega
   case rel=>exact ⟨(Go.bits .xor .u32 (x0_1 / 256) (rd t260 (ji9))),(wrap64 (x10_1 + 1)),(by first|rfl|(simp;done)|(simp only [← hji9]<;>(first|rfl|simp))|(simp [*];done)),(by first|rfl|(simp;done)|(simp [*];done)),H',⟨by have:=HK1.out;omega⟩,⟨by (with_reducible repeat (first|apply Kd.R_alloc|apply Kd.R_drewN|apply Kd.R_drew));exact HO_5.out⟩,⟨by repeat (first|(with_reducible first|exact HB.out|apply bwa|apply pbN|apply bw1)|exact HB.out)⟩⟩
/-! ### impl_SumOf: function 85 -/
def impl_SumOf.f (k:Nat) (a0:ByteArray):Option (Int):=(impl_SumOn.f k 4294967295 a0).bind fun t264=>(some (Go.bits .xor .u32 4294967295 t264))
theorem impl_SumOf.mono:∀ a0 k,LeO (impl_SumOf.f k a0) (impl_SumOf.f (k + 1) a0):=by
  intro a0 k
  unfold impl_SumOf.f
  repeat' first
      |(with_reducible exact impl_SumOn.mono _ _ _)
      |(with_reducible exact LeO.refl _)
      |(with_reducible exact LeO.none _)
      |(with_reducible refine LeO.ite ?_ ?_)
      |(with_reducible refine LeO.bind ?_ (fun _=>?_))
      |exact impl_SumOn.mono _ _ _
      |exact LeO.none _
      |refine LeO.ite ?_ ?_
      |refine LeO.bind ?_ (fun _=>?_)
set_option maxHeartbeats 8000000 in
set_option maxRecDepth 100000 in
theorem impl_SumOf.calls (k:Nat) (a0:ByteArray) (r:Int) (w:World) (h:impl_SumOf.f k a0=some r) :
    Calls Tryd.prog 85 #[.string a0] w fun e w'=>e = .returned (.int .u32 r)∧Below w.heap.size w w':=by
 have HB:=AsZ.mk (Below.refl w.heap.size w)
 have H:((impl_SumOn.f k 4294967295 a0).bind fun t264=>(some (Go.bits .xor .u32 4294967295 t264)))=some r:=h
 clear h
 replace H:=Option.bind_eq_some_iff.mp H
 obtain ⟨t264,A20,H⟩:=H
 replace H:(some (Go.bits .xor .u32 4294967295 t264))=some r:=H
 have A2:=AsZ.mk A20
 clear A20
 obtain rfl:=zI H
 go_enter Tryd.func85,Tryd.ntmps85
 go_wp2_with (first|((with_reducible refine gcl (f:=97) rfl ?_);refine goesL_ (some 4) rfl rfl Tryd.func97 (by kernel_rfl) rfl #[.int .u32 4294967295,.string a0] rfl (by (try simp only [zA,zC,zN]);first|done|rfl|(simp only [zM,zL];rfl)) ?_;(with_reducible refine (impl_SumOn.calls k 4294967295 a0 t264 _ A2.out).mono ?_);rintro e w3 ⟨rfl,hb⟩;refine ⟨_,rfl,?_⟩;have n0_:=AsZ.mk (bwp (by repeat (first|(with_reducible first|exact HB.out|apply bwa|apply pbN|apply bw1)|exact HB.out)) hb);clear HB;have HB:=n0_;clear n0_;(try clear hb);(try clear hb2);(try clear hk);(try clear hi)))
 go_ret
 exact ⟨by first|rfl|(simp [errW_none,errW_some]<;>rfl)|(simp [*,errW_none,errW_some]<;>rfl),by repeat (first|(with_reducible first|exact HB.out|apply bwa|apply pbN|apply bw1)|exact HB.out)⟩
/-! ### strconv_Itoa: function 86 -/
def strconv_Itoa.f (a0:Int):Option (ByteArray):=if -9223372036854775808≤a0∧a0≤9223372036854775807 then some ⟨(Lib.itoa a0).toArray⟩ else none
theorem strconv_Itoa.calls (a0:Int) (r:ByteArray) (w:World) (hT:Go.Proofs.YtffjlpphcjfdgaaDoor.Tab w) (h:strconv_Itoa.f a0=some r) :
    Calls Tryd.prog 86 #[.int .i64 a0] w fun e w'=>e = .returned (.string r)∧Below w.heap.size w w':=by
 unfold strconv_Itoa.f at h
 split at h
 rotate_left
 · cases h
 rename_i hh
 obtain ⟨h0,h1⟩:=hh
 obtain rfl:=zI h
 refine (Tryd.strconv_Itoa a0 h0 h1 w hT).mono ?_
 rintro e w' ⟨rfl,k,os,rfl⟩
 exact ⟨rfl,Lib.below_grow _ _ (Nat.le_refl _) _ _⟩
end Go.Proofs.YtffjlpphcjfdgaaDoor.MFnExactSeekSkip
