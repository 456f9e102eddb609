-- Written by a program of this session out of the translation. Not trusted: Lean checks it.
import Derived.Test.YtffjlpphcjfdgaaDoorMFnExactFindSkipx0
import Derived.Test.YtffjlpphcjfdgaaDoorMFnExactFindSkipx8
import Derived.Test.YtffjlpphcjfdgaaDoorMFnExactFindSkipx10
import Derived.Test.YtffjlpphcjfdgaaDoorMFnExactFindSkipx11
namespace Go.Proofs.YtffjlpphcjfdgaaDoor.MFnExactFindSkip
-- short
-- shrunk
-- TAB
-- RD
open Go.Proofs.YtffjlpphcjfdgaaDoor Go.RowKit Go.Proofs.YtffjlpphcjfdgaaDoorW.PrintWords Go.Proofs.YtffjlpphcjfdgaaDoorW.PrintLast Go.Proofs.YtffjlpphcjfdgaaDoorW.PrintMore Go.Proofs.YtffjlpphcjfdgaaDoorX
attribute [local go_sem] max2_int min2_int max_two min_two max_three min_three max_four min_four str_gtr str_leq str_geq cell_twice
set_option linter.unusedVariables false
set_option linter.unusedSimpArgs false
/-! ### spec_SeekSkip: function 31 -/
def spec_SeekSkip.j0:Nat→ByteArray→Int→Bool→List Int→List (S77)→Option (ByteArray × Int × Int × ByteArray × Int × Bool)
  |0,_,_,_,_,_=>none
  |k + 1,x1,x2,x23,x320000,x320001=>if x23=true then (some ((⟨#[]⟩:ByteArray),0,0,(⟨#[]⟩:ByteArray),0,false)) else ((spec_l4First.f k x320000 x320001 x1 x2 0 (⟨#[]⟩:ByteArray)).bind fun bt324=>(if bt324.1 < 0 then (some ((⟨#[]⟩:ByteArray),0,0,(⟨#[]⟩:ByteArray),0,false)) else (if 0≤bt324.1 then (if bt324.1 < (x320001.length:Int) then (some ((rd_T77 x320001 bt324.1).f0.f0,(rd_T77 x320001 bt324.1).f0.f1,(rd_T77 x320001 bt324.1).f0.f2,(rd_T77 x320001 bt324.1).f0.f3,bt324.2,true)) else (none)) else (none))))
def spec_SeekSkip.f (k:Nat) (l0_0:List Int) (l0_1:List (S77)) (a1:ByteArray) (a2:Int):Option (ByteArray × Int × Int × ByteArray × Int × Bool):=(spec_GoodSkip.f k l0_0 l0_1).bind fun t321=>(if t321=true then ((spec_l4Key.f a1).bind fun t322=>(if t322=true then ((spec_l4Seq.f a2).bind fun t323=>(spec_SeekSkip.j0 k a1 a2 (!t323) l0_0 l0_1)) else (spec_SeekSkip.j0 k a1 a2 true l0_0 l0_1))) else (spec_SeekSkip.j0 k a1 a2 true l0_0 l0_1))
theorem spec_SeekSkip.mono_l:∀ k,(∀ y0 y1 y2 y3 y4,LeO (spec_SeekSkip.j0 k y0 y1 y2 y3 y4) (spec_SeekSkip.j0 (k + 1) y0 y1 y2 y3 y4))
  |0=>fun _ _ _ _ _ r h=>by simp [spec_SeekSkip.j0] at h
  |k + 1=>by
    have ih0:=spec_SeekSkip.mono_l k
    · intro y0 y1 y2 y3 y4
      unfold spec_SeekSkip.j0
      repeat' first
      |(with_reducible exact ih0 _ _ _ _ _)
      |(with_reducible exact spec_GoodSkip.mono _ _ _)
      |(with_reducible exact spec_l4First.mono _ _ _ _ _ _ _)
      |(with_reducible exact LeO.refl _)
      |(with_reducible exact LeO.none _)
      |(with_reducible refine LeO.ite ?_ ?_)
      |(with_reducible refine LeO.bind ?_ (fun _=>?_))
      |exact ih0 _ _ _ _ _
      |exact spec_GoodSkip.mono _ _ _
      |exact spec_l4First.mono _ _ _ _ _ _ _
      |exact LeO.none _
      |refine LeO.ite ?_ ?_
      |refine LeO.bind ?_ (fun _=>?_)
theorem spec_SeekSkip.mono:∀ a0 a1 a2 a3 k,LeO (spec_SeekSkip.f k a0 a1 a2 a3) (spec_SeekSkip.f (k + 1) a0 a1 a2 a3):=by
  intro a0 a1 a2 a3 k
  have ih0:=spec_SeekSkip.mono_l k
  unfold spec_SeekSkip.f
  repeat' first
      |(with_reducible exact ih0 _ _ _ _ _)
      |(with_reducible exact spec_GoodSkip.mono _ _ _)
      |(with_reducible exact spec_l4First.mono _ _ _ _ _ _ _)
      |(with_reducible exact LeO.refl _)
      |(with_reducible exact LeO.none _)
      |(with_reducible refine LeO.ite ?_ ?_)
      |(with_reducible refine LeO.bind ?_ (fun _=>?_))
      |exact ih0 _ _ _ _ _
      |exact spec_GoodSkip.mono _ _ _
      |exact spec_l4First.mono _ _ _ _ _ _ _
      |exact LeO.none _
      |refine LeO.ite ?_ ?_
      |refine LeO.bind ?_ (fun _=>?_)
set_option maxHeartbeats 8000000 in
set_option maxRecDepth 100000 in
theorem spec_SeekSkip.calls (k:Nat) (A0_0:Option Addr) (c0_0:Nat) (l0_0:List Int) (A0_1:Option Addr) (c0_1:Nat) (l0_1:List (S77)) (a1:ByteArray) (a2:Int) (r1:ByteArray) (r2:Int) (r3:Int) (r4:ByteArray) (r5:Int) (r6:Bool) (w:World) (hr0_0:Kd.C (Kd.int .i64) w A0_0 l0_0.length l0_0) (hc0_0:l0_0.length≤c0_0) (hr0_1:Kd.C k77 w A0_1 l0_1.length l0_1) (hc0_1:l0_1.length≤c0_1) (h:spec_SeekSkip.f k l0_0 l0_1 a1 a2=some (r1,r2,r3,r4,r5,r6)) :
    Calls Tryd.prog 31 #[.agg #[.slice A0_0 l0_0.length c0_0,.slice A0_1 l0_1.length c0_1],.string a1,.int .i64 a2] w fun e w'=>e = .returned (.tuple #[.agg #[.string r1,.int .i64 r2,.int .i64 r3,.string r4],.int .i64 r5,.bool r6])∧Below w.heap.size w w':=by
 have hu26:=Tryd.underlying26
 have hu28:=Tryd.underlying28
 have HR0_0:=AsZ.mk hr0_0
 have HC0_0:=AsZ.mk hc0_0
 clear hr0_0 hc0_0
 have HR0_1:=AsZ.mk hr0_1
 have HC0_1:=AsZ.mk hc0_1
 clear hr0_1 hc0_1
 have HB:=AsZ.mk (Below.refl w.heap.size w)
 have H:((spec_GoodSkip.f k l0_0 l0_1).bind fun t321=>(if t321=true then ((spec_l4Key.f a1).bind fun t322=>(if t322=true then ((spec_l4Seq.f a2).bind fun t323=>(spec_SeekSkip.j0 k a1 a2 (!t323) l0_0 l0_1)) else (spec_SeekSkip.j0 k a1 a2 true l0_0 l0_1))) else (spec_SeekSkip.j0 k a1 a2 true l0_0 l0_1)))=some (r1,r2,r3,r4,r5,r6):=h
 clear h
 have HC4:=AsZ.mk H
 clear H
 go_enter Tryd.func31,Tryd.ntmps31
 go_upto_region 1 with (first|((with_reducible refine gate_dst (N:=3) rfl ?_);refine box_event ?hg (N:=3) ?hd (cs:=#[.slice A0_0 l0_0.length c0_0,.slice A0_1 l0_1.length c0_1]) (t:=26) ?hr ?_;(case hd=>rfl);(case hg=>rfl);(case hr=>first|(go_simp;done)|(go_simp;rfl));intro gb319 hg w5 hbox hb;have n0_:=AsZ.mk (bwp (by repeat (first|(with_reducible first|exact HB.out|apply bwa|apply pbN|apply bw1)|exact HB.out)) hb);have n1_:=AsZ.mk (hbox);have n2_:=AsZ.mk ((by rw [hg];exact (bwz (by repeat (first|(with_reducible first|exact HB.out|apply bwa|apply pbN|apply bw1)|exact HB.out))):w.heap.size≤gb319));have n3_:=AsZ.mk ((by rw [hg];exact (bwz (by repeat (first|(with_reducible first|exact HB.out|apply bwa|apply pbN|apply bw1)|exact HB.out))):w.heap.size≤gb319));clear HB;have HB:=n0_;have BK319:=n1_;have GW319:=n2_;have GE319:=n3_;clear n0_ n1_ n2_ n3_;clear hb hbox hg)|((with_reducible refine gate_dst (N:=6) rfl ?_);refine box_event ?hg (N:=6) ?hd (cs:=#[.string (⟨#[]⟩:ByteArray),.int .i64 0,.int .i64 0,.string (⟨#[]⟩:ByteArray)]) (t:=28) ?hr ?_;(case hd=>rfl);(case hg=>rfl);(case hr=>first|(go_simp;done)|(go_simp;rfl));intro gb320 hg w6 hbox hb;have n0_:=AsZ.mk (kb (g:=gb319) (o := .cells #[.slice A0_0 l0_0.length c0_0,.slice A0_1 l0_1.length c0_1] 26 (0,0)) (by (with_reducible repeat (first|refine kdN ?_ _|refine kd ?_|refine ka ?_ _));exact BK319.out) hb);have n1_:=AsZ.mk (bwp (by repeat (first|(with_reducible first|exact HB.out|apply bwa|apply pbN|apply bw1|refine bws ?_ GE319.out)|exact HB.out)) hb);have n2_:=AsZ.mk (hbox);have n3_:=AsZ.mk ((by rw [hg];exact (bwz (by repeat (first|(with_reducible first|exact HB.out|apply bwa|apply pbN|apply bw1|refine bws ?_ GE319.out)|exact HB.out))):w.heap.size≤gb320));have n4_:=AsZ.mk ((by rw [hg];exact (bwz (by repeat (first|(with_reducible first|exact HB.out|apply bwa|apply pbN|apply bw1|refine bws ?_ GE319.out)|exact HB.out))):w.heap.size≤gb320));have n5_:=AsZ.mk ((by rw [hg];exact Nat.ne_of_lt (blk_lt (g:=gb319) (o := .cells #[.slice A0_0 l0_0.length c0_0,.slice A0_1 l0_1.length c0_1] 26 (0,0)) (by (with_reducible repeat (first|refine kdN ?_ _|refine kd ?_|refine ka ?_ _));exact BK319.out)):gb319 ≠ gb320));have n6_:=AsZ.mk ((by rw [hg];exact Nat.ne_of_gt (blk_lt (g:=gb319) (o := .cells #[.slice A0_0 l0_0.length c0_0,.slice A0_1 l0_1.length c0_1] 26 (0,0)) (by (with_reducible repeat (first|refine kdN ?_ _|refine kd ?_|refine ka ?_ _));exact BK319.out)):gb320 ≠ gb319));clear BK319;clear HB;have BK319:=n0_;have HB:=n1_;have BK320:=n2_;have GW320:=n3_;have GE320:=n4_;have NB319_320:=n5_;have NB320_319:=n6_;clear n0_ n1_ n2_ n3_ n4_ n5_ n6_;clear hb hbox hg))
 (try simp only [Act.put,zS,zT,zU])
 go_cut [23] (fun v23 wc => ∃ (kq:Nat) (x23_3:Bool),v23 = .bool x23_3∧AsZ (spec_SeekSkip.j0 kq a1 a2 x23_3 l0_0 l0_1=some (r1,r2,r3,r4,r5,r6))∧AsZ (kq≤k)∧AsZ (wc.heap[gb319]? = some (.cells #[(.slice A0_0 l0_0.length c0_0),(.slice A0_1 l0_1.length c0_1)] 26 (0,0)))∧AsZ (wc.heap[gb320]? = some (.cells #[.string (⟨#[]⟩:ByteArray),.int .i64 0,.int .i64 0,.string (⟨#[]⟩:ByteArray)] 28 (0,0)))∧AsZ (Below w.heap.size w wc))
 case first =>
  have H:=HC4.out
  clear HC4
  replace H:=Option.bind_eq_some_iff.mp H
  obtain ⟨t321,A70,H⟩:=H
  replace H:(if t321=true then ((spec_l4Key.f a1).bind fun t322=>(if t322=true then ((spec_l4Seq.f a2).bind fun t323=>(spec_SeekSkip.j0 k a1 a2 (!t323) l0_0 l0_1)) else (spec_SeekSkip.j0 k a1 a2 true l0_0 l0_1))) else (spec_SeekSkip.j0 k a1 a2 true l0_0 l0_1))=some (r1,r2,r3,r4,r5,r6):=H
  have A7:=AsZ.mk A70
  clear A70
  by_cases c8:t321=true
  rotate_left
  · replace c8:=Bool.eq_false_iff.mpr c8
    subst c8
    have H1:(spec_SeekSkip.j0 k a1 a2 true l0_0 l0_1)=some (r1,r2,r3,r4,r5,r6):=by rw [if_neg (show ¬ (false=true) by decide)] at H;exact H
    clear H
    have H:=H1
    clear H1
    have H':=AsZ.mk H
    clear H
    have hnb18:=NB319_320.out
    have hnc18:=NB320_319.out
    have hcz19_0:w6.cell? ⟨gb319,0,none⟩=some (.slice A0_0 l0_0.length c0_0):=(kc BK319.out 0).trans rfl
    have hcz19_1:w6.cell? ⟨gb319,1,none⟩=some (.slice A0_1 l0_1.length c0_1):=(kc BK319.out 1).trans rfl
    have hfz19_0:=kf BK319.out 0
    have hfz19_1:=kf BK319.out 1
    go_wp2_with (first|((with_reducible refine gcl (f:=30) rfl ?_);refine goesL_ (some 12) rfl rfl Tryd.func30 (by kernel_rfl) rfl #[.agg #[.slice A0_0 l0_0.length c0_0,.slice A0_1 l0_1.length c0_1]] rfl (by (try simp only [zA,zC,zN]);first|done|rfl|(simp only [zM,zL];rfl)) ?_;(with_reducible refine (spec_GoodSkip.calls k _ _ l0_0 _ _ l0_1 false _ ?side1 ?side2 ?side3 ?side4 A7.out).mono ?_);(case side1=>repeat (first|exact (Kd.C_below HR0_0.out HB.out)|(with_reducible refine Kd.C_alloc ?_ _)|(with_reducible refine Kd.C_drewN ?_ _)|(with_reducible refine Kd.C_drew ?_)));(case side2=>exact HC0_0.out);(case side3=>repeat (first|exact (Kd.C_below HR0_1.out HB.out)|(with_reducible refine Kd.C_alloc ?_ _)|(with_reducible refine Kd.C_drewN ?_ _)|(with_reducible refine Kd.C_drew ?_)));(case side4=>exact HC0_1.out);rintro e w20 ⟨rfl,hb⟩;refine ⟨_,rfl,?_⟩;have n0_:=AsZ.mk (kb (g:=gb319) (o := .cells #[.slice A0_0 l0_0.length c0_0,.slice A0_1 l0_1.length c0_1] 26 (0,0)) (by (with_reducible repeat (first|refine kdN ?_ _|refine kd ?_|refine ka ?_ _));exact BK319.out) hb);have n1_:=AsZ.mk (kb (g:=gb320) (o := .cells #[.string (⟨#[]⟩:ByteArray),.int .i64 0,.int .i64 0,.string (⟨#[]⟩:ByteArray)] 28 (0,0)) (by (with_reducible repeat (first|refine kdN ?_ _|refine kd ?_|refine ka ?_ _));exact BK320.out) hb);have n2_:=AsZ.mk (bwp (by repeat (first|(with_reducible first|exact HB.out|apply bwa|apply pbN|apply bw1|refine bws ?_ GE319.out|refine bws ?_ GE320.out)|exact HB.out)) hb);clear BK319;clear BK320;clear HB;have BK319:=n0_;have BK320:=n1_;have HB:=n2_;clear n0_ n1_ n2_;(try clear hb);(try clear hb2);(try clear hk);(try clear hi)))
    go_meet
    case rel=>exact ⟨_,(true),(by first|rfl|(simp;done)|(simp [*];done)),H',⟨by first|omega|exact Nat.le_refl _⟩,⟨by (with_reducible repeat (first|refine kdN ?_ _|refine kd ?_|refine ka ?_ _));exact BK319.out⟩,⟨by (with_reducible repeat (first|refine kdN ?_ _|refine kd ?_|refine ka ?_ _));exact BK320.out⟩,⟨by repeat (first|(with_reducible first|exact HB.out|apply bwa|apply pbN|apply bw1|refine bws ?_ GE319.out|refine bws ?_ GE320.out)|exact HB.out)⟩⟩
  subst c8
  have H1:((spec_l4Key.f a1).bind fun t322=>(if t322=true then ((spec_l4Seq.f a2).bind fun t323=>(spec_SeekSkip.j0 k a1 a2 (!t323) l0_0 l0_1)) else (spec_SeekSkip.j0 k a1 a2 true l0_0 l0_1)))=some (r1,r2,r3,r4,r5,r6):=by rw [if_pos rfl] at H;exact H
  clear H
  have H:=H1
  clear H1
  replace H:=Option.bind_eq_some_iff.mp H
  obtain ⟨t322,A90,H⟩:=H
  replace H:(if t322=true then ((spec_l4Seq.f a2).bind fun t323=>(spec_SeekSkip.j0 k a1 a2 (!t323) l0_0 l0_1)) else (spec_SeekSkip.j0 k a1 a2 true l0_0 l0_1))=some (r1,r2,r3,r4,r5,r6):=H
  have A9:=AsZ.mk A90
  clear A90
  by_cases c10:t322=true
  rotate_left
  · replace c10:=Bool.eq_false_iff.mpr c10
    subst c10
    have H1:(spec_SeekSkip.j0 k a1 a2 true l0_0 l0_1)=some (r1,r2,r3,r4,r5,r6):=by rw [if_neg (show ¬ (false=true) by decide)] at H;exact H
    clear H
    have H:=H1
    clear H1
    have H':=AsZ.mk H
    clear H
    have hnb15:=NB319_320.out
    have hnc15:=NB320_319.out
    have hcz16_0:w6.cell? ⟨gb319,0,none⟩=some (.slice A0_0 l0_0.length c0_0):=(kc BK319.out 0).trans rfl
    have hcz16_1:w6.cell? ⟨gb319,1,none⟩=some (.slice A0_1 l0_1.length c0_1):=(kc BK319.out 1).trans rfl
    have hfz16_0:=kf BK319.out 0
    have hfz16_1:=kf BK319.out 1
    go_wp2_with (first|((with_reducible refine gcl (f:=30) rfl ?_);refine goesL_ (some 12) rfl rfl Tryd.func30 (by kernel_rfl) rfl #[.agg #[.slice A0_0 l0_0.length c0_0,.slice A0_1 l0_1.length c0_1]] rfl (by (try simp only [zA,zC,zN]);first|done|rfl|(simp only [zM,zL];rfl)) ?_;(with_reducible refine (spec_GoodSkip.calls k _ _ l0_0 _ _ l0_1 true _ ?side1 ?side2 ?side3 ?side4 A7.out).mono ?_);(case side1=>repeat (first|exact (Kd.C_below HR0_0.out HB.out)|(with_reducible refine Kd.C_alloc ?_ _)|(with_reducible refine Kd.C_drewN ?_ _)|(with_reducible refine Kd.C_drew ?_)));(case side2=>exact HC0_0.out);(case side3=>repeat (first|exact (Kd.C_below HR0_1.out HB.out)|(with_reducible refine Kd.C_alloc ?_ _)|(with_reducible refine Kd.C_drewN ?_ _)|(with_reducible refine Kd.C_drew ?_)));(case side4=>exact HC0_1.out);rintro e w17 ⟨rfl,hb⟩;refine ⟨_,rfl,?_⟩;have n0_:=AsZ.mk (kb (g:=gb319) (o := .cells #[.slice A0_0 l0_0.length c0_0,.slice A0_1 l0_1.length c0_1] 26 (0,0)) (by (with_reducible repeat (first|refine kdN ?_ _|refine kd ?_|refine ka ?_ _));exact BK319.out) hb);have n1_:=AsZ.mk (kb (g:=gb320) (o := .cells #[.string (⟨#[]⟩:ByteArray),.int .i64 0,.int .i64 0,.string (⟨#[]⟩:ByteArray)] 28 (0,0)) (by (with_reducible repeat (first|refine kdN ?_ _|refine kd ?_|refine ka ?_ _));exact BK320.out) hb);have n2_:=AsZ.mk (bwp (by repeat (first|(with_reducible first|exact HB.out|apply bwa|apply pbN|apply bw1|refine bws ?_ GE319.out|refine bws ?_ GE320.out)|exact HB.out)) hb);clear BK319;clear BK320;clear HB;have BK319:=n0_;have BK320:=n1_;have HB:=n2_;clear n0_ n1_ n2_;(try clear hb);(try clear hb2);(try clear hk);(try clear hi))|(go_at_call 53;(with_reducible refine (spec_l4Key.calls a1 false _ A9.out).mono ?_);rintro e w' ⟨rfl,⟨nd,rfl⟩⟩))
    go_meet
    case rel=>exact ⟨_,(true),(by first|rfl|(simp;done)|(simp [*];done)),H',⟨by first|omega|exact Nat.le_refl _⟩,⟨by (with_reducible repeat (first|refine kdN ?_ _|refine kd ?_|refine ka ?_ _));exact BK319.out⟩,⟨by (with_reducible repeat (first|refine kdN ?_ _|refine kd ?_|refine ka ?_ _));exact BK320.out⟩,⟨by repeat (first|(with_reducible first|exact HB.out|apply bwa|apply pbN|apply bw1|refine bws ?_ GE319.out|refine bws ?_ GE320.out)|exact HB.out)⟩⟩
  subst c10
  have H1:((spec_l4Seq.f a2).bind fun t323=>(spec_SeekSkip.j0 k a1 a2 (!t323) l0_0 l0_1))=some (r1,r2,r3,r4,r5,r6):=by rw [if_pos rfl] at H;exact H
  clear H
  have H:=H1
  clear H1
  replace H:=Option.bind_eq_some_iff.mp H
  obtain ⟨t323,A110,H⟩:=H
  replace H:(spec_SeekSkip.j0 k a1 a2 (!t323) l0_0 l0_1)=some (r1,r2,r3,r4,r5,r6):=H
  have A11:=AsZ.mk A110
  clear A110
  have H':=AsZ.mk H
  clear H
  have hnb12:=NB319_320.out
  have hnc12:=NB320_319.out
  have hcz13_0:w6.cell? ⟨gb319,0,none⟩=some (.slice A0_0 l0_0.length c0_0):=(kc BK319.out 0).trans rfl
  have hcz13_1:w6.cell? ⟨gb319,1,none⟩=some (.slice A0_1 l0_1.length c0_1):=(kc BK319.out 1).trans rfl
  have hfz13_0:=kf BK319.out 0
  have hfz13_1:=kf BK319.out 1
  go_wp2_with (first|((with_reducible refine gcl (f:=30) rfl ?_);refine goesL_ (some 12) rfl rfl Tryd.func30 (by kernel_rfl) rfl #[.agg #[.slice A0_0 l0_0.length c0_0,.slice A0_1 l0_1.length c0_1]] rfl (by (try simp only [zA,zC,zN]);first|done|rfl|(simp only [zM,zL];rfl)) ?_;(with_reducible refine (spec_GoodSkip.calls k _ _ l0_0 _ _ l0_1 true _ ?side1 ?side2 ?side3 ?side4 A7.out).mono ?_);(case side1=>repeat (first|exact (Kd.C_below HR0_0.out HB.out)|(with_reducible refine Kd.C_alloc ?_ _)|(with_reducible refine Kd.C_drewN ?_ _)|(with_reducible refine Kd.C_drew ?_)));(case side2=>exact HC0_0.out);(case side3=>repeat (first|exact (Kd.C_below HR0_1.out HB.out)|(with_reducible refine Kd.C_alloc ?_ _)|(with_reducible refine Kd.C_drewN ?_ _)|(with_reducible refine Kd.C_drew ?_)));(case side4=>exact HC0_1.out);rintro e w14 ⟨rfl,hb⟩;refine ⟨_,rfl,?_⟩;have n0_:=AsZ.mk (kb (g:=gb319) (o := .cells #[.slice A0_0 l0_0.length c0_0,.slice A0_1 l0_1.length c0_1] 26 (0,0)) (by (with_reducible repeat (first|refine kdN ?_ _|refine kd ?_|refine ka ?_ _));exact BK319.out) hb);have n1_:=AsZ.mk (kb (g:=gb320) (o := .cells #[.string (⟨#[]⟩:ByteArray),.int .i64 0,.int .i64 0,.string (⟨#[]⟩:ByteArray)] 28 (0,0)) (by (with_reducible repeat (first|refine kdN ?_ _|refine kd ?_|refine ka ?_ _));exact BK320.out) hb);have n2_:=AsZ.mk (bwp (by repeat (first|(with_reducible first|exact HB.out|apply bwa|apply pbN|apply bw1|refine bws ?_ GE319.out|refine bws ?_ GE320.out)|exact HB.out)) hb);clear BK319;clear BK320;clear HB;have BK319:=n0_;have BK320:=n1_;have HB:=n2_;clear n0_ n1_ n2_;(try clear hb);(try clear hb2);(try clear hk);(try clear hi))|(go_at_call 53;(with_reducible refine (spec_l4Key.calls a1 true _ A9.out).mono ?_);rintro e w' ⟨rfl,⟨nd,rfl⟩⟩)|(go_at_call 54;(with_reducible refine (spec_l4Seq.calls a2 t323 _ A11.out).mono ?_);rintro e w' ⟨rfl,⟨nd,rfl⟩⟩))
  go_meet
  case rel=>exact ⟨_,(!t323),(by first|rfl|(simp;done)|(simp [*];done)),H',⟨by first|omega|exact Nat.le_refl _⟩,⟨by (with_reducible repeat (first|refine kdN ?_ _|refine kd ?_|refine ka ?_ _));exact BK319.out⟩,⟨by (with_reducible repeat (first|refine kdN ?_ _|refine kd ?_|refine ka ?_ _));exact BK320.out⟩,⟨by repeat (first|(with_reducible first|exact HB.out|apply bwa|apply pbN|apply bw1|refine bws ?_ GE319.out|refine bws ?_ GE320.out)|exact HB.out)⟩⟩
 case rest =>
  clear HC4
  try clear c1
  try clear p2
  try clear c3
  try clear c8
  try clear c10
  try clear c12
  try clear c15
  try clear c18
  try clear hcz13_0
  try clear hcz13_1
  try clear hcz16_0
  try clear hcz16_1
  try clear hcz19_0
  try clear hcz19_1
  try clear hfz13_0
  try clear hfz13_1
  try clear hfz16_0
  try clear hfz16_1
  try clear hfz19_0
  try clear hfz19_1
  obtain ⟨kq,x23_3,rfl,HA,HJ3,BK319,BK320,HB⟩:=hcut
  cases kq with
  |zero=>exact absurd HA.out (by simp [spec_SeekSkip.j0])
  |succ kj3 =>
   have H:=HA.out
   clear HA
   simp only [spec_SeekSkip.j0] at H
   by_cases c21:x23_3=true
   · subst c21
     have H1:(some ((⟨#[]⟩:ByteArray),0,0,(⟨#[]⟩:ByteArray),0,false))=some (r1,r2,r3,r4,r5,r6):=by rw [if_pos rfl] at H;exact H
     clear H
     have H:=H1
     clear H1
     simp only [Option.some.injEq,Prod.mk.injEq] at H
     obtain ⟨rfl,rfl,rfl,rfl,rfl,rfl⟩:=H
     have hnb22:=NB320_319.out
     have hnc22:=NB319_320.out
     have hcz23_0:wc.cell? ⟨gb320,0,none⟩=some (.string (⟨#[]⟩:ByteArray)):=(kc BK320.out 0).trans rfl
     have hcz23_1:wc.cell? ⟨gb320,1,none⟩=some (.int .i64 0):=(kc BK320.out 1).trans rfl
     have hcz23_2:wc.cell? ⟨gb320,2,none⟩=some (.int .i64 0):=(kc BK320.out 2).trans rfl
     have hcz23_3:wc.cell? ⟨gb320,3,none⟩=some (.string (⟨#[]⟩:ByteArray)):=(kc BK320.out 3).trans rfl
     have hfz23_0:=kf BK320.out 0
     have hfz23_1:=kf BK320.out 1
     have hfz23_2:=kf BK320.out 2
     have hfz23_3:=kf BK320.out 3
     go_wp2
     refine bodyPost_ret (results_ctt rfl _ _ gb320 28 #[.string (⟨#[]⟩:ByteArray),.int .i64 0,.int .i64 0,.string (⟨#[]⟩:ByteArray)] (0,0) _ rfl (by (with_reducible repeat (first|refine kdN ?_ _|refine kd ?_|refine ka ?_ _));refine blk_put (cs:=#[.string (⟨#[]⟩:ByteArray),.int .i64 0,.int .i64 0,.string (⟨#[]⟩:ByteArray)]) ?_ 3 _ rfl;(with_reducible repeat (first|refine kdN ?_ _|refine kd ?_|refine ka ?_ _));refine blk_put (cs:=#[.string (⟨#[]⟩:ByteArray),.int .i64 0,.int .i64 0,.string (⟨#[]⟩:ByteArray)]) ?_ 2 _ rfl;(with_reducible repeat (first|refine kdN ?_ _|refine kd ?_|refine ka ?_ _));refine blk_put (cs:=#[.string (⟨#[]⟩:ByteArray),.int .i64 0,.int .i64 0,.string (⟨#[]⟩:ByteArray)]) ?_ 1 _ rfl;(with_reducible repeat (first|refine kdN ?_ _|refine kd ?_|refine ka ?_ _));refine blk_put (cs:=#[.string (⟨#[]⟩:ByteArray),.int .i64 0,.int .i64 0,.string (⟨#[]⟩:ByteArray)]) ?_ 0 _ rfl;(with_reducible repeat (first|refine kdN ?_ _|refine kd ?_|refine ka ?_ _));exact BK320.out) Tryd.underlying28 rfl (by kernel_rfl)) rfl ?_
     exact ⟨by first|rfl|(simp [errW_none,errW_some]<;>rfl)|(simp [*,errW_none,errW_some]<;>rfl),by repeat (first|(with_reducible first|exact HB.out|apply bwa|apply pbN|apply bw1|refine bws ?_ GE319.out|refine bws ?_ GE320.out)|exact HB.out)⟩
   replace c21:=Bool.eq_false_iff.mpr c21
   subst c21
   have H1:((spec_l4First.f kj3 l0_0 l0_1 a1 a2 0 (⟨#[]⟩:ByteArray)).bind fun bt324=>(if bt324.1 < 0 then (some ((⟨#[]⟩:ByteArray),0,0,(⟨#[]⟩:ByteArray),0,false)) else (if 0≤bt324.1 then (if bt324.1 < (l0_1.length:Int) then (some ((rd_T77 l0_1 bt324.1).f0.f0,(rd_T77 l0_1 bt324.1).f0.f1,(rd_T77 l0_1 bt324.1).f0.f2,(rd_T77 l0_1 bt324.1).f0.f3,bt324.2,true)) else (none)) else (none))))=some (r1,r2,r3,r4,r5,r6):=by rw [if_neg (show ¬ (false=true) by decide)] at H;exact H
   clear H
   have H:=H1
   clear H1
   replace H:=Option.bind_eq_some_iff.mp H
   obtain ⟨⟨t324,t325⟩,A240,H⟩:=H
   replace H:(if t324 < 0 then (some ((⟨#[]⟩:ByteArray),0,0,(⟨#[]⟩:ByteArray),0,false)) else (if 0≤t324 then (if t324 < (l0_1.length:Int) then (some ((rd_T77 l0_1 t324).f0.f0,(rd_T77 l0_1 t324).f0.f1,(rd_T77 l0_1 t324).f0.f2,(rd_T77 l0_1 t324).f0.f3,t325,true)) else (none)) else (none)))=some (r1,r2,r3,r4,r5,r6):=H
   have A24:=AsZ.mk A240
   clear A240
   by_cases c25:t324 < 0
   · rw [if_pos c25] at H
     have c25b0:decide (t324 < 0)=true:=zE c25
     clear c25
     simp only [Option.some.injEq,Prod.mk.injEq] at H
     obtain ⟨rfl,rfl,rfl,rfl,rfl,rfl⟩:=H
     have hnb26:=NB319_320.out
     have hnc26:=NB320_319.out
     have hcz27_0:wc.cell? ⟨gb319,0,none⟩=some (.slice A0_0 l0_0.length c0_0):=(kc BK319.out 0).trans rfl
     have hcz27_1:wc.cell? ⟨gb319,1,none⟩=some (.slice A0_1 l0_1.length c0_1):=(kc BK319.out 1).trans rfl
     have hfz27_0:=kf BK319.out 0
     have hfz27_1:=kf BK319.out 1
     go_wp2_with (first|((with_reducible refine gcl (f:=46) rfl ?_);refine goesL_ (some 30) rfl rfl Tryd.func46 (by kernel_rfl) rfl #[.agg #[.slice A0_0 l0_0.length c0_0,.slice A0_1 l0_1.length c0_1],.agg #[.string a1,.int .i64 a2,.int .i64 0,.string (⟨#[]⟩:ByteArray)]] rfl (by (try simp only [zA,zC,zN]);first|done|rfl|(simp only [zM,zL];rfl)) ?_;(with_reducible refine (spec_l4First.calls kj3 _ _ l0_0 _ _ l0_1 a1 a2 0 (⟨#[]⟩:ByteArray) t324 t325 _ ?side1 ?side2 ?side3 ?side4 A24.out).mono ?_);(case side1=>repeat (first|exact (Kd.C_below HR0_0.out HB.out)|(with_reducible refine Kd.C_alloc ?_ _)|(with_reducible refine Kd.C_drewN ?_ _)|(with_reducible refine Kd.C_drew ?_)));(case side2=>exact HC0_0.out);(case side3=>repeat (first|exact (Kd.C_below HR0_1.out HB.out)|(with_reducible refine Kd.C_alloc ?_ _)|(with_reducible refine Kd.C_drewN ?_ _)|(with_reducible refine Kd.C_drew ?_)));(case side4=>exact HC0_1.out);rintro e w28 ⟨rfl,hb⟩;refine ⟨_,rfl,?_⟩;have n0_:=AsZ.mk (kb (g:=gb319) (o := .cells #[.slice A0_0 l0_0.length c0_0,.slice A0_1 l0_1.length c0_1] 26 (0,0)) (by (with_reducible repeat (first|refine kdN ?_ _|refine kd ?_|refine ka ?_ _));exact BK319.out) hb);have n1_:=AsZ.mk (kb (g:=gb320) (o := .cells #[.string (⟨#[]⟩:ByteArray),.int .i64 0,.int .i64 0,.string (⟨#[]⟩:ByteArray)] 28 (0,0)) (by (with_reducible repeat (first|refine kdN ?_ _|refine kd ?_|refine ka ?_ _));exact BK320.out) hb);have n2_:=AsZ.mk (bwp (by repeat (first|(with_reducible first|exact HB.out|apply bwa|apply pbN|apply bw1|refine bws ?_ GE319.out|refine bws ?_ GE320.out)|exact HB.out)) hb);clear BK319;clear BK320;clear HB;have BK319:=n0_;have BK320:=n1_;have HB:=n2_;clear n0_ n1_ n2_;(try clear hb);(try clear hb2);(try clear hk);(try clear hi);have hcz29_0:w28.cell? ⟨gb320,0,none⟩=some (.string (⟨#[]⟩:ByteArray)):=(kc BK320.out 0).trans rfl;have hcz29_1:w28.cell? ⟨gb320,1,none⟩=some (.int .i64 0):=(kc BK320.out 1).trans rfl;have hcz29_2:w28.cell? ⟨gb320,2,none⟩=some (.int .i64 0):=(kc BK320.out 2).trans rfl;have hcz29_3:w28.cell? ⟨gb320,3,none⟩=some (.string (⟨#[]⟩:ByteArray)):=(kc BK320.out 3).trans rfl;have hfz29_0:=kf BK320.out 0;have hfz29_1:=kf BK320.out 1;have hfz29_2:=kf BK320.out 2;have hfz29_3:=kf BK320.out 3))
     refine bodyPost_ret (results_ctt rfl _ _ gb320 28 #[.string (⟨#[]⟩:ByteArray),.int .i64 0,.int .i64 0,.string (⟨#[]⟩:ByteArray)] (0,0) _ rfl (by (with_reducible repeat (first|refine kdN ?_ _|refine kd ?_|refine ka ?_ _));refine blk_put (cs:=#[.string (⟨#[]⟩:ByteArray),.int .i64 0,.int .i64 0,.string (⟨#[]⟩:ByteArray)]) ?_ 3 _ rfl;(with_reducible repeat (first|refine kdN ?_ _|refine kd ?_|refine ka ?_ _));refine blk_put (cs:=#[.string (⟨#[]⟩:ByteArray),.int .i64 0,.int .i64 0,.string (⟨#[]⟩:ByteArray)]) ?_ 2 _ rfl;(with_reducible repeat (first|refine kdN ?_ _|refine kd ?_|refine ka ?_ _));refine blk_put (cs:=#[.string (⟨#[]⟩:ByteArray),.int .i64 0,.int .i64 0,.string (⟨#[]⟩:ByteArray)]) ?_ 1 _ rfl;(with_reducible repeat (first|refine kdN ?_ _|refine kd ?_|refine ka ?_ _));refine blk_put (cs:=#[.string (⟨#[]⟩:ByteArray),.int .i64 0,.int .i64 0,.string (⟨#[]⟩:ByteArray)]) ?_ 0 _ rfl;(with_reducible repeat (first|refine kdN ?_ _|refine kd ?_|refine ka ?_ _));exact BK320.out) Tryd.underlying28 rfl (by kernel_rfl)) rfl ?_
     exact ⟨by first|rfl|(simp [errW_none,errW_some]<;>rfl)|(simp [*,errW_none,errW_some]<;>rfl),by repeat (first|(with_reducible first|exact HB.out|apply bwa|apply pbN|apply bw1|refine bws ?_ GE319.out|refine bws ?_ GE320.out)|exact HB.out)⟩
   rw [if_neg c25] at H
   have c25b0:decide (t324 < 0)=false:=decide_eq_false c25
   clear c25
   by_cases c30:0≤t324
   rotate_left
   · rw [if_neg c30] at H
     exact absurd H (by simp)
   rw [if_pos c30] at H
   have c30b0:decide (0≤t324)=true:=zE c30
   clear c30
   by_cases c31:t324 < (l0_1.length:Int)
   rotate_left
   · rw [if_neg c31] at H
     exact absurd H (by simp)
   rw [if_pos c31] at H
   have c31b0:decide (t324 < (l0_1.length:Int))=true:=zE c31
   clear c31
   simp only [Option.some.injEq,Prod.mk.injEq] at H
   obtain ⟨rfl,rfl,rfl,rfl,rfl,rfl⟩:=H
   have hnb32:=NB319_320.out
   have hnc32:=NB320_319.out
   have hcz33_0:wc.cell? ⟨gb319,0,none⟩=some (.slice A0_0 l0_0.length c0_0):=(kc BK319.out 0).trans rfl
   have hcz33_1:wc.cell? ⟨gb319,1,none⟩=some (.slice A0_1 l0_1.length c0_1):=(kc BK319.out 1).trans rfl
   have hfz33_0:=kf BK319.out 0
   have hfz33_1:=kf BK319.out 1
   go_wp2_with (first|((with_reducible refine gcl (f:=46) rfl ?_);refine goesL_ (some 30) rfl rfl Tryd.func46 (by kernel_rfl) rfl #[.agg #[.slice A0_0 l0_0.length c0_0,.slice A0_1 l0_1.length c0_1],.agg #[.string a1,.int .i64 a2,.int .i64 0,.string (⟨#[]⟩:ByteArray)]] rfl (by (try simp only [zA,zC,zN]);first|done|rfl|(simp only [zM,zL];rfl)) ?_;(with_reducible refine (spec_l4First.calls kj3 _ _ l0_0 _ _ l0_1 a1 a2 0 (⟨#[]⟩:ByteArray) t324 t325 _ ?side1 ?side2 ?side3 ?side4 A24.out).mono ?_);(case side1=>repeat (first|exact (Kd.C_below HR0_0.out HB.out)|(with_reducible refine Kd.C_alloc ?_ _)|(with_reducible refine Kd.C_drewN ?_ _)|(with_reducible refine Kd.C_drew ?_)));(case side2=>exact HC0_0.out);(case side3=>repeat (first|exact (Kd.C_below HR0_1.out HB.out)|(with_reducible refine Kd.C_alloc ?_ _)|(with_reducible refine Kd.C_drewN ?_ _)|(with_reducible refine Kd.C_drew ?_)));(case side4=>exact HC0_1.out);rintro e w34 ⟨rfl,hb⟩;refine ⟨_,rfl,?_⟩;have n0_:=AsZ.mk (kb (g:=gb319) (o := .cells #[.slice A0_0 l0_0.length c0_0,.slice A0_1 l0_1.length c0_1] 26 (0,0)) (by (with_reducible repeat (first|refine kdN ?_ _|refine kd ?_|refine ka ?_ _));exact BK319.out) hb);have n1_:=AsZ.mk (kb (g:=gb320) (o := .cells #[.string (⟨#[]⟩:ByteArray),.int .i64 0,.int .i64 0,.string (⟨#[]⟩:ByteArray)] 28 (0,0)) (by (with_reducible repeat (first|refine kdN ?_ _|refine kd ?_|refine ka ?_ _));exact BK320.out) hb);have n2_:=AsZ.mk (bwp (by repeat (first|(with_reducible first|exact HB.out|apply bwa|apply pbN|apply bw1|refine bws ?_ GE319.out|refine bws ?_ GE320.out)|exact HB.out)) hb);clear BK319;clear BK320;clear HB;have BK319:=n0_;have BK320:=n1_;have HB:=n2_;clear n0_ n1_ n2_;(try clear hb);(try clear hb2);(try clear hk);(try clear hi);have hcz35_0:w34.cell? ⟨gb319,0,none⟩=some (.slice A0_0 l0_0.length c0_0):=(kc BK319.out 0).trans rfl;have hcz35_1:w34.cell? ⟨gb319,1,none⟩=some (.slice A0_1 l0_1.length c0_1):=(kc BK319.out 1).trans rfl;have hfz35_0:=kf BK319.out 0;have hfz35_1:=kf BK319.out 1;have p326:0≤(t324:Int):=zD (by first|(with_reducible assumption)|assumption);have q326:t324 < (l0_1.length:Int):=zD (by first|(with_reducible assumption)|assumption);obtain ⟨ad326,A326_4,c326_4,e326,hx326_0,hx326_1,hx326_2,hx326_3,hx326_4,hl326_4,hi326_4⟩:=at_T77 HR0_1.out t324 p326 q326;cases e326;replace hx326_0:=(HB.out.cell (zB w _ hx326_0)).trans hx326_0;replace hx326_1:=(HB.out.cell (zB w _ hx326_1)).trans hx326_1;replace hx326_2:=(HB.out.cell (zB w _ hx326_2)).trans hx326_2;replace hx326_3:=(HB.out.cell (zB w _ hx326_3)).trans hx326_3;replace hx326_4:=(HB.out.cell (zB w _ hx326_4)).trans hx326_4;have HR326_4:=AsZ.mk hi326_4;have HC326_4:=AsZ.mk hl326_4;clear hi326_4 hl326_4;replace p326:=eq_true p326;replace q326:=eq_true q326;have hcz36_0:w34.cell? ⟨gb320,0,none⟩=some (.string (⟨#[]⟩:ByteArray)):=(kc BK320.out 0).trans rfl;have hcz36_1:w34.cell? ⟨gb320,1,none⟩=some (.int .i64 0):=(kc BK320.out 1).trans rfl;have hcz36_2:w34.cell? ⟨gb320,2,none⟩=some (.int .i64 0):=(kc BK320.out 2).trans rfl;have hcz36_3:w34.cell? ⟨gb320,3,none⟩=some (.string (⟨#[]⟩:ByteArray)):=(kc BK320.out 3).trans rfl;have hfz36_0:=kf BK320.out 0;have hfz36_1:=kf BK320.out 1;have hfz36_2:=kf BK320.out 2;have hfz36_3:=kf BK320.out 3))
   refine bodyPost_ret (results_ctt rfl _ _ gb320 28 #[.string ((rd_T77 l0_1 t324).f0.f0),.int .i64 ((rd_T77 l0_1 t324).f0.f1),.int .i64 ((rd_T77 l0_1 t324).f0.f2),.string ((rd_T77 l0_1 t324).f0.f3)] (0,0) _ rfl (by (with_reducible repeat (first|refine kdN ?_ _|refine kd ?_|refine ka ?_ _));refine blk_put (cs:=#[.string ((rd_T77 l0_1 t324).f0.f0),.int .i64 ((rd_T77 l0_1 t324).f0.f1),.int .i64 ((rd_T77 l0_1 t324).f0.f2),.string (⟨#[]⟩:ByteArray)]) ?_ 3 _ rfl;(with_reducible repeat (first|refine kdN ?_ _|refine kd ?_|refine ka ?_ _));refine blk_put (cs:=#[.string ((rd_T77 l0_1 t324).f0.f0),.int .i64 ((rd_T77 l0_1 t324).f0.f1),.int .i64 0,.string (⟨#[]⟩:ByteArray)]) ?_ 2 _ rfl;(with_reducible repeat (first|refine kdN ?_ _|refine kd ?_|refine ka ?_ _));refine blk_put (cs:=#[.string ((rd_T77 l0_1 t324).f0.f0),.int .i64 0,.int .i64 0,.string (⟨#[]⟩:ByteArray)]) ?_ 1 _ rfl;(with_reducible repeat (first|refine kdN ?_ _|refine kd ?_|refine ka ?_ _));refine blk_put (cs:=#[.string (⟨#[]⟩:ByteArray),.int .i64 0,.int .i64 0,.string (⟨#[]⟩:ByteArray)]) ?_ 0 _ rfl;(with_reducible repeat (first|refine kdN ?_ _|refine kd ?_|refine ka ?_ _));exact BK320.out) Tryd.underlying28 rfl (by kernel_rfl)) rfl ?_
   exact ⟨by first|rfl|(simp [errW_none,errW_some]<;>rfl)|(simp [*,errW_none,errW_some]<;>rfl),by repeat (first|(with_reducible first|exact HB.out|apply bwa|apply pbN|apply bw1|refine bws ?_ GE319.out|refine bws ?_ GE320.out)|exact HB.out)⟩
/-! ### spec_FindSkip: function 36 -/
def spec_FindSkip.j0:Nat→Bool→ByteArray→Int→Int→ByteArray→Option (ByteArray × Int × Int × ByteArray × Bool)
  |0,_,_,_,_,_=>none
  |k + 1,x26,x336000,x336001,x336002,x336003=>if x26=true then (some ((⟨#[]⟩:ByteArray),0,0,(⟨#[]⟩:ByteArray),false)) else (some (x336000,x336001,x336002,x336003,true))
def spec_FindSkip.f (k:Nat) (l0_0:List Int) (l0_1:List (S77)) (a1:ByteArray) (a2:Int):Option (ByteArray × Int × Int × ByteArray × Bool):=(spec_SeekSkip.f k l0_0 l0_1 a1 a2).bind fun bt329=>(if bt329.2.2.2.2.2=true then (spec_FindSkip.j0 k (bt329.1.toList != a1.toList) bt329.1 bt329.2.1 bt329.2.2.1 bt329.2.2.2.1) else (spec_FindSkip.j0 k true bt329.1 bt329.2.1 bt329.2.2.1 bt329.2.2.2.1))
theorem spec_FindSkip.mono_l:∀ k,(∀ y0 y1 y2 y3 y4,LeO (spec_FindSkip.j0 k y0 y1 y2 y3 y4) (spec_FindSkip.j0 (k + 1) y0 y1 y2 y3 y4))
  |0=>fun _ _ _ _ _ r h=>by simp [spec_FindSkip.j0] at h
  |k + 1=>by
    have ih0:=spec_FindSkip.mono_l k
    · intro y0 y1 y2 y3 y4
      unfold spec_FindSkip.j0
      repeat' first
      |(with_reducible exact ih0 _ _ _ _ _)
      |(with_reducible exact spec_SeekSkip.mono _ _ _ _ _)
      |(with_reducible exact LeO.refl _)
      |(with_reducible exact LeO.none _)
      |(with_reducible refine LeO.ite ?_ ?_)
      |(with_reducible refine LeO.bind ?_ (fun _=>?_))
      |exact ih0 _ _ _ _ _
      |exact spec_SeekSkip.mono _ _ _ _ _
      |exact LeO.none _
      |refine LeO.ite ?_ ?_
      |refine LeO.bind ?_ (fun _=>?_)
theorem spec_FindSkip.mono:∀ a0 a1 a2 a3 k,LeO (spec_FindSkip.f k a0 a1 a2 a3) (spec_FindSkip.f (k + 1) a0 a1 a2 a3):=by
  intro a0 a1 a2 a3 k
  have ih0:=spec_FindSkip.mono_l k
  unfold spec_FindSkip.f
  repeat' first
      |(with_reducible exact ih0 _ _ _ _ _)
      |(with_reducible exact spec_SeekSkip.mono _ _ _ _ _)
      |(with_reducible exact LeO.refl _)
      |(with_reducible exact LeO.none _)
      |(with_reducible refine LeO.ite ?_ ?_)
      |(with_reducible refine LeO.bind ?_ (fun _=>?_))
      |exact ih0 _ _ _ _ _
      |exact spec_SeekSkip.mono _ _ _ _ _
      |exact LeO.none _
      |refine LeO.ite ?_ ?_
      |refine LeO.bind ?_ (fun _=>?_)
set_option maxHeartbeats 8000000 in
set_option maxRecDepth 100000 in
theorem spec_FindSkip.calls (k:Nat) (A0_0:Option Addr) (c0_0:Nat) (l0_0:List Int) (A0_1:Option Addr) (c0_1:Nat) (l0_1:List (S77)) (a1:ByteArray) (a2:Int) (r1:ByteArray) (r2:Int) (r3:Int) (r4:ByteArray) (r5:Bool) (w:World) (hr0_0:Kd.C (Kd.int .i64) w A0_0 l0_0.length l0_0) (hc0_0:l0_0.length≤c0_0) (hr0_1:Kd.C k77 w A0_1 l0_1.length l0_1) (hc0_1:l0_1.length≤c0_1) (h:spec_FindSkip.f k l0_0 l0_1 a1 a2=some (r1,r2,r3,r4,r5)) :
    Calls Tryd.prog 36 #[.agg #[.slice A0_0 l0_0.length c0_0,.slice A0_1 l0_1.length c0_1],.string a1,.int .i64 a2] w fun e w'=>e = .returned (.tuple #[.agg #[.string r1,.int .i64 r2,.int .i64 r3,.string r4],.bool r5])∧Below w.heap.size w w':=by
 have hu26:=Tryd.underlying26
 have hu28:=Tryd.underlying28
 have HR0_0:=AsZ.mk hr0_0
 have HC0_0:=AsZ.mk hc0_0
 clear hr0_0 hc0_0
 have HR0_1:=AsZ.mk hr0_1
 have HC0_1:=AsZ.mk hc0_1
 clear hr0_1 hc0_1
 have HB:=AsZ.mk (Below.refl w.heap.size w)
 have H:((spec_SeekSkip.f k l0_0 l0_1 a1 a2).bind fun bt329=>(if bt329.2.2.2.2.2=true then (spec_FindSkip.j0 k (bt329.1.toList != a1.toList) bt329.1 bt329.2.1 bt329.2.2.1 bt329.2.2.2.1) else (spec_FindSkip.j0 k true bt329.1 bt329.2.1 bt329.2.2.1 bt329.2.2.2.1)))=some (r1,r2,r3,r4,r5):=h
 clear h
 replace H:=Option.bind_eq_some_iff.mp H
 obtain ⟨⟨t329,t330,t331,t332,t333,t334⟩,A40,H⟩:=H
 replace H:(if t334=true then (spec_FindSkip.j0 k (t329.toList != a1.toList) t329 t330 t331 t332) else (spec_FindSkip.j0 k true t329 t330 t331 t332))=some (r1,r2,r3,r4,r5):=H
 have A4:=AsZ.mk A40
 clear A40
 have HC5:=AsZ.mk H
 clear H
 go_enter Tryd.func36,Tryd.ntmps36
 go_upto_region 2 with (first|((with_reducible refine gate_dst (N:=3) rfl ?_);refine box_event ?hg (N:=3) ?hd (cs:=#[.slice A0_0 l0_0.length c0_0,.slice A0_1 l0_1.length c0_1]) (t:=26) ?hr ?_;(case hd=>rfl);(case hg=>rfl);(case hr=>first|(go_simp;done)|(go_simp;rfl));intro gb327 hg w6 hbox hb;have n0_:=AsZ.mk (bwp (by repeat (first|(with_reducible first|exact HB.out|apply bwa|apply pbN|apply bw1)|exact HB.out)) hb);have n1_:=AsZ.mk (hbox);have n2_:=AsZ.mk ((by rw [hg];exact (bwz (by repeat (first|(with_reducible first|exact HB.out|apply bwa|apply pbN|apply bw1)|exact HB.out))):w.heap.size≤gb327));have n3_:=AsZ.mk ((by rw [hg];exact (bwz (by repeat (first|(with_reducible first|exact HB.out|apply bwa|apply pbN|apply bw1)|exact HB.out))):w.heap.size≤gb327));clear HB;have HB:=n0_;have BK327:=n1_;have GW327:=n2_;have GE327:=n3_;clear n0_ n1_ n2_ n3_;clear hb hbox hg)|((with_reducible refine gate_dst (N:=6) rfl ?_);refine box_event ?hg (N:=6) ?hd (cs:=#[.string (⟨#[]⟩:ByteArray),.int .i64 0,.int .i64 0,.string (⟨#[]⟩:ByteArray)]) (t:=28) ?hr ?_;(case hd=>rfl);(case hg=>rfl);(case hr=>first|(go_simp;done)|(go_simp;rfl));intro gb328 hg w7 hbox hb;have n0_:=AsZ.mk (kb (g:=gb327) (o := .cells #[.slice A0_0 l0_0.length c0_0,.slice A0_1 l0_1.length c0_1] 26 (0,0)) (by (with_reducible repeat (first|refine kdN ?_ _|refine kd ?_|refine ka ?_ _));exact BK327.out) hb);have n1_:=AsZ.mk (bwp (by repeat (first|(with_reducible first|exact HB.out|apply bwa|apply pbN|apply bw1|refine bws ?_ GE327.out)|exact HB.out)) hb);have n2_:=AsZ.mk (hbox);have n3_:=AsZ.mk ((by rw [hg];exact (bwz (by repeat (first|(with_reducible first|exact HB.out|apply bwa|apply pbN|apply bw1|refine bws ?_ GE327.out)|exact HB.out))):w.heap.size≤gb328));have n4_:=AsZ.mk ((by rw [hg];exact (bwz (by repeat (first|(with_reducible first|exact HB.out|apply bwa|apply pbN|apply bw1|refine bws ?_ GE327.out)|exact HB.out))):w.heap.size≤gb328));have n5_:=AsZ.mk ((by rw [hg];exact Nat.ne_of_lt (blk_lt (g:=gb327) (o := .cells #[.slice A0_0 l0_0.length c0_0,.slice A0_1 l0_1.length c0_1] 26 (0,0)) (by (with_reducible repeat (first|refine kdN ?_ _|refine kd ?_|refine ka ?_ _));exact BK327.out)):gb327 ≠ gb328));have n6_:=AsZ.mk ((by rw [hg];exact Nat.ne_of_gt (blk_lt (g:=gb327) (o := .cells #[.slice A0_0 l0_0.length c0_0,.slice A0_1 l0_1.length c0_1] 26 (0,0)) (by (with_reducible repeat (first|refine kdN ?_ _|refine kd ?_|refine ka ?_ _));exact BK327.out)):gb328 ≠ gb327));clear BK327;clear HB;have BK327:=n0_;have HB:=n1_;have BK328:=n2_;have GW328:=n3_;have GE328:=n4_;have NB327_328:=n5_;have NB328_327:=n6_;clear n0_ n1_ n2_ n3_ n4_ n5_ n6_;clear hb hbox hg;have hnb8:=NB327_328.out;have hnc8:=NB328_327.out;have hcz9_0:w7.cell? ⟨gb327,0,none⟩=some (.slice A0_0 l0_0.length c0_0):=(kc BK327.out 0).trans rfl;have hcz9_1:w7.cell? ⟨gb327,1,none⟩=some (.slice A0_1 l0_1.length c0_1):=(kc BK327.out 1).trans rfl;have hfz9_0:=kf BK327.out 0;have hfz9_1:=kf BK327.out 1)|((with_reducible refine gcl (f:=31) rfl ?_);refine goesL_ (some 15) rfl rfl Tryd.func31 (by kernel_rfl) rfl #[.agg #[.slice A0_0 l0_0.length c0_0,.slice A0_1 l0_1.length c0_1],.string a1,.int .i64 a2] rfl (by (try simp only [zA,zC,zN]);first|done|rfl|(simp only [zM,zL];rfl)) ?_;(with_reducible refine (spec_SeekSkip.calls k _ _ l0_0 _ _ l0_1 a1 a2 t329 t330 t331 t332 t333 t334 _ ?side1 ?side2 ?side3 ?side4 A4.out).mono ?_);(case side1=>repeat (first|exact (Kd.C_below HR0_0.out HB.out)|(with_reducible refine Kd.C_alloc ?_ _)|(with_reducible refine Kd.C_drewN ?_ _)|(with_reducible refine Kd.C_drew ?_)));(case side2=>exact HC0_0.out);(case side3=>repeat (first|exact (Kd.C_below HR0_1.out HB.out)|(with_reducible refine Kd.C_alloc ?_ _)|(with_reducible refine Kd.C_drewN ?_ _)|(with_reducible refine Kd.C_drew ?_)));(case side4=>exact HC0_1.out);rintro e w10 ⟨rfl,hb⟩;refine ⟨_,rfl,?_⟩;have n0_:=AsZ.mk (kb (g:=gb327) (o := .cells #[.slice A0_0 l0_0.length c0_0,.slice A0_1 l0_1.length c0_1] 26 (0,0)) (by (with_reducible repeat (first|refine kdN ?_ _|refine kd ?_|refine ka ?_ _));exact BK327.out) hb);have n1_:=AsZ.mk (kb (g:=gb328) (o := .cells #[.string (⟨#[]⟩:ByteArray),.int .i64 0,.int .i64 0,.string (⟨#[]⟩:ByteArray)] 28 (0,0)) (by (with_reducible repeat (first|refine kdN ?_ _|refine kd ?_|refine ka ?_ _));exact BK328.out) hb);have n2_:=AsZ.mk (bwp (by repeat (first|(with_reducible first|exact HB.out|apply bwa|apply pbN|apply bw1|refine bws ?_ GE327.out|refine bws ?_ GE328.out)|exact HB.out)) hb);clear BK327;clear BK328;clear HB;have BK327:=n0_;have BK328:=n1_;have HB:=n2_;clear n0_ n1_ n2_;(try clear hb);(try clear hb2);(try clear hk);(try clear hi))|((with_reducible refine gate_dst (N:=8) rfl ?_);refine box_event ?hg (N:=8) ?hd (cs:=#[.string (⟨#[]⟩:ByteArray),.int .i64 0,.int .i64 0,.string (⟨#[]⟩:ByteArray)]) (t:=28) ?hr ?_;(case hd=>rfl);(case hg=>rfl);(case hr=>first|(go_simp;done)|(go_simp;rfl));intro gb335 hg w11 hbox hb;have n0_:=AsZ.mk (kb (g:=gb327) (o := .cells #[.slice A0_0 l0_0.length c0_0,.slice A0_1 l0_1.length c0_1] 26 (0,0)) (by (with_reducible repeat (first|refine kdN ?_ _|refine kd ?_|refine ka ?_ _));exact BK327.out) hb);have n1_:=AsZ.mk (kb (g:=gb328) (o := .cells #[.string (⟨#[]⟩:ByteArray),.int .i64 0,.int .i64 0,.string (⟨#[]⟩:ByteArray)] 28 (0,0)) (by (with_reducible repeat (first|refine kdN ?_ _|refine kd ?_|refine ka ?_ _));exact BK328.out) hb);have n2_:=AsZ.mk (bwp (by repeat (first|(with_reducible first|exact HB.out|apply bwa|apply pbN|apply bw1|refine bws ?_ GE327.out|refine bws ?_ GE328.out)|exact HB.out)) hb);have n3_:=AsZ.mk (hbox);have n4_:=AsZ.mk ((by rw [hg];exact (bwz (by repeat (first|(with_reducible first|exact HB.out|apply bwa|apply pbN|apply bw1|refine bws ?_ GE327.out|refine bws ?_ GE328.out)|exact HB.out))):w.heap.size≤gb335));have n5_:=AsZ.mk ((by rw [hg];exact (bwz (by repeat (first|(with_reducible first|exact HB.out|apply bwa|apply pbN|apply bw1|refine bws ?_ GE327.out|refine bws ?_ GE328.out)|exact HB.out))):w.heap.size≤gb335));have n6_:=AsZ.mk ((by rw [hg];exact Nat.ne_of_lt (blk_lt (g:=gb327) (o := .cells #[.slice A0_0 l0_0.length c0_0,.slice A0_1 l0_1.length c0_1] 26 (0,0)) (by (with_reducible repeat (first|refine kdN ?_ _|refine kd ?_|refine ka ?_ _));exact BK327.out)):gb327 ≠ gb335));have n7_:=AsZ.mk ((by rw [hg];exact Nat.ne_of_gt (blk_lt (g:=gb327) (o := .cells #[.slice A0_0 l0_0.length c0_0,.slice A0_1 l0_1.length c0_1] 26 (0,0)) (by (with_reducible repeat (first|refine kdN ?_ _|refine kd ?_|refine ka ?_ _));exact BK327.out)):gb335 ≠ gb327));have n8_:=AsZ.mk ((by rw [hg];exact Nat.ne_of_lt (blk_lt (g:=gb328) (o := .cells #[.string (⟨#[]⟩:ByteArray),.int .i64 0,.int .i64 0,.string (⟨#[]⟩:ByteArray)] 28 (0,0)) (by (with_reducible repeat (first|refine kdN ?_ _|refine kd ?_|refine ka ?_ _));exact BK328.out)):gb328 ≠ gb335));have n9_:=AsZ.mk ((by rw [hg];exact Nat.ne_of_gt (blk_lt (g:=gb328) (o := .cells #[.string (⟨#[]⟩:ByteArray),.int .i64 0,.int .i64 0,.string (⟨#[]⟩:ByteArray)] 28 (0,0)) (by (with_reducible repeat (first|refine kdN ?_ _|refine kd ?_|refine ka ?_ _));exact BK328.out)):gb335 ≠ gb328));clear BK327;clear BK328;clear HB;have BK327:=n0_;have BK328:=n1_;have HB:=n2_;have BK335:=n3_;have GW335:=n4_;have GE335:=n5_;have NB327_335:=n6_;have NB335_327:=n7_;have NB328_335:=n8_;have NB335_328:=n9_;clear n0_ n1_ n2_ n3_ n4_ n5_ n6_ n7_ n8_ n9_;clear hb hbox hg;have hnb12:=NB335_327.out;have hnc12:=NB327_335.out;have hnb13:=NB335_328.out;have hnc13:=NB328_335.out;have hcz14_0:w11.cell? ⟨gb335,0,none⟩=some (.string (⟨#[]⟩:ByteArray)):=(kc BK335.out 0).trans rfl;have hcz14_1:w11.cell? ⟨gb335,1,none⟩=some (.int .i64 0):=(kc BK335.out 1).trans rfl;have hcz14_2:w11.cell? ⟨gb335,2,none⟩=some (.int .i64 0):=(kc BK335.out 2).trans rfl;have hcz14_3:w11.cell? ⟨gb335,3,none⟩=some (.string (⟨#[]⟩:ByteArray)):=(kc BK335.out 3).trans rfl;have hfz14_0:=kf BK335.out 0;have hfz14_1:=kf BK335.out 1;have hfz14_2:=kf BK335.out 2;have hfz14_3:=kf BK335.out 3))
 (try simp only [Act.put,zS,zT,zU])
 go_cut [26] (fun v26 wc => ∃ (kq:Nat) (x26_4:Bool),v26 = .bool x26_4∧AsZ (spec_FindSkip.j0 kq x26_4 t329 t330 t331 t332=some (r1,r2,r3,r4,r5))∧AsZ (kq≤k)∧AsZ (wc.heap[gb327]? = some (.cells #[(.slice A0_0 l0_0.length c0_0),(.slice A0_1 l0_1.length c0_1)] 26 (0,0)))∧AsZ (wc.heap[gb328]? = some (.cells #[.string (⟨#[]⟩:ByteArray),.int .i64 0,.int .i64 0,.string (⟨#[]⟩:ByteArray)] 28 (0,0)))∧AsZ (wc.heap[gb335]? = some (.cells #[.string t329,.int .i64 t330,.int .i64 t331,.string t332] 28 (0,0)))∧AsZ (Below w.heap.size w wc))
 case first =>
  have H:=HC5.out
  clear HC5
  by_cases c15:t334=true
  rotate_left
  · replace c15:=Bool.eq_false_iff.mpr c15
    subst c15
    have H1:(spec_FindSkip.j0 k true t329 t330 t331 t332)=some (r1,r2,r3,r4,r5):=by rw [if_neg (show ¬ (false=true) by decide)] at H;exact H
    clear H
    have H:=H1
    clear H1
    have H':=AsZ.mk H
    clear H
    go_wp2
    go_meet
    case rel=>exact ⟨_,(true),(by first|rfl|(simp;done)|(simp [*];done)),H',⟨by first|omega|exact Nat.le_refl _⟩,⟨by (with_reducible repeat (first|refine kdN ?_ _|refine kd ?_|refine ka ?_ _));refine blk_far ?_ NB327_335.out _;(with_reducible repeat (first|refine kdN ?_ _|refine kd ?_|refine ka ?_ _));refine blk_far ?_ NB327_335.out _;(with_reducible repeat (first|refine kdN ?_ _|refine kd ?_|refine ka ?_ _));refine blk_far ?_ NB327_335.out _;(with_reducible repeat (first|refine kdN ?_ _|refine kd ?_|refine ka ?_ _));refine blk_far ?_ NB327_335.out _;(with_reducible repeat (first|refine kdN ?_ _|refine kd ?_|refine ka ?_ _));exact BK327.out⟩,⟨by (with_reducible repeat (first|refine kdN ?_ _|refine kd ?_|refine ka ?_ _));refine blk_far ?_ NB328_335.out _;(with_reducible repeat (first|refine kdN ?_ _|refine kd ?_|refine ka ?_ _));refine blk_far ?_ NB328_335.out _;(with_reducible repeat (first|refine kdN ?_ _|refine kd ?_|refine ka ?_ _));refine blk_far ?_ NB328_335.out _;(with_reducible repeat (first|refine kdN ?_ _|refine kd ?_|refine ka ?_ _));refine blk_far ?_ NB328_335.out _;(with_reducible repeat (first|refine kdN ?_ _|refine kd ?_|refine ka ?_ _));exact BK328.out⟩,⟨by (with_reducible repeat (first|refine kdN ?_ _|refine kd ?_|refine ka ?_ _));refine blk_put (cs:=#[.string t329,.int .i64 t330,.int .i64 t331,.string (⟨#[]⟩:ByteArray)]) ?_ 3 _ rfl;(with_reducible repeat (first|refine kdN ?_ _|refine kd ?_|refine ka ?_ _));refine blk_put (cs:=#[.string t329,.int .i64 t330,.int .i64 0,.string (⟨#[]⟩:ByteArray)]) ?_ 2 _ rfl;(with_reducible repeat (first|refine kdN ?_ _|refine kd ?_|refine ka ?_ _));refine blk_put (cs:=#[.string t329,.int .i64 0,.int .i64 0,.string (⟨#[]⟩:ByteArray)]) ?_ 1 _ rfl;(with_reducible repeat (first|refine kdN ?_ _|refine kd ?_|refine ka ?_ _));refine blk_put (cs:=#[.string (⟨#[]⟩:ByteArray),.int .i64 0,.int .i64 0,.string (⟨#[]⟩:ByteArray)]) ?_ 0 _ rfl;(with_reducible repeat (first|refine kdN ?_ _|refine kd ?_|refine ka ?_ _));exact BK335.out⟩,⟨by repeat (first|(with_reducible first|exact HB.out|apply bwa|apply pbN|apply bw1|refine bws ?_ GE327.out|refine bws ?_ GE328.out|refine bws ?_ GE335.out)|exact HB.out)⟩⟩
  subst c15
  have H1:(spec_FindSkip.j0 k (t329.toList != a1.toList) t329 t330 t331 t332)=some (r1,r2,r3,r4,r5):=by rw [if_pos rfl] at H;exact H
  clear H
  have H:=H1
  clear H1
  have H':=AsZ.mk H
  clear H
  have hnb16:=NB335_327.out
  have hnc16:=NB327_335.out
  have hnb17:=NB335_328.out
  have hnc17:=NB328_335.out
  have hcz18_0:w11.cell? ⟨gb335,0,none⟩=some (.string (⟨#[]⟩:ByteArray)):=(kc BK335.out 0).trans rfl
  have hcz18_1:w11.cell? ⟨gb335,1,none⟩=some (.int .i64 0):=(kc BK335.out 1).trans rfl
  have hcz18_2:w11.cell? ⟨gb335,2,none⟩=some (.int .i64 0):=(kc BK335.out 2).trans rfl
  have hcz18_3:w11.cell? ⟨gb335,3,none⟩=some (.string (⟨#[]⟩:ByteArray)):=(kc BK335.out 3).trans rfl
  have hfz18_0:=kf BK335.out 0
  have hfz18_1:=kf BK335.out 1
  have hfz18_2:=kf BK335.out 2
  have hfz18_3:=kf BK335.out 3
  go_wp2
  go_meet
  case rel=>exact ⟨_,((t329.toList != a1.toList)),(by first|rfl|(simp;done)|(simp [*];done)),H',⟨by first|omega|exact Nat.le_refl _⟩,⟨by (with_reducible repeat (first|refine kdN ?_ _|refine kd ?_|refine ka ?_ _));refine blk_far ?_ NB327_335.out _;(with_reducible repeat (first|refine kdN ?_ _|refine kd ?_|refine ka ?_ _));refine blk_far ?_ NB327_335.out _;(with_reducible repeat (first|refine kdN ?_ _|refine kd ?_|refine ka ?_ _));refine blk_far ?_ NB327_335.out _;(with_reducible repeat (first|refine kdN ?_ _|refine kd ?_|refine ka ?_ _));refine blk_far ?_ NB327_335.out _;(with_reducible repeat (first|refine kdN ?_ _|refine kd ?_|refine ka ?_ _));exact BK327.out⟩,⟨by (with_reducible repeat (first|refine kdN ?_ _|refine kd ?_|refine ka ?_ _));refine blk_far ?_ NB328_335.out _;(with_reducible repeat (first|refine kdN ?_ _|refine kd ?_|refine ka ?_ _));refine blk_far ?_ NB328_335.out _;(with_reducible repeat (first|refine kdN ?_ _|refine kd ?_|refine ka ?_ _));refine blk_far ?_ NB328_335.out _;(with_reducible repeat (first|refine kdN ?_ _|refine kd ?_|refine ka ?_ _));refine blk_far ?_ NB328_335.out _;(with_reducible repeat (first|refine kdN ?_ _|refine kd ?_|refine ka ?_ _));exact BK328.out⟩,⟨by (with_reducible repeat (first|refine kdN ?_ _|refine kd ?_|refine ka ?_ _));refine blk_put (cs:=#[.string t329,.int .i64 t330,.int .i64 t331,.string (⟨#[]⟩:ByteArray)]) ?_ 3 _ rfl;(with_reducible repeat (first|refine kdN ?_ _|refine kd ?_|refine ka ?_ _));refine blk_put (cs:=#[.string t329,.int .i64 t330,.int .i64 0,.string (⟨#[]⟩:ByteArray)]) ?_ 2 _ rfl;(with_reducible repeat (first|refine kdN ?_ _|refine kd ?_|refine ka ?_ _));refine blk_put (cs:=#[.string t329,.int .i64 0,.int .i64 0,.string (⟨#[]⟩:ByteArray)]) ?_ 1 _ rfl;(with_reducible repeat (first|refine kdN ?_ _|refine kd ?_|refine ka ?_ _));refine blk_put (cs:=#[.string (⟨#[]⟩:ByteArray),.int .i64 0,.int .i64 0,.string (⟨#[]⟩:ByteArray)]) ?_ 0 _ rfl;(with_reducible repeat (first|refine kdN ?_ _|refine kd ?_|refine ka ?_ _));exact BK335.out⟩,⟨by repeat (first|(with_reducible first|exact HB.out|apply bwa|apply pbN|apply bw1|refine bws ?_ GE327.out|refine bws ?_ GE328.out|refine bws ?_ GE335.out)|exact HB.out)⟩⟩
 case rest =>
  clear HC5
  try clear c1
  try clear p2
  try clear c3
  try clear c8
  try clear c12
  try clear c13
  try clear c15
  try clear c16
  try clear c17
  try clear hcz14_0
  try clear hcz14_1
  try clear hcz14_2
  try clear hcz14_3
  try clear hcz18_0
  try clear hcz18_1
  try clear hcz18_2
  try clear hcz18_3
  try clear hcz9_0
  try clear hcz9_1
  try clear hfz14_0
  try clear hfz14_1
  try clear hfz14_2
  try clear hfz14_3
  try clear hfz18_0
  try clear hfz18_1
  try clear hfz18_2
  try clear hfz18_3
  try clear hfz9_0
  try clear hfz9_1
  obtain ⟨kq,x26_4,rfl,HA,HJ4,BK327,BK328,BK335,HB⟩:=hcut
  cases kq with
  |zero=>exact absurd HA.out (by simp [spec_FindSkip.j0])
  |succ kj4 =>
   have H:=HA.out
   clear HA
   simp only [spec_FindSkip.j0] at H
   by_cases c19:x26_4=true
   · subst c19
     have H1:(some ((⟨#[]⟩:ByteArray),0,0,(⟨#[]⟩:ByteArray),false))=some (r1,r2,r3,r4,r5):=by rw [if_pos rfl] at H;exact H
     clear H
     have H:=H1
     clear H1
     simp only [Option.some.injEq,Prod.mk.injEq] at H
     obtain ⟨rfl,rfl,rfl,rfl,rfl⟩:=H
     have hnb20:=NB328_327.out
     have hnc20:=NB327_328.out
     have hnb21:=NB328_335.out
     have hnc21:=NB335_328.out
     have hcz22_0:wc.cell? ⟨gb328,0,none⟩=some (.string (⟨#[]⟩:ByteArray)):=(kc BK328.out 0).trans rfl
     have hcz22_1:wc.cell? ⟨gb328,1,none⟩=some (.int .i64 0):=(kc BK328.out 1).trans rfl
     have hcz22_2:wc.cell? ⟨gb328,2,none⟩=some (.int .i64 0):=(kc BK328.out 2).trans rfl
     have hcz22_3:wc.cell? ⟨gb328,3,none⟩=some (.string (⟨#[]⟩:ByteArray)):=(kc BK328.out 3).trans rfl
     have hfz22_0:=kf BK328.out 0
     have hfz22_1:=kf BK328.out 1
     have hfz22_2:=kf BK328.out 2
     have hfz22_3:=kf BK328.out 3
     go_wp2
     refine bodyPost_ret (results_ct rfl _ _ gb328 28 #[.string (⟨#[]⟩:ByteArray),.int .i64 0,.int .i64 0,.string (⟨#[]⟩:ByteArray)] (0,0) _ rfl (by (with_reducible repeat (first|refine kdN ?_ _|refine kd ?_|refine ka ?_ _));refine blk_put (cs:=#[.string (⟨#[]⟩:ByteArray),.int .i64 0,.int .i64 0,.string (⟨#[]⟩:ByteArray)]) ?_ 3 _ rfl;(with_reducible repeat (first|refine kdN ?_ _|refine kd ?_|refine ka ?_ _));refine blk_put (cs:=#[.string (⟨#[]⟩:ByteArray),.int .i64 0,.int .i64 0,.string (⟨#[]⟩:ByteArray)]) ?_ 2 _ rfl;(with_reducible repeat (first|refine kdN ?_ _|refine kd ?_|refine ka ?_ _));refine blk_put (cs:=#[.string (⟨#[]⟩:ByteArray),.int .i64 0,.int .i64 0,.string (⟨#[]⟩:ByteArray)]) ?_ 1 _ rfl;(with_reducible repeat (first|refine kdN ?_ _|refine kd ?_|refine ka ?_ _));refine blk_put (cs:=#[.string (⟨#[]⟩:ByteArray),.int .i64 0,.int .i64 0,.string (⟨#[]⟩:ByteArray)]) ?_ 0 _ rfl;(with_reducible repeat (first|refine kdN ?_ _|refine kd ?_|refine ka ?_ _));exact BK328.out) Tryd.underlying28 rfl (by kernel_rfl)) rfl ?_
     exact ⟨by first|rfl|(simp [errW_none,errW_some]<;>rfl)|(simp [*,errW_none,errW_some]<;>rfl),by repeat (first|(with_reducible first|exact HB.out|apply bwa|apply pbN|apply bw1|refine bws ?_ GE327.out|refine bws ?_ GE328.out|refine bws ?_ GE335.out)|exact HB.out)⟩
   replace c19:=Bool.eq_false_iff.mpr c19
   subst c19
   have H1:(some (t329,t330,t331,t332,true))=some (r1,r2,r3,r4,r5):=by rw [if_neg (show ¬ (false=true) by decide)] at H;exact H
   clear H
   have H:=H1
   clear H1
   simp only [Option.some.injEq,Prod.mk.injEq] at H
   obtain ⟨rfl,rfl,rfl,rfl,rfl⟩:=H
   have hnb23:=NB335_327.out
   have hnc23:=NB327_335.out
   have hnb24:=NB335_328.out
   have hnc24:=NB328_335.out
   have hcz25_0:wc.cell? ⟨gb335,0,none⟩=some (.string t329):=(kc BK335.out 0).trans rfl
   have hcz25_1:wc.cell? ⟨gb335,1,none⟩=some (.int .i64 t330):=(kc BK335.out 1).trans rfl
   have hcz25_2:wc.cell? ⟨gb335,2,none⟩=some (.int .i64 t331):=(kc BK335.out 2).trans rfl
   have hcz25_3:wc.cell? ⟨gb335,3,none⟩=some (.string t332):=(kc BK335.out 3).trans rfl
   have hfz25_0:=kf BK335.out 0
   have hfz25_1:=kf BK335.out 1
   have hfz25_2:=kf BK335.out 2
   have hfz25_3:=kf BK335.out 3
   have hnb26:=NB328_327.out
   have hnc26:=NB327_328.out
   have hcz27_0:wc.cell? ⟨gb328,0,none⟩=some (.string (⟨#[]⟩:ByteArray)):=(kc BK328.out 0).trans rfl
   have hcz27_1:wc.cell? ⟨gb328,1,none⟩=some (.int .i64 0):=(kc BK328.out 1).trans rfl
   have hcz27_2:wc.cell? ⟨gb328,2,none⟩=some (.int .i64 0):=(kc BK328.out 2).trans rfl
   have hcz27_3:wc.cell? ⟨gb328,3,none⟩=some (.string (⟨#[]⟩:ByteArray)):=(kc BK328.out 3).trans rfl
   have hfz27_0:=kf BK328.out 0
   have hfz27_1:=kf BK328.out 1
   have hfz27_2:=kf BK328.out 2
   have hfz27_3:=kf BK328.out 3
   go_wp2
   refine bodyPost_ret (results_ct rfl _ _ gb328 28 #[.string t329,.int .i64 t330,.int .i64 t331,.string t332] (0,0) _ rfl (by (with_reducible repeat (first|refine kdN ?_ _|refine kd ?_|refine ka ?_ _));refine blk_put (cs:=#[.string t329,.int .i64 t330,.int .i64 t331,.string (⟨#[]⟩:ByteArray)]) ?_ 3 _ rfl;(with_reducible repeat (first|refine kdN ?_ _|refine kd ?_|refine ka ?_ _));refine blk_put (cs:=#[.string t329,.int .i64 t330,.int .i64 0,.string (⟨#[]⟩:ByteArray)]) ?_ 2 _ rfl;(with_reducible repeat (first|refine kdN ?_ _|refine kd ?_|refine ka ?_ _));refine blk_put (cs:=#[.string t329,.int .i64 0,.int .i64 0,.string (⟨#[]⟩:ByteArray)]) ?_ 1 _ rfl;(with_reducible repeat (first|refine kdN ?_ _|refine kd ?_|refine ka ?_ _));refine blk_put (cs:=#[.string (⟨#[]⟩:ByteArray),.int .i64 0,.int .i64 0,.string (⟨#[]⟩:ByteArray)]) ?_ 0 _ rfl;(with_reducible repeat (first|refine kdN ?_ _|refine kd ?_|refine ka ?_ _));exact BK328.out) Tryd.underlying28 rfl (by kernel_rfl)) rfl ?_
   exact ⟨by first|rfl|(simp [errW_none,errW_some]<;>rfl)|(simp [*,errW_none,errW_some]<;>rfl),by repeat (first|(with_reducible first|exact HB.out|apply bwa|apply pbN|apply bw1|refine bws ?_ GE327.out|refine bws ?_ GE328.out|refine bws ?_ GE335.out)|exact HB.out)⟩
end Go.Proofs.YtffjlpphcjfdgaaDoor.MFnExactFindSkip
