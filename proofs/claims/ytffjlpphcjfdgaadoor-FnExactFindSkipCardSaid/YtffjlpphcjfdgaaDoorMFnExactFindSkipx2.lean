-- Written by a program of this session out of the translation. Not trusted: Lean checks it.
import Derived.Test.YtffjlpphcjfdgaaDoorMFnExactFindSkipx0
import Derived.Test.YtffjlpphcjfdgaaDoorMFnExactFindSkipx1
namespace Go.Proofs.YtffjlpphcjfdgaaDoor.MFnExactFindSkip
-- short
-- shrunk
-- TAB
-- RD
open Go.Proofs.YtffjlpphcjfdgaaDoor Go.RowKit Go.Proofs.YtffjlpphcjfdgaaDoorW.PrintWords Go.Proofs.YtffjlpphcjfdgaaDoorW.PrintLast Go.Proofs.YtffjlpphcjfdgaaDoorW.PrintMore Go.Proofs.YtffjlpphcjfdgaaDoorX
attribute [local go_sem] max2_int min2_int max_two min_two max_three min_three max_four min_four str_gtr str_leq str_geq cell_twice
set_option linter.unusedVariables false
set_option linter.unusedSimpArgs false
/-! ### laws_eqItem: function 33 -/
def laws_eqItem.f (a0_0:ByteArray) (a0_1:Int) (a0_2:Int) (a0_3:ByteArray) (a1_0:ByteArray) (a1_1:Int) (a1_2:Int) (a1_3:ByteArray):Option (Bool):=if a0_0.toList=a1_0.toList then (if a0_1=a1_1 then (if a0_2=a1_2 then (if a0_3.toList=a1_3.toList then (some true) else (some false)) else (some false)) else (some false)) else (some false)
set_option maxHeartbeats 8000000 in
set_option maxRecDepth 100000 in
theorem laws_eqItem.calls (a0_0:ByteArray) (a0_1:Int) (a0_2:Int) (a0_3:ByteArray) (a1_0:ByteArray) (a1_1:Int) (a1_2:Int) (a1_3:ByteArray) (r:Bool) (w:World) (h:laws_eqItem.f a0_0 a0_1 a0_2 a0_3 a1_0 a1_1 a1_2 a1_3=some r) :
    Calls Tryd.prog 33 #[.agg #[.string a0_0,.int .i64 a0_1,.int .i64 a0_2,.string a0_3],.agg #[.string a1_0,.int .i64 a1_1,.int .i64 a1_2,.string a1_3]] w fun e w'=>e = .returned (.bool r)∧Below w.heap.size w w':=by
 have hu28:=Tryd.underlying28
 have HB:=AsZ.mk (Below.refl w.heap.size w)
 have H:(if a0_0.toList=a1_0.toList then (if a0_1=a1_1 then (if a0_2=a1_2 then (if a0_3.toList=a1_3.toList then (some true) else (some false)) else (some false)) else (some false)) else (some false))=some r:=h
 clear h
 by_cases c3:a0_0.toList=a1_0.toList
 rotate_left
 · rw [if_neg c3] at H
   have c3b0:(a0_0.toList == a1_0.toList)=false:=beq_eq_false_iff_ne.mpr c3
   have c3b1:(a0_0.toList != a1_0.toList)=true:=bne_iff_ne.mpr c3
   obtain rfl:=zI H
   go_enter Tryd.func33,Tryd.ntmps33
   go_wp2_with (first|((with_reducible refine gate_dst (N:=2) rfl ?_);refine box_event ?hg (N:=2) ?hd (cs:=#[.string a0_0,.int .i64 a0_1,.int .i64 a0_2,.string a0_3]) (t:=28) ?hr ?_;(case hd=>rfl);(case hg=>rfl);(case hr=>first|(go_simp;done)|(go_simp;rfl));intro gb151 hg w27 hbox hb;have n0_:=AsZ.mk (bwp (by repeat (first|(with_reducible first|exact HB.out|apply bwa|apply pbN|apply bw1)|exact HB.out)) hb);have n1_:=AsZ.mk (hbox);have n2_:=AsZ.mk ((by rw [hg];exact (bwz (by repeat (first|(with_reducible first|exact HB.out|apply bwa|apply pbN|apply bw1)|exact HB.out))):w.heap.size≤gb151));have n3_:=AsZ.mk ((by rw [hg];exact (bwz (by repeat (first|(with_reducible first|exact HB.out|apply bwa|apply pbN|apply bw1)|exact HB.out))):w.heap.size≤gb151));clear HB;have HB:=n0_;have BK151:=n1_;have GW151:=n2_;have GE151:=n3_;clear n0_ n1_ n2_ n3_;clear hb hbox hg)|((with_reducible refine gate_dst (N:=3) rfl ?_);refine box_event ?hg (N:=3) ?hd (cs:=#[.string a1_0,.int .i64 a1_1,.int .i64 a1_2,.string a1_3]) (t:=28) ?hr ?_;(case hd=>rfl);(case hg=>rfl);(case hr=>first|(go_simp;done)|(go_simp;rfl));intro gb152 hg w28 hbox hb;have n0_:=AsZ.mk (kb (g:=gb151) (o := .cells #[.string a0_0,.int .i64 a0_1,.int .i64 a0_2,.string a0_3] 28 (0,0)) (by (with_reducible repeat (first|refine kdN ?_ _|refine kd ?_|refine ka ?_ _));exact BK151.out) hb);have n1_:=AsZ.mk (bwp (by repeat (first|(with_reducible first|exact HB.out|apply bwa|apply pbN|apply bw1|refine bws ?_ GE151.out)|exact HB.out)) hb);have n2_:=AsZ.mk (hbox);have n3_:=AsZ.mk ((by rw [hg];exact (bwz (by repeat (first|(with_reducible first|exact HB.out|apply bwa|apply pbN|apply bw1|refine bws ?_ GE151.out)|exact HB.out))):w.heap.size≤gb152));have n4_:=AsZ.mk ((by rw [hg];exact (bwz (by repeat (first|(with_reducible first|exact HB.out|apply bwa|apply pbN|apply bw1|refine bws ?_ GE151.out)|exact HB.out))):w.heap.size≤gb152));have n5_:=AsZ.mk ((by rw [hg];exact Nat.ne_of_lt (blk_lt (g:=gb151) (o := .cells #[.string a0_0,.int .i64 a0_1,.int .i64 a0_2,.string a0_3] 28 (0,0)) (by (with_reducible repeat (first|refine kdN ?_ _|refine kd ?_|refine ka ?_ _));exact BK151.out)):gb151 ≠ gb152));have n6_:=AsZ.mk ((by rw [hg];exact Nat.ne_of_gt (blk_lt (g:=gb151) (o := .cells #[.string a0_0,.int .i64 a0_1,.int .i64 a0_2,.string a0_3] 28 (0,0)) (by (with_reducible repeat (first|refine kdN ?_ _|refine kd ?_|refine ka ?_ _));exact BK151.out)):gb152 ≠ gb151));clear BK151;clear HB;have BK151:=n0_;have HB:=n1_;have BK152:=n2_;have GW152:=n3_;have GE152:=n4_;have NB151_152:=n5_;have NB152_151:=n6_;clear n0_ n1_ n2_ n3_ n4_ n5_ n6_;clear hb hbox hg;have hnb29:=NB151_152.out;have hnc29:=NB152_151.out;have hcz30_0:w28.cell? ⟨gb151,0,none⟩=some (.string a0_0):=(kc BK151.out 0).trans rfl;have hcz30_1:w28.cell? ⟨gb151,1,none⟩=some (.int .i64 a0_1):=(kc BK151.out 1).trans rfl;have hcz30_2:w28.cell? ⟨gb151,2,none⟩=some (.int .i64 a0_2):=(kc BK151.out 2).trans rfl;have hcz30_3:w28.cell? ⟨gb151,3,none⟩=some (.string a0_3):=(kc BK151.out 3).trans rfl;have hfz30_0:=kf BK151.out 0;have hfz30_1:=kf BK151.out 1;have hfz30_2:=kf BK151.out 2;have hfz30_3:=kf BK151.out 3;have hcz31_0:w28.cell? ⟨gb152,0,none⟩=some (.string a1_0):=(kc BK152.out 0).trans rfl;have hcz31_1:w28.cell? ⟨gb152,1,none⟩=some (.int .i64 a1_1):=(kc BK152.out 1).trans rfl;have hcz31_2:w28.cell? ⟨gb152,2,none⟩=some (.int .i64 a1_2):=(kc BK152.out 2).trans rfl;have hcz31_3:w28.cell? ⟨gb152,3,none⟩=some (.string a1_3):=(kc BK152.out 3).trans rfl;have hfz31_0:=kf BK152.out 0;have hfz31_1:=kf BK152.out 1;have hfz31_2:=kf BK152.out 2;have hfz31_3:=kf BK152.out 3))
   go_ret
   exact ⟨by first|rfl|(simp [errW_none,errW_some]<;>rfl)|(simp [*,errW_none,errW_some]<;>rfl),by repeat (first|(with_reducible first|exact HB.out|apply bwa|apply pbN|apply bw1|refine bws ?_ GE151.out|refine bws ?_ GE152.out)|exact HB.out)⟩
 rw [if_pos c3] at H
 have c3b0:(a0_0.toList == a1_0.toList)=true:=beq_iff_eq.mpr c3
 have c3b1:(a0_0.toList != a1_0.toList)=false:=bne_eq_false_iff_eq.mpr c3
 clear c3
 by_cases c4:a0_1=a1_1
 rotate_left
 · rw [if_neg c4] at H
   have c4b0:(a0_1 == a1_1)=false:=beq_eq_false_iff_ne.mpr c4
   have c4b1:(a0_1 != a1_1)=true:=bne_iff_ne.mpr c4
   obtain rfl:=zI H
   go_enter Tryd.func33,Tryd.ntmps33
   go_wp2_with (first|((with_reducible refine gate_dst (N:=2) rfl ?_);refine box_event ?hg (N:=2) ?hd (cs:=#[.string a0_0,.int .i64 a0_1,.int .i64 a0_2,.string a0_3]) (t:=28) ?hr ?_;(case hd=>rfl);(case hg=>rfl);(case hr=>first|(go_simp;done)|(go_simp;rfl));intro gb151 hg w22 hbox hb;have n0_:=AsZ.mk (bwp (by repeat (first|(with_reducible first|exact HB.out|apply bwa|apply pbN|apply bw1)|exact HB.out)) hb);have n1_:=AsZ.mk (hbox);have n2_:=AsZ.mk ((by rw [hg];exact (bwz (by repeat (first|(with_reducible first|exact HB.out|apply bwa|apply pbN|apply bw1)|exact HB.out))):w.heap.size≤gb151));have n3_:=AsZ.mk ((by rw [hg];exact (bwz (by repeat (first|(with_reducible first|exact HB.out|apply bwa|apply pbN|apply bw1)|exact HB.out))):w.heap.size≤gb151));clear HB;have HB:=n0_;have BK151:=n1_;have GW151:=n2_;have GE151:=n3_;clear n0_ n1_ n2_ n3_;clear hb hbox hg)|((with_reducible refine gate_dst (N:=3) rfl ?_);refine box_event ?hg (N:=3) ?hd (cs:=#[.string a1_0,.int .i64 a1_1,.int .i64 a1_2,.string a1_3]) (t:=28) ?hr ?_;(case hd=>rfl);(case hg=>rfl);(case hr=>first|(go_simp;done)|(go_simp;rfl));intro gb152 hg w23 hbox hb;have n0_:=AsZ.mk (kb (g:=gb151) (o := .cells #[.string a0_0,.int .i64 a0_1,.int .i64 a0_2,.string a0_3] 28 (0,0)) (by (with_reducible repeat (first|refine kdN ?_ _|refine kd ?_|refine ka ?_ _));exact BK151.out) hb);have n1_:=AsZ.mk (bwp (by repeat (first|(with_reducible first|exact HB.out|apply bwa|apply pbN|apply bw1|refine bws ?_ GE151.out)|exact HB.out)) hb);have n2_:=AsZ.mk (hbox);have n3_:=AsZ.mk ((by rw [hg];exact (bwz (by repeat (first|(with_reducible first|exact HB.out|apply bwa|apply pbN|apply bw1|refine bws ?_ GE151.out)|exact HB.out))):w.heap.size≤gb152));have n4_:=AsZ.mk ((by rw [hg];exact (bwz (by repeat (first|(with_reducible first|exact HB.out|apply bwa|apply pbN|apply bw1|refine bws ?_ GE151.out)|exact HB.out))):w.heap.size≤gb152));have n5_:=AsZ.mk ((by rw [hg];exact Nat.ne_of_lt (blk_lt (g:=gb151) (o := .cells #[.string a0_0,.int .i64 a0_1,.int .i64 a0_2,.string a0_3] 28 (0,0)) (by (with_reducible repeat (first|refine kdN ?_ _|refine kd ?_|refine ka ?_ _));exact BK151.out)):gb151 ≠ gb152));have n6_:=AsZ.mk ((by rw [hg];exact Nat.ne_of_gt (blk_lt (g:=gb151) (o := .cells #[.string a0_0,.int .i64 a0_1,.int .i64 a0_2,.string a0_3] 28 (0,0)) (by (with_reducible repeat (first|refine kdN ?_ _|refine kd ?_|refine ka ?_ _));exact BK151.out)):gb152 ≠ gb151));clear BK151;clear HB;have BK151:=n0_;have HB:=n1_;have BK152:=n2_;have GW152:=n3_;have GE152:=n4_;have NB151_152:=n5_;have NB152_151:=n6_;clear n0_ n1_ n2_ n3_ n4_ n5_ n6_;clear hb hbox hg;have hnb24:=NB151_152.out;have hnc24:=NB152_151.out;have hcz25_0:w23.cell? ⟨gb151,0,none⟩=some (.string a0_0):=(kc BK151.out 0).trans rfl;have hcz25_1:w23.cell? ⟨gb151,1,none⟩=some (.int .i64 a0_1):=(kc BK151.out 1).trans rfl;have hcz25_2:w23.cell? ⟨gb151,2,none⟩=some (.int .i64 a0_2):=(kc BK151.out 2).trans rfl;have hcz25_3:w23.cell? ⟨gb151,3,none⟩=some (.string a0_3):=(kc BK151.out 3).trans rfl;have hfz25_0:=kf BK151.out 0;have hfz25_1:=kf BK151.out 1;have hfz25_2:=kf BK151.out 2;have hfz25_3:=kf BK151.out 3;have hcz26_0:w23.cell? ⟨gb152,0,none⟩=some (.string a1_0):=(kc BK152.out 0).trans rfl;have hcz26_1:w23.cell? ⟨gb152,1,none⟩=some (.int .i64 a1_1):=(kc BK152.out 1).trans rfl;have hcz26_2:w23.cell? ⟨gb152,2,none⟩=some (.int .i64 a1_2):=(kc BK152.out 2).trans rfl;have hcz26_3:w23.cell? ⟨gb152,3,none⟩=some (.string a1_3):=(kc BK152.out 3).trans rfl;have hfz26_0:=kf BK152.out 0;have hfz26_1:=kf BK152.out 1;have hfz26_2:=kf BK152.out 2;have hfz26_3:=kf BK152.out 3))
   go_ret
   exact ⟨by first|rfl|(simp [errW_none,errW_some]<;>rfl)|(simp [*,errW_none,errW_some]<;>rfl),by repeat (first|(with_reducible first|exact HB.out|apply bwa|apply pbN|apply bw1|refine bws ?_ GE151.out|refine bws ?_ GE152.out)|exact HB.out)⟩
 rw [if_pos c4] at H
 have c4b0:(a0_1 == a1_1)=true:=beq_iff_eq.mpr c4
 have c4b1:(a0_1 != a1_1)=false:=bne_eq_false_iff_eq.mpr c4
 clear c4
 by_cases c5:a0_2=a1_2
 rotate_left
 · rw [if_neg c5] at H
   have c5b0:(a0_2 == a1_2)=false:=beq_eq_false_iff_ne.mpr c5
   have c5b1:(a0_2 != a1_2)=true:=bne_iff_ne.mpr c5
   obtain rfl:=zI H
   go_enter Tryd.func33,Tryd.ntmps33
   go_wp2_with (first|((with_reducible refine gate_dst (N:=2) rfl ?_);refine box_event ?hg (N:=2) ?hd (cs:=#[.string a0_0,.int .i64 a0_1,.int .i64 a0_2,.string a0_3]) (t:=28) ?hr ?_;(case hd=>rfl);(case hg=>rfl);(case hr=>first|(go_simp;done)|(go_simp;rfl));intro gb151 hg w17 hbox hb;have n0_:=AsZ.mk (bwp (by repeat (first|(with_reducible first|exact HB.out|apply bwa|apply pbN|apply bw1)|exact HB.out)) hb);have n1_:=AsZ.mk (hbox);have n2_:=AsZ.mk ((by rw [hg];exact (bwz (by repeat (first|(with_reducible first|exact HB.out|apply bwa|apply pbN|apply bw1)|exact HB.out))):w.heap.size≤gb151));have n3_:=AsZ.mk ((by rw [hg];exact (bwz (by repeat (first|(with_reducible first|exact HB.out|apply bwa|apply pbN|apply bw1)|exact HB.out))):w.heap.size≤gb151));clear HB;have HB:=n0_;have BK151:=n1_;have GW151:=n2_;have GE151:=n3_;clear n0_ n1_ n2_ n3_;clear hb hbox hg)|((with_reducible refine gate_dst (N:=3) rfl ?_);refine box_event ?hg (N:=3) ?hd (cs:=#[.string a1_0,.int .i64 a1_1,.int .i64 a1_2,.string a1_3]) (t:=28) ?hr ?_;(case hd=>rfl);(case hg=>rfl);(case hr=>first|(go_simp;done)|(go_simp;rfl));intro gb152 hg w18 hbox hb;have n0_:=AsZ.mk (kb (g:=gb151) (o := .cells #[.string a0_0,.int .i64 a0_1,.int .i64 a0_2,.string a0_3] 28 (0,0)) (by (with_reducible repeat (first|refine kdN ?_ _|refine kd ?_|refine ka ?_ _));exact BK151.out) hb);have n1_:=AsZ.mk (bwp (by repeat (first|(with_reducible first|exact HB.out|apply bwa|apply pbN|apply bw1|refine bws ?_ GE151.out)|exact HB.out)) hb);have n2_:=AsZ.mk (hbox);have n3_:=AsZ.mk ((by rw [hg];exact (bwz (by repeat (first|(with_reducible first|exact HB.out|apply bwa|apply pbN|apply bw1|refine bws ?_ GE151.out)|exact HB.out))):w.heap.size≤gb152));have n4_:=AsZ.mk ((by rw [hg];exact (bwz (by repeat (first|(with_reducible first|exact HB.out|apply bwa|apply pbN|apply bw1|refine bws ?_ GE151.out)|exact HB.out))):w.heap.size≤gb152));have n5_:=AsZ.mk ((by rw [hg];exact Nat.ne_of_lt (blk_lt (g:=gb151) (o := .cells #[.string a0_0,.int .i64 a0_1,.int .i64 a0_2,.string a0_3] 28 (0,0)) (by (with_reducible repeat (first|refine kdN ?_ _|refine kd ?_|refine ka ?_ _));exact BK151.out)):gb151 ≠ gb152));have n6_:=AsZ.mk ((by rw [hg];exact Nat.ne_of_gt (blk_lt (g:=gb151) (o := .cells #[.string a0_0,.int .i64 a0_1,.int .i64 a0_2,.string a0_3] 28 (0,0)) (by (with_reducible repeat (first|refine kdN ?_ _|refine kd ?_|refine ka ?_ _));exact BK151.out)):gb152 ≠ gb151));clear BK151;clear HB;have BK151:=n0_;have HB:=n1_;have BK152:=n2_;have GW152:=n3_;have GE152:=n4_;have NB151_152:=n5_;have NB152_151:=n6_;clear n0_ n1_ n2_ n3_ n4_ n5_ n6_;clear hb hbox hg;have hnb19:=NB151_152.out;have hnc19:=NB152_151.out;have hcz20_0:w18.cell? ⟨gb151,0,none⟩=some (.string a0_0):=(kc BK151.out 0).trans rfl;have hcz20_1:w18.cell? ⟨gb151,1,none⟩=some (.int .i64 a0_1):=(kc BK151.out 1).trans rfl;have hcz20_2:w18.cell? ⟨gb151,2,none⟩=some (.int .i64 a0_2):=(kc BK151.out 2).trans rfl;have hcz20_3:w18.cell? ⟨gb151,3,none⟩=some (.string a0_3):=(kc BK151.out 3).trans rfl;have hfz20_0:=kf BK151.out 0;have hfz20_1:=kf BK151.out 1;have hfz20_2:=kf BK151.out 2;have hfz20_3:=kf BK151.out 3;have hcz21_0:w18.cell? ⟨gb152,0,none⟩=some (.string a1_0):=(kc BK152.out 0).trans rfl;have hcz21_1:w18.cell? ⟨gb152,1,none⟩=some (.int .i64 a1_1):=(kc BK152.out 1).trans rfl;have hcz21_2:w18.cell? ⟨gb152,2,none⟩=some (.int .i64 a1_2):=(kc BK152.out 2).trans rfl;have hcz21_3:w18.cell? ⟨gb152,3,none⟩=some (.string a1_3):=(kc BK152.out 3).trans rfl;have hfz21_0:=kf BK152.out 0;have hfz21_1:=kf BK152.out 1;have hfz21_2:=kf BK152.out 2;have hfz21_3:=kf BK152.out 3))
   go_ret
   exact ⟨by first|rfl|(simp [errW_none,errW_some]<;>rfl)|(simp [*,errW_none,errW_some]<;>rfl),by repeat (first|(with_reducible first|exact HB.out|apply bwa|apply pbN|apply bw1|refine bws ?_ GE151.out|refine bws ?_ GE152.out)|exact HB.out)⟩
 rw [if_pos c5] at H
 have c5b0:(a0_2 == a1_2)=true:=beq_iff_eq.mpr c5
 have c5b1:(a0_2 != a1_2)=false:=bne_eq_false_iff_eq.mpr c5
 clear c5
 by_cases c6:a0_3.toList=a1_3.toList
 · rw [if_pos c6] at H
   have c6b0:(a0_3.toList == a1_3.toList)=true:=beq_iff_eq.mpr c6
   have c6b1:(a0_3.toList != a1_3.toList)=false:=bne_eq_false_iff_eq.mpr c6
   clear c6
   obtain rfl:=zI H
   go_enter Tryd.func33,Tryd.ntmps33
   go_wp2_with (first|((with_reducible refine gate_dst (N:=2) rfl ?_);refine box_event ?hg (N:=2) ?hd (cs:=#[.string a0_0,.int .i64 a0_1,.int .i64 a0_2,.string a0_3]) (t:=28) ?hr ?_;(case hd=>rfl);(case hg=>rfl);(case hr=>first|(go_simp;done)|(go_simp;rfl));intro gb151 hg w7 hbox hb;have n0_:=AsZ.mk (bwp (by repeat (first|(with_reducible first|exact HB.out|apply bwa|apply pbN|apply bw1)|exact HB.out)) hb);have n1_:=AsZ.mk (hbox);have n2_:=AsZ.mk ((by rw [hg];exact (bwz (by repeat (first|(with_reducible first|exact HB.out|apply bwa|apply pbN|apply bw1)|exact HB.out))):w.heap.size≤gb151));have n3_:=AsZ.mk ((by rw [hg];exact (bwz (by repeat (first|(with_reducible first|exact HB.out|apply bwa|apply pbN|apply bw1)|exact HB.out))):w.heap.size≤gb151));clear HB;have HB:=n0_;have BK151:=n1_;have GW151:=n2_;have GE151:=n3_;clear n0_ n1_ n2_ n3_;clear hb hbox hg)|((with_reducible refine gate_dst (N:=3) rfl ?_);refine box_event ?hg (N:=3) ?hd (cs:=#[.string a1_0,.int .i64 a1_1,.int .i64 a1_2,.string a1_3]) (t:=28) ?hr ?_;(case hd=>rfl);(case hg=>rfl);(case hr=>first|(go_simp;done)|(go_simp;rfl));intro gb152 hg w8 hbox hb;have n0_:=AsZ.mk (kb (g:=gb151) (o := .cells #[.string a0_0,.int .i64 a0_1,.int .i64 a0_2,.string a0_3] 28 (0,0)) (by (with_reducible repeat (first|refine kdN ?_ _|refine kd ?_|refine ka ?_ _));exact BK151.out) hb);have n1_:=AsZ.mk (bwp (by repeat (first|(with_reducible first|exact HB.out|apply bwa|apply pbN|apply bw1|refine bws ?_ GE151.out)|exact HB.out)) hb);have n2_:=AsZ.mk (hbox);have n3_:=AsZ.mk ((by rw [hg];exact (bwz (by repeat (first|(with_reducible first|exact HB.out|apply bwa|apply pbN|apply bw1|refine bws ?_ GE151.out)|exact HB.out))):w.heap.size≤gb152));have n4_:=AsZ.mk ((by rw [hg];exact (bwz (by repeat (first|(with_reducible first|exact HB.out|apply bwa|apply pbN|apply bw1|refine bws ?_ GE151.out)|exact HB.out))):w.heap.size≤gb152));have n5_:=AsZ.mk ((by rw [hg];exact Nat.ne_of_lt (blk_lt (g:=gb151) (o := .cells #[.string a0_0,.int .i64 a0_1,.int .i64 a0_2,.string a0_3] 28 (0,0)) (by (with_reducible repeat (first|refine kdN ?_ _|refine kd ?_|refine ka ?_ _));exact BK151.out)):gb151 ≠ gb152));have n6_:=AsZ.mk ((by rw [hg];exact Nat.ne_of_gt (blk_lt (g:=gb151) (o := .cells #[.string a0_0,.int .i64 a0_1,.int .i64 a0_2,.string a0_3] 28 (0,0)) (by (with_reducible repeat (first|refine kdN ?_ _|refine kd ?_|refine ka ?_ _));exact BK151.out)):gb152 ≠ gb151));clear BK151;clear HB;have BK151:=n0_;have HB:=n1_;have BK152:=n2_;have GW152:=n3_;have GE152:=n4_;have NB151_152:=n5_;have NB152_151:=n6_;clear n0_ n1_ n2_ n3_ n4_ n5_ n6_;clear hb hbox hg;have hnb9:=NB151_152.out;have hnc9:=NB152_151.out;have hcz10_0:w8.cell? ⟨gb151,0,none⟩=some (.string a0_0):=(kc BK151.out 0).trans rfl;have hcz10_1:w8.cell? ⟨gb151,1,none⟩=some (.int .i64 a0_1):=(kc BK151.out 1).trans rfl;have hcz10_2:w8.cell? ⟨gb151,2,none⟩=some (.int .i64 a0_2):=(kc BK151.out 2).trans rfl;have hcz10_3:w8.cell? ⟨gb151,3,none⟩=some (.string a0_3):=(kc BK151.out 3).trans rfl;have hfz10_0:=kf BK151.out 0;have hfz10_1:=kf BK151.out 1;have hfz10_2:=kf BK151.out 2;have hfz10_3:=kf BK151.out 3;have hcz11_0:w8.cell? ⟨gb152,0,none⟩=some (.string a1_0):=(kc BK152.out 0).trans rfl;have hcz11_1:w8.cell? ⟨gb152,1,none⟩=some (.int .i64 a1_1):=(kc BK152.out 1).trans rfl;have hcz11_2:w8.cell? ⟨gb152,2,none⟩=some (.int .i64 a1_2):=(kc BK152.out 2).trans rfl;have hcz11_3:w8.cell? ⟨gb152,3,none⟩=some (.string a1_3):=(kc BK152.out 3).trans rfl;have hfz11_0:=kf BK152.out 0;have hfz11_1:=kf BK152.out 1;have hfz11_2:=kf BK152.out 2;have hfz11_3:=kf BK152.out 3))
   go_ret
   exact ⟨by first|rfl|(simp [errW_none,errW_some]<;>rfl)|(simp [*,errW_none,errW_some]<;>rfl),by repeat (first|(with_reducible first|exact HB.out|apply bwa|apply pbN|apply bw1|refine bws ?_ GE151.out|refine bws ?_ GE152.out)|exact HB.out)⟩
 rw [if_neg c6] at H
 have c6b0:(a0_3.toList == a1_3.toList)=false:=beq_eq_false_iff_ne.mpr c6
 have c6b1:(a0_3.toList != a1_3.toList)=true:=bne_iff_ne.mpr c6
 obtain rfl:=zI H
 go_enter Tryd.func33,Tryd.ntmps33
 go_wp2_with (first|((with_reducible refine gate_dst (N:=2) rfl ?_);refine box_event ?hg (N:=2) ?hd (cs:=#[.string a0_0,.int .i64 a0_1,.int .i64 a0_2,.string a0_3]) (t:=28) ?hr ?_;(case hd=>rfl);(case hg=>rfl);(case hr=>first|(go_simp;done)|(go_simp;rfl));intro gb151 hg w12 hbox hb;have n0_:=AsZ.mk (bwp (by repeat (first|(with_reducible first|exact HB.out|apply bwa|apply pbN|apply bw1)|exact HB.out)) hb);have n1_:=AsZ.mk (hbox);have n2_:=AsZ.mk ((by rw [hg];exact (bwz (by repeat (first|(with_reducible first|exact HB.out|apply bwa|apply pbN|apply bw1)|exact HB.out))):w.heap.size≤gb151));have n3_:=AsZ.mk ((by rw [hg];exact (bwz (by repeat (first|(with_reducible first|exact HB.out|apply bwa|apply pbN|apply bw1)|exact HB.out))):w.heap.size≤gb151));clear HB;have HB:=n0_;have BK151:=n1_;have GW151:=n2_;have GE151:=n3_;clear n0_ n1_ n2_ n3_;clear hb hbox hg)|((with_reducible refine gate_dst (N:=3) rfl ?_);refine box_event ?hg (N:=3) ?hd (cs:=#[.string a1_0,.int .i64 a1_1,.int .i64 a1_2,.string a1_3]) (t:=28) ?hr ?_;(case hd=>rfl);(case hg=>rfl);(case hr=>first|(go_simp;done)|(go_simp;rfl));intro gb152 hg w13 hbox hb;have n0_:=AsZ.mk (kb (g:=gb151) (o := .cells #[.string a0_0,.int .i64 a0_1,.int .i64 a0_2,.string a0_3] 28 (0,0)) (by (with_reducible repeat (first|refine kdN ?_ _|refine kd ?_|refine ka ?_ _));exact BK151.out) hb);have n1_:=AsZ.mk (bwp (by repeat (first|(with_reducible first|exact HB.out|apply bwa|apply pbN|apply bw1|refine bws ?_ GE151.out)|exact HB.out)) hb);have n2_:=AsZ.mk (hbox);have n3_:=AsZ.mk ((by rw [hg];exact (bwz (by repeat (first|(with_reducible first|exact HB.out|apply bwa|apply pbN|apply bw1|refine bws ?_ GE151.out)|exact HB.out))):w.heap.size≤gb152));have n4_:=AsZ.mk ((by rw [hg];exact (bwz (by repeat (first|(with_reducible first|exact HB.out|apply bwa|apply pbN|apply bw1|refine bws ?_ GE151.out)|exact HB.out))):w.heap.size≤gb152));have n5_:=AsZ.mk ((by rw [hg];exact Nat.ne_of_lt (blk_lt (g:=gb151) (o := .cells #[.string a0_0,.int .i64 a0_1,.int .i64 a0_2,.string a0_3] 28 (0,0)) (by (with_reducible repeat (first|refine kdN ?_ _|refine kd ?_|refine ka ?_ _));exact BK151.out)):gb151 ≠ gb152));have n6_:=AsZ.mk ((by rw [hg];exact Nat.ne_of_gt (blk_lt (g:=gb151) (o := .cells #[.string a0_0,.int .i64 a0_1,.int .i64 a0_2,.string a0_3] 28 (0,0)) (by (with_reducible repeat (first|refine kdN ?_ _|refine kd ?_|refine ka ?_ _));exact BK151.out)):gb152 ≠ gb151));clear BK151;clear HB;have BK151:=n0_;have HB:=n1_;have BK152:=n2_;have GW152:=n3_;have GE152:=n4_;have NB151_152:=n5_;have NB152_151:=n6_;clear n0_ n1_ n2_ n3_ n4_ n5_ n6_;clear hb hbox hg;have hnb14:=NB151_152.out;have hnc14:=NB152_151.out;have hcz15_0:w13.cell? ⟨gb151,0,none⟩=some (.string a0_0):=(kc BK151.out 0).trans rfl;have hcz15_1:w13.cell? ⟨gb151,1,none⟩=some (.int .i64 a0_1):=(kc BK151.out 1).trans rfl;have hcz15_2:w13.cell? ⟨gb151,2,none⟩=some (.int .i64 a0_2):=(kc BK151.out 2).trans rfl;have hcz15_3:w13.cell? ⟨gb151,3,none⟩=some (.string a0_3):=(kc BK151.out 3).trans rfl;have hfz15_0:=kf BK151.out 0;have hfz15_1:=kf BK151.out 1;have hfz15_2:=kf BK151.out 2;have hfz15_3:=kf BK151.out 3;have hcz16_0:w13.cell? ⟨gb152,0,none⟩=some (.string a1_0):=(kc BK152.out 0).trans rfl;have hcz16_1:w13.cell? ⟨gb152,1,none⟩=some (.int .i64 a1_1):=(kc BK152.out 1).trans rfl;have hcz16_2:w13.cell? ⟨gb152,2,none⟩=some (.int .i64 a1_2):=(kc BK152.out 2).trans rfl;have hcz16_3:w13.cell? ⟨gb152,3,none⟩=some (.string a1_3):=(kc BK152.out 3).trans rfl;have hfz16_0:=kf BK152.out 0;have hfz16_1:=kf BK152.out 1;have hfz16_2:=kf BK152.out 2;have hfz16_3:=kf BK152.out 3))
 go_ret
 exact ⟨by first|rfl|(simp [errW_none,errW_some]<;>rfl)|(simp [*,errW_none,errW_some]<;>rfl),by repeat (first|(with_reducible first|exact HB.out|apply bwa|apply pbN|apply bw1|refine bws ?_ GE151.out|refine bws ?_ GE152.out)|exact HB.out)⟩
/-! ### laws_eqTower: function 92 -/
def laws_eqTower.f (k:Nat) (a0_0:ByteArray) (a0_1:Int) (a0_2:Int) (a0_3:ByteArray) (l0_4:List Int) (a1_0:ByteArray) (a1_1:Int) (a1_2:Int) (a1_3:ByteArray) (l1_4:List Int):Option (Bool):=(laws_eqItem.f a0_0 a0_1 a0_2 a0_3 a1_0 a1_1 a1_2 a1_3).bind fun t155=>(if t155=true then ((laws_eqIntS.f k l0_4 l1_4).bind fun t156=>(if t156=true then (some true) else (some false))) else (some false))
theorem laws_eqTower.mono:∀ a0 a1 a2 a3 a4 a5 a6 a7 a8 a9 k,LeO (laws_eqTower.f k a0 a1 a2 a3 a4 a5 a6 a7 a8 a9) (laws_eqTower.f (k + 1) a0 a1 a2 a3 a4 a5 a6 a7 a8 a9):=by
  intro a0 a1 a2 a3 a4 a5 a6 a7 a8 a9 k
  unfold laws_eqTower.f
  repeat' first
      |(with_reducible exact laws_eqIntS.mono _ _ _)
      |(with_reducible exact LeO.refl _)
      |(with_reducible exact LeO.none _)
      |(with_reducible refine LeO.ite ?_ ?_)
      |(with_reducible refine LeO.bind ?_ (fun _=>?_))
      |exact laws_eqIntS.mono _ _ _
      |exact LeO.none _
      |refine LeO.ite ?_ ?_
      |refine LeO.bind ?_ (fun _=>?_)
set_option maxHeartbeats 8000000 in
set_option maxRecDepth 100000 in
theorem laws_eqTower.calls (k:Nat) (a0_0:ByteArray) (a0_1:Int) (a0_2:Int) (a0_3:ByteArray) (A0_4:Option Addr) (c0_4:Nat) (l0_4:List Int) (a1_0:ByteArray) (a1_1:Int) (a1_2:Int) (a1_3:ByteArray) (A1_4:Option Addr) (c1_4:Nat) (l1_4:List Int) (r:Bool) (w:World) (hr0_4:Kd.C (Kd.int .i64) w A0_4 l0_4.length l0_4) (hc0_4:l0_4.length≤c0_4) (hr1_4:Kd.C (Kd.int .i64) w A1_4 l1_4.length l1_4) (hc1_4:l1_4.length≤c1_4) (h:laws_eqTower.f k a0_0 a0_1 a0_2 a0_3 l0_4 a1_0 a1_1 a1_2 a1_3 l1_4=some r) :
    Calls Tryd.prog 92 #[.agg #[.string a0_0,.int .i64 a0_1,.int .i64 a0_2,.string a0_3,.slice A0_4 l0_4.length c0_4],.agg #[.string a1_0,.int .i64 a1_1,.int .i64 a1_2,.string a1_3,.slice A1_4 l1_4.length c1_4]] w fun e w'=>e = .returned (.bool r)∧Below w.heap.size w w':=by
 have hu77:=Tryd.underlying77
 have hu28:=Tryd.underlying28
 have HR0_4:=AsZ.mk hr0_4
 have HC0_4:=AsZ.mk hc0_4
 clear hr0_4 hc0_4
 have HR1_4:=AsZ.mk hr1_4
 have HC1_4:=AsZ.mk hc1_4
 clear hr1_4 hc1_4
 have HB:=AsZ.mk (Below.refl w.heap.size w)
 have H:((laws_eqItem.f a0_0 a0_1 a0_2 a0_3 a1_0 a1_1 a1_2 a1_3).bind fun t155=>(if t155=true then ((laws_eqIntS.f k l0_4 l1_4).bind fun t156=>(if t156=true then (some true) else (some false))) else (some false)))=some r:=h
 clear h
 replace H:=Option.bind_eq_some_iff.mp H
 obtain ⟨t155,A30,H⟩:=H
 replace H:(if t155=true then ((laws_eqIntS.f k l0_4 l1_4).bind fun t156=>(if t156=true then (some true) else (some false))) else (some false))=some r:=H
 have A3:=AsZ.mk A30
 clear A30
 by_cases c4:t155=true
 rotate_left
 · replace c4:=Bool.eq_false_iff.mpr c4
   subst c4
   have H1:(some false)=some r:=by rw [if_neg (show ¬ (false=true) by decide)] at H;exact H
   clear H
   have H:=H1
   clear H1
   obtain rfl:=zI H
   go_enter Tryd.func92,Tryd.ntmps92
   go_wp2_with (first|((with_reducible refine gate_dst (N:=2) rfl ?_);refine box_event ?hg (N:=2) ?hd (cs:=#[.string a0_0,.int .i64 a0_1,.int .i64 a0_2,.string a0_3,.slice A0_4 l0_4.length c0_4]) (t:=77) ?hr ?_;(case hd=>rfl);(case hg=>rfl);(case hr=>first|(go_simp;done)|(go_simp;rfl));intro gb153 hg w23 hbox hb;have n0_:=AsZ.mk (bwp (by repeat (first|(with_reducible first|exact HB.out|apply bwa|apply pbN|apply bw1)|exact HB.out)) hb);have n1_:=AsZ.mk (hbox);have n2_:=AsZ.mk ((by rw [hg];exact (bwz (by repeat (first|(with_reducible first|exact HB.out|apply bwa|apply pbN|apply bw1)|exact HB.out))):w.heap.size≤gb153));have n3_:=AsZ.mk ((by rw [hg];exact (bwz (by repeat (first|(with_reducible first|exact HB.out|apply bwa|apply pbN|apply bw1)|exact HB.out))):w.heap.size≤gb153));clear HB;have HB:=n0_;have BK153:=n1_;have GW153:=n2_;have GE153:=n3_;clear n0_ n1_ n2_ n3_;clear hb hbox hg)|((with_reducible refine gate_dst (N:=3) rfl ?_);refine box_event ?hg (N:=3) ?hd (cs:=#[.string a1_0,.int .i64 a1_1,.int .i64 a1_2,.string a1_3,.slice A1_4 l1_4.length c1_4]) (t:=77) ?hr ?_;(case hd=>rfl);(case hg=>rfl);(case hr=>first|(go_simp;done)|(go_simp;rfl));intro gb154 hg w24 hbox hb;have n0_:=AsZ.mk (kb (g:=gb153) (o := .cells #[.string a0_0,.int .i64 a0_1,.int .i64 a0_2,.string a0_3,.slice A0_4 l0_4.length c0_4] 77 (0,0)) (by (with_reducible repeat (first|refine kdN ?_ _|refine kd ?_|refine ka ?_ _));exact BK153.out) hb);have n1_:=AsZ.mk (bwp (by repeat (first|(with_reducible first|exact HB.out|apply bwa|apply pbN|apply bw1|refine bws ?_ GE153.out)|exact HB.out)) hb);have n2_:=AsZ.mk (hbox);have n3_:=AsZ.mk ((by rw [hg];exact (bwz (by repeat (first|(with_reducible first|exact HB.out|apply bwa|apply pbN|apply bw1|refine bws ?_ GE153.out)|exact HB.out))):w.heap.size≤gb154));have n4_:=AsZ.mk ((by rw [hg];exact (bwz (by repeat (first|(with_reducible first|exact HB.out|apply bwa|apply pbN|apply bw1|refine bws ?_ GE153.out)|exact HB.out))):w.heap.size≤gb154));have n5_:=AsZ.mk ((by rw [hg];exact Nat.ne_of_lt (blk_lt (g:=gb153) (o := .cells #[.string a0_0,.int .i64 a0_1,.int .i64 a0_2,.string a0_3,.slice A0_4 l0_4.length c0_4] 77 (0,0)) (by (with_reducible repeat (first|refine kdN ?_ _|refine kd ?_|refine ka ?_ _));exact BK153.out)):gb153 ≠ gb154));have n6_:=AsZ.mk ((by rw [hg];exact Nat.ne_of_gt (blk_lt (g:=gb153) (o := .cells #[.string a0_0,.int .i64 a0_1,.int .i64 a0_2,.string a0_3,.slice A0_4 l0_4.length c0_4] 77 (0,0)) (by (with_reducible repeat (first|refine kdN ?_ _|refine kd ?_|refine ka ?_ _));exact BK153.out)):gb154 ≠ gb153));clear BK153;clear HB;have BK153:=n0_;have HB:=n1_;have BK154:=n2_;have GW154:=n3_;have GE154:=n4_;have NB153_154:=n5_;have NB154_153:=n6_;clear n0_ n1_ n2_ n3_ n4_ n5_ n6_;clear hb hbox hg;have hnb25:=NB153_154.out;have hnc25:=NB154_153.out;have hcz26_0:w24.cell? ⟨gb153,0,none⟩=some (.string a0_0):=(kc BK153.out 0).trans rfl;have hcz26_1:w24.cell? ⟨gb153,1,none⟩=some (.int .i64 a0_1):=(kc BK153.out 1).trans rfl;have hcz26_2:w24.cell? ⟨gb153,2,none⟩=some (.int .i64 a0_2):=(kc BK153.out 2).trans rfl;have hcz26_3:w24.cell? ⟨gb153,3,none⟩=some (.string a0_3):=(kc BK153.out 3).trans rfl;have hcz26_4:w24.cell? ⟨gb153,4,none⟩=some (.slice A0_4 l0_4.length c0_4):=(kc BK153.out 4).trans rfl;have hfz26_0:=kf BK153.out 0;have hfz26_1:=kf BK153.out 1;have hfz26_2:=kf BK153.out 2;have hfz26_3:=kf BK153.out 3;have hfz26_4:=kf BK153.out 4;have hcz27_0:w24.cell? ⟨gb154,0,none⟩=some (.string a1_0):=(kc BK154.out 0).trans rfl;have hcz27_1:w24.cell? ⟨gb154,1,none⟩=some (.int .i64 a1_1):=(kc BK154.out 1).trans rfl;have hcz27_2:w24.cell? ⟨gb154,2,none⟩=some (.int .i64 a1_2):=(kc BK154.out 2).trans rfl;have hcz27_3:w24.cell? ⟨gb154,3,none⟩=some (.string a1_3):=(kc BK154.out 3).trans rfl;have hcz27_4:w24.cell? ⟨gb154,4,none⟩=some (.slice A1_4 l1_4.length c1_4):=(kc BK154.out 4).trans rfl;have hfz27_0:=kf BK154.out 0;have hfz27_1:=kf BK154.out 1;have hfz27_2:=kf BK154.out 2;have hfz27_3:=kf BK154.out 3;have hfz27_4:=kf BK154.out 4)|((with_reducible refine gcl (f:=33) rfl ?_);refine goesL_ (some 9) rfl rfl Tryd.func33 (by kernel_rfl) rfl #[.agg #[.string a0_0,.int .i64 a0_1,.int .i64 a0_2,.string a0_3],.agg #[.string a1_0,.int .i64 a1_1,.int .i64 a1_2,.string a1_3]] rfl (by (try simp only [zA,zC,zN]);first|done|rfl|(simp only [zM,zL];rfl)) ?_;(with_reducible refine (laws_eqItem.calls a0_0 a0_1 a0_2 a0_3 a1_0 a1_1 a1_2 a1_3 false _ A3.out).mono ?_);rintro e w28 ⟨rfl,hb⟩;refine ⟨_,rfl,?_⟩;have n0_:=AsZ.mk (kb (g:=gb153) (o := .cells #[.string a0_0,.int .i64 a0_1,.int .i64 a0_2,.string a0_3,.slice A0_4 l0_4.length c0_4] 77 (0,0)) (by (with_reducible repeat (first|refine kdN ?_ _|refine kd ?_|refine ka ?_ _));exact BK153.out) hb);have n1_:=AsZ.mk (kb (g:=gb154) (o := .cells #[.string a1_0,.int .i64 a1_1,.int .i64 a1_2,.string a1_3,.slice A1_4 l1_4.length c1_4] 77 (0,0)) (by (with_reducible repeat (first|refine kdN ?_ _|refine kd ?_|refine ka ?_ _));exact BK154.out) hb);have n2_:=AsZ.mk (bwp (by repeat (first|(with_reducible first|exact HB.out|apply bwa|apply pbN|apply bw1|refine bws ?_ GE153.out|refine bws ?_ GE154.out)|exact HB.out)) hb);clear BK153;clear BK154;clear HB;have BK153:=n0_;have BK154:=n1_;have HB:=n2_;clear n0_ n1_ n2_;(try clear hb);(try clear hb2);(try clear hk);(try clear hi)))
   go_ret
   exact ⟨by first|rfl|(simp [errW_none,errW_some]<;>rfl)|(simp [*,errW_none,errW_some]<;>rfl),by repeat (first|(with_reducible first|exact HB.out|apply bwa|apply pbN|apply bw1|refine bws ?_ GE153.out|refine bws ?_ GE154.out)|exact HB.out)⟩
 subst c4
 have H1:((laws_eqIntS.f k l0_4 l1_4).bind fun t156=>(if t156=true then (some true) else (some false)))=some r:=by rw [if_pos rfl] at H;exact H
 clear H
 have H:=H1
 clear H1
 replace H:=Option.bind_eq_some_iff.mp H
 obtain ⟨t156,A50,H⟩:=H
 replace H:(if t156=true then (some true) else (some false))=some r:=H
 have A5:=AsZ.mk A50
 clear A50
 by_cases c6:t156=true
 · subst c6
   have H1:(some true)=some r:=by rw [if_pos rfl] at H;exact H
   clear H
   have H:=H1
   clear H1
   obtain rfl:=zI H
   go_enter Tryd.func92,Tryd.ntmps92
   go_wp2_with (first|((with_reducible refine gate_dst (N:=2) rfl ?_);refine box_event ?hg (N:=2) ?hd (cs:=#[.string a0_0,.int .i64 a0_1,.int .i64 a0_2,.string a0_3,.slice A0_4 l0_4.length c0_4]) (t:=77) ?hr ?_;(case hd=>rfl);(case hg=>rfl);(case hr=>first|(go_simp;done)|(go_simp;rfl));intro gb153 hg w7 hbox hb;have n0_:=AsZ.mk (bwp (by repeat (first|(with_reducible first|exact HB.out|apply bwa|apply pbN|apply bw1)|exact HB.out)) hb);have n1_:=AsZ.mk (hbox);have n2_:=AsZ.mk ((by rw [hg];exact (bwz (by repeat (first|(with_reducible first|exact HB.out|apply bwa|apply pbN|apply bw1)|exact HB.out))):w.heap.size≤gb153));have n3_:=AsZ.mk ((by rw [hg];exact (bwz (by repeat (first|(with_reducible first|exact HB.out|apply bwa|apply pbN|apply bw1)|exact HB.out))):w.heap.size≤gb153));clear HB;have HB:=n0_;have BK153:=n1_;have GW153:=n2_;have GE153:=n3_;clear n0_ n1_ n2_ n3_;clear hb hbox hg)|((with_reducible refine gate_dst (N:=3) rfl ?_);refine box_event ?hg (N:=3) ?hd (cs:=#[.string a1_0,.int .i64 a1_1,.int .i64 a1_2,.string a1_3,.slice A1_4 l1_4.length c1_4]) (t:=77) ?hr ?_;(case hd=>rfl);(case hg=>rfl);(case hr=>first|(go_simp;done)|(go_simp;rfl));intro gb154 hg w8 hbox hb;have n0_:=AsZ.mk (kb (g:=gb153) (o := .cells #[.string a0_0,.int .i64 a0_1,.int .i64 a0_2,.string a0_3,.slice A0_4 l0_4.length c0_4] 77 (0,0)) (by (with_reducible repeat (first|refine kdN ?_ _|refine kd ?_|refine ka ?_ _));exact BK153.out) hb);have n1_:=AsZ.mk (bwp (by repeat (first|(with_reducible first|exact HB.out|apply bwa|apply pbN|apply bw1|refine bws ?_ GE153.out)|exact HB.out)) hb);have n2_:=AsZ.mk (hbox);have n3_:=AsZ.mk ((by rw [hg];exact (bwz (by repeat (first|(with_reducible first|exact HB.out|apply bwa|apply pbN|apply bw1|refine bws ?_ GE153.out)|exact HB.out))):w.heap.size≤gb154));have n4_:=AsZ.mk ((by rw [hg];exact (bwz (by repeat (first|(with_reducible first|exact HB.out|apply bwa|apply pbN|apply bw1|refine bws ?_ GE153.out)|exact HB.out))):w.heap.size≤gb154));have n5_:=AsZ.mk ((by rw [hg];exact Nat.ne_of_lt (blk_lt (g:=gb153) (o := .cells #[.string a0_0,.int .i64 a0_1,.int .i64 a0_2,.string a0_3,.slice A0_4 l0_4.length c0_4] 77 (0,0)) (by (with_reducible repeat (first|refine kdN ?_ _|refine kd ?_|refine ka ?_ _));exact BK153.out)):gb153 ≠ gb154));have n6_:=AsZ.mk ((by rw [hg];exact Nat.ne_of_gt (blk_lt (g:=gb153) (o := .cells #[.string a0_0,.int .i64 a0_1,.int .i64 a0_2,.string a0_3,.slice A0_4 l0_4.length c0_4] 77 (0,0)) (by (with_reducible repeat (first|refine kdN ?_ _|refine kd ?_|refine ka ?_ _));exact BK153.out)):gb154 ≠ gb153));clear BK153;clear HB;have BK153:=n0_;have HB:=n1_;have BK154:=n2_;have GW154:=n3_;have GE154:=n4_;have NB153_154:=n5_;have NB154_153:=n6_;clear n0_ n1_ n2_ n3_ n4_ n5_ n6_;clear hb hbox hg;have hnb9:=NB153_154.out;have hnc9:=NB154_153.out;have hcz10_0:w8.cell? ⟨gb153,0,none⟩=some (.string a0_0):=(kc BK153.out 0).trans rfl;have hcz10_1:w8.cell? ⟨gb153,1,none⟩=some (.int .i64 a0_1):=(kc BK153.out 1).trans rfl;have hcz10_2:w8.cell? ⟨gb153,2,none⟩=some (.int .i64 a0_2):=(kc BK153.out 2).trans rfl;have hcz10_3:w8.cell? ⟨gb153,3,none⟩=some (.string a0_3):=(kc BK153.out 3).trans rfl;have hcz10_4:w8.cell? ⟨gb153,4,none⟩=some (.slice A0_4 l0_4.length c0_4):=(kc BK153.out 4).trans rfl;have hfz10_0:=kf BK153.out 0;have hfz10_1:=kf BK153.out 1;have hfz10_2:=kf BK153.out 2;have hfz10_3:=kf BK153.out 3;have hfz10_4:=kf BK153.out 4;have hcz11_0:w8.cell? ⟨gb154,0,none⟩=some (.string a1_0):=(kc BK154.out 0).trans rfl;have hcz11_1:w8.cell? ⟨gb154,1,none⟩=some (.int .i64 a1_1):=(kc BK154.out 1).trans rfl;have hcz11_2:w8.cell? ⟨gb154,2,none⟩=some (.int .i64 a1_2):=(kc BK154.out 2).trans rfl;have hcz11_3:w8.cell? ⟨gb154,3,none⟩=some (.string a1_3):=(kc BK154.out 3).trans rfl;have hcz11_4:w8.cell? ⟨gb154,4,none⟩=some (.slice A1_4 l1_4.length c1_4):=(kc BK154.out 4).trans rfl;have hfz11_0:=kf BK154.out 0;have hfz11_1:=kf BK154.out 1;have hfz11_2:=kf BK154.out 2;have hfz11_3:=kf BK154.out 3;have hfz11_4:=kf BK154.out 4)|((with_reducible refine gcl (f:=33) rfl ?_);refine goesL_ (some 9) rfl rfl Tryd.func33 (by kernel_rfl) rfl #[.agg #[.string a0_0,.int .i64 a0_1,.int .i64 a0_2,.string a0_3],.agg #[.string a1_0,.int .i64 a1_1,.int .i64 a1_2,.string a1_3]] rfl (by (try simp only [zA,zC,zN]);first|done|rfl|(simp only [zM,zL];rfl)) ?_;(with_reducible refine (laws_eqItem.calls a0_0 a0_1 a0_2 a0_3 a1_0 a1_1 a1_2 a1_3 true _ A3.out).mono ?_);rintro e w12 ⟨rfl,hb⟩;refine ⟨_,rfl,?_⟩;have n0_:=AsZ.mk (kb (g:=gb153) (o := .cells #[.string a0_0,.int .i64 a0_1,.int .i64 a0_2,.string a0_3,.slice A0_4 l0_4.length c0_4] 77 (0,0)) (by (with_reducible repeat (first|refine kdN ?_ _|refine kd ?_|refine ka ?_ _));exact BK153.out) hb);have n1_:=AsZ.mk (kb (g:=gb154) (o := .cells #[.string a1_0,.int .i64 a1_1,.int .i64 a1_2,.string a1_3,.slice A1_4 l1_4.length c1_4] 77 (0,0)) (by (with_reducible repeat (first|refine kdN ?_ _|refine kd ?_|refine ka ?_ _));exact BK154.out) hb);have n2_:=AsZ.mk (bwp (by repeat (first|(with_reducible first|exact HB.out|apply bwa|apply pbN|apply bw1|refine bws ?_ GE153.out|refine bws ?_ GE154.out)|exact HB.out)) hb);clear BK153;clear BK154;clear HB;have BK153:=n0_;have BK154:=n1_;have HB:=n2_;clear n0_ n1_ n2_;(try clear hb);(try clear hb2);(try clear hk);(try clear hi);have hcz13_0:w12.cell? ⟨gb153,0,none⟩=some (.string a0_0):=(kc BK153.out 0).trans rfl;have hcz13_1:w12.cell? ⟨gb153,1,none⟩=some (.int .i64 a0_1):=(kc BK153.out 1).trans rfl;have hcz13_2:w12.cell? ⟨gb153,2,none⟩=some (.int .i64 a0_2):=(kc BK153.out 2).trans rfl;have hcz13_3:w12.cell? ⟨gb153,3,none⟩=some (.string a0_3):=(kc BK153.out 3).trans rfl;have hcz13_4:w12.cell? ⟨gb153,4,none⟩=some (.slice A0_4 l0_4.length c0_4):=(kc BK153.out 4).trans rfl;have hfz13_0:=kf BK153.out 0;have hfz13_1:=kf BK153.out 1;have hfz13_2:=kf BK153.out 2;have hfz13_3:=kf BK153.out 3;have hfz13_4:=kf BK153.out 4;have hcz14_0:w12.cell? ⟨gb154,0,none⟩=some (.string a1_0):=(kc BK154.out 0).trans rfl;have hcz14_1:w12.cell? ⟨gb154,1,none⟩=some (.int .i64 a1_1):=(kc BK154.out 1).trans rfl;have hcz14_2:w12.cell? ⟨gb154,2,none⟩=some (.int .i64 a1_2):=(kc BK154.out 2).trans rfl;have hcz14_3:w12.cell? ⟨gb154,3,none⟩=some (.string a1_3):=(kc BK154.out 3).trans rfl;have hcz14_4:w12.cell? ⟨gb154,4,none⟩=some (.slice A1_4 l1_4.length c1_4):=(kc BK154.out 4).trans rfl;have hfz14_0:=kf BK154.out 0;have hfz14_1:=kf BK154.out 1;have hfz14_2:=kf BK154.out 2;have hfz14_3:=kf BK154.out 3;have hfz14_4:=kf BK154.out 4)|((with_reducible refine gcl (f:=63) rfl ?_);refine goesL_ (some 15) rfl rfl Tryd.func63 (by kernel_rfl) rfl #[.slice A0_4 l0_4.length c0_4,.slice A1_4 l1_4.length c1_4] rfl (by (try simp only [zA,zC,zN]);first|done|rfl|(simp only [zM,zL];rfl)) ?_;(with_reducible refine (laws_eqIntS.calls k _ _ l0_4 _ _ l1_4 true _ ?side1 ?side2 ?side3 ?side4 A5.out).mono ?_);(case side1=>repeat (first|exact (Kd.C_below HR0_4.out HB.out)|(with_reducible refine Kd.C_alloc ?_ _)|(with_reducible refine Kd.C_drewN ?_ _)|(with_reducible refine Kd.C_drew ?_)));(case side2=>exact HC0_4.out);(case side3=>repeat (first|exact (Kd.C_below HR1_4.out HB.out)|(with_reducible refine Kd.C_alloc ?_ _)|(with_reducible refine Kd.C_drewN ?_ _)|(with_reducible refine Kd.C_drew ?_)));(case side4=>exact HC1_4.out);rintro e w' ⟨rfl,⟨nd,rfl⟩⟩;refine ⟨_,rfl,?_⟩))
   go_ret
   exact ⟨by first|rfl|(simp [errW_none,errW_some]<;>rfl)|(simp [*,errW_none,errW_some]<;>rfl),by repeat (first|(with_reducible first|exact HB.out|apply bwa|apply pbN|apply bw1|refine bws ?_ GE153.out|refine bws ?_ GE154.out)|exact HB.out)⟩
 replace c6:=Bool.eq_false_iff.mpr c6
 subst c6
 have H1:(some false)=some r:=by rw [if_neg (show ¬ (false=true) by decide)] at H;exact H
 clear H
 have H:=H1
 clear H1
 obtain rfl:=zI H
 go_enter Tryd.func92,Tryd.ntmps92
 go_wp2_with (first|((with_reducible refine gate_dst (N:=2) rfl ?_);refine box_event ?hg (N:=2) ?hd (cs:=#[.string a0_0,.int .i64 a0_1,.int .i64 a0_2,.string a0_3,.slice A0_4 l0_4.length c0_4]) (t:=77) ?hr ?_;(case hd=>rfl);(case hg=>rfl);(case hr=>first|(go_simp;done)|(go_simp;rfl));intro gb153 hg w15 hbox hb;have n0_:=AsZ.mk (bwp (by repeat (first|(with_reducible first|exact HB.out|apply bwa|apply pbN|apply bw1)|exact HB.out)) hb);have n1_:=AsZ.mk (hbox);have n2_:=AsZ.mk ((by rw [hg];exact (bwz (by repeat (first|(with_reducible first|exact HB.out|apply bwa|apply pbN|apply bw1)|exact HB.out))):w.heap.size≤gb153));have n3_:=AsZ.mk ((by rw [hg];exact (bwz (by repeat (first|(with_reducible first|exact HB.out|apply bwa|apply pbN|apply bw1)|exact HB.out))):w.heap.size≤gb153));clear HB;have HB:=n0_;have BK153:=n1_;have GW153:=n2_;have GE153:=n3_;clear n0_ n1_ n2_ n3_;clear hb hbox hg)|((with_reducible refine gate_dst (N:=3) rfl ?_);refine box_event ?hg (N:=3) ?hd (cs:=#[.string a1_0,.int .i64 a1_1,.int .i64 a1_2,.string a1_3,.slice A1_4 l1_4.length c1_4]) (t:=77) ?hr ?_;(case hd=>rfl);(case hg=>rfl);(case hr=>first|(go_simp;done)|(go_simp;rfl));intro gb154 hg w16 hbox hb;have n0_:=AsZ.mk (kb (g:=gb153) (o := .cells #[.string a0_0,.int .i64 a0_1,.int .i64 a0_2,.string a0_3,.slice A0_4 l0_4.length c0_4] 77 (0,0)) (by (with_reducible repeat (first|refine kdN ?_ _|refine kd ?_|refine ka ?_ _));exact BK153.out) hb);have n1_:=AsZ.mk (bwp (by repeat (first|(with_reducible first|exact HB.out|apply bwa|apply pbN|apply bw1|refine bws ?_ GE153.out)|exact HB.out)) hb);have n2_:=AsZ.mk (hbox);have n3_:=AsZ.mk ((by rw [hg];exact (bwz (by repeat (first|(with_reducible first|exact HB.out|apply bwa|apply pbN|apply bw1|refine bws ?_ GE153.out)|exact HB.out))):w.heap.size≤gb154));have n4_:=AsZ.mk ((by rw [hg];exact (bwz (by repeat (first|(with_reducible first|exact HB.out|apply bwa|apply pbN|apply bw1|refine bws ?_ GE153.out)|exact HB.out))):w.heap.size≤gb154));have n5_:=AsZ.mk ((by rw [hg];exact Nat.ne_of_lt (blk_lt (g:=gb153) (o := .cells #[.string a0_0,.int .i64 a0_1,.int .i64 a0_2,.string a0_3,.slice A0_4 l0_4.length c0_4] 77 (0,0)) (by (with_reducible repeat (first|refine kdN ?_ _|refine kd ?_|refine ka ?_ _));exact BK153.out)):gb153 ≠ gb154));have n6_:=AsZ.mk ((by rw [hg];exact Nat.ne_of_gt (blk_lt (g:=gb153) (o := .cells #[.string a0_0,.int .i64 a0_1,.int .i64 a0_2,.string a0_3,.slice A0_4 l0_4.length c0_4] 77 (0,0)) (by (with_reducible repeat (first|refine kdN ?_ _|refine kd ?_|refine ka ?_ _));exact BK153.out)):gb154 ≠ gb153));clear BK153;clear HB;have BK153:=n0_;have HB:=n1_;have BK154:=n2_;have GW154:=n3_;have GE154:=n4_;have NB153_154:=n5_;have NB154_153:=n6_;clear n0_ n1_ n2_ n3_ n4_ n5_ n6_;clear hb hbox hg;have hnb17:=NB153_154.out;have hnc17:=NB154_153.out;have hcz18_0:w16.cell? ⟨gb153,0,none⟩=some (.string a0_0):=(kc BK153.out 0).trans rfl;have hcz18_1:w16.cell? ⟨gb153,1,none⟩=some (.int .i64 a0_1):=(kc BK153.out 1).trans rfl;have hcz18_2:w16.cell? ⟨gb153,2,none⟩=some (.int .i64 a0_2):=(kc BK153.out 2).trans rfl;have hcz18_3:w16.cell? ⟨gb153,3,none⟩=some (.string a0_3):=(kc BK153.out 3).trans rfl;have hcz18_4:w16.cell? ⟨gb153,4,none⟩=some (.slice A0_4 l0_4.length c0_4):=(kc BK153.out 4).trans rfl;have hfz18_0:=kf BK153.out 0;have hfz18_1:=kf BK153.out 1;have hfz18_2:=kf BK153.out 2;have hfz18_3:=kf BK153.out 3;have hfz18_4:=kf BK153.out 4;have hcz19_0:w16.cell? ⟨gb154,0,none⟩=some (.string a1_0):=(kc BK154.out 0).trans rfl;have hcz19_1:w16.cell? ⟨gb154,1,none⟩=some (.int .i64 a1_1):=(kc BK154.out 1).trans rfl;have hcz19_2:w16.cell? ⟨gb154,2,none⟩=some (.int .i64 a1_2):=(kc BK154.out 2).trans rfl;have hcz19_3:w16.cell? ⟨gb154,3,none⟩=some (.string a1_3):=(kc BK154.out 3).trans rfl;have hcz19_4:w16.cell? ⟨gb154,4,none⟩=some (.slice A1_4 l1_4.length c1_4):=(kc BK154.out 4).trans rfl;have hfz19_0:=kf BK154.out 0;have hfz19_1:=kf BK154.out 1;have hfz19_2:=kf BK154.out 2;have hfz19_3:=kf BK154.out 3;have hfz19_4:=kf BK154.out 4)|((with_reducible refine gcl (f:=33) rfl ?_);refine goesL_ (some 9) rfl rfl Tryd.func33 (by kernel_rfl) rfl #[.agg #[.string a0_0,.int .i64 a0_1,.int .i64 a0_2,.string a0_3],.agg #[.string a1_0,.int .i64 a1_1,.int .i64 a1_2,.string a1_3]] rfl (by (try simp only [zA,zC,zN]);first|done|rfl|(simp only [zM,zL];rfl)) ?_;(with_reducible refine (laws_eqItem.calls a0_0 a0_1 a0_2 a0_3 a1_0 a1_1 a1_2 a1_3 true _ A3.out).mono ?_);rintro e w20 ⟨rfl,hb⟩;refine ⟨_,rfl,?_⟩;have n0_:=AsZ.mk (kb (g:=gb153) (o := .cells #[.string a0_0,.int .i64 a0_1,.int .i64 a0_2,.string a0_3,.slice A0_4 l0_4.length c0_4] 77 (0,0)) (by (with_reducible repeat (first|refine kdN ?_ _|refine kd ?_|refine ka ?_ _));exact BK153.out) hb);have n1_:=AsZ.mk (kb (g:=gb154) (o := .cells #[.string a1_0,.int .i64 a1_1,.int .i64 a1_2,.string a1_3,.slice A1_4 l1_4.length c1_4] 77 (0,0)) (by (with_reducible repeat (first|refine kdN ?_ _|refine kd ?_|refine ka ?_ _));exact BK154.out) hb);have n2_:=AsZ.mk (bwp (by repeat (first|(with_reducible first|exact HB.out|apply bwa|apply pbN|apply bw1|refine bws ?_ GE153.out|refine bws ?_ GE154.out)|exact HB.out)) hb);clear BK153;clear BK154;clear HB;have BK153:=n0_;have BK154:=n1_;have HB:=n2_;clear n0_ n1_ n2_;(try clear hb);(try clear hb2);(try clear hk);(try clear hi);have hcz21_0:w20.cell? ⟨gb153,0,none⟩=some (.string a0_0):=(kc BK153.out 0).trans rfl;have hcz21_1:w20.cell? ⟨gb153,1,none⟩=some (.int .i64 a0_1):=(kc BK153.out 1).trans rfl;have hcz21_2:w20.cell? ⟨gb153,2,none⟩=some (.int .i64 a0_2):=(kc BK153.out 2).trans rfl;have hcz21_3:w20.cell? ⟨gb153,3,none⟩=some (.string a0_3):=(kc BK153.out 3).trans rfl;have hcz21_4:w20.cell? ⟨gb153,4,none⟩=some (.slice A0_4 l0_4.length c0_4):=(kc BK153.out 4).trans rfl;have hfz21_0:=kf BK153.out 0;have hfz21_1:=kf BK153.out 1;have hfz21_2:=kf BK153.out 2;have hfz21_3:=kf BK153.out 3;have hfz21_4:=kf BK153.out 4;have hcz22_0:w20.cell? ⟨gb154,0,none⟩=some (.string a1_0):=(kc BK154.out 0).trans rfl;have hcz22_1:w20.cell? ⟨gb154,1,none⟩=some (.int .i64 a1_1):=(kc BK154.out 1).trans rfl;have hcz22_2:w20.cell? ⟨gb154,2,none⟩=some (.int .i64 a1_2):=(kc BK154.out 2).trans rfl;have hcz22_3:w20.cell? ⟨gb154,3,none⟩=some (.string a1_3):=(kc BK154.out 3).trans rfl;have hcz22_4:w20.cell? ⟨gb154,4,none⟩=some (.slice A1_4 l1_4.length c1_4):=(kc BK154.out 4).trans rfl;have hfz22_0:=kf BK154.out 0;have hfz22_1:=kf BK154.out 1;have hfz22_2:=kf BK154.out 2;have hfz22_3:=kf BK154.out 3;have hfz22_4:=kf BK154.out 4)|((with_reducible refine gcl (f:=63) rfl ?_);refine goesL_ (some 15) rfl rfl Tryd.func63 (by kernel_rfl) rfl #[.slice A0_4 l0_4.length c0_4,.slice A1_4 l1_4.length c1_4] rfl (by (try simp only [zA,zC,zN]);first|done|rfl|(simp only [zM,zL];rfl)) ?_;(with_reducible refine (laws_eqIntS.calls k _ _ l0_4 _ _ l1_4 false _ ?side1 ?side2 ?side3 ?side4 A5.out).mono ?_);(case side1=>repeat (first|exact (Kd.C_below HR0_4.out HB.out)|(with_reducible refine Kd.C_alloc ?_ _)|(with_reducible refine Kd.C_drewN ?_ _)|(with_reducible refine Kd.C_drew ?_)));(case side2=>exact HC0_4.out);(case side3=>repeat (first|exact (Kd.C_below HR1_4.out HB.out)|(with_reducible refine Kd.C_alloc ?_ _)|(with_reducible refine Kd.C_drewN ?_ _)|(with_reducible refine Kd.C_drew ?_)));(case side4=>exact HC1_4.out);rintro e w' ⟨rfl,⟨nd,rfl⟩⟩;refine ⟨_,rfl,?_⟩))
 go_ret
 exact ⟨by first|rfl|(simp [errW_none,errW_some]<;>rfl)|(simp [*,errW_none,errW_some]<;>rfl),by repeat (first|(with_reducible first|exact HB.out|apply bwa|apply pbN|apply bw1|refine bws ?_ GE153.out|refine bws ?_ GE154.out)|exact HB.out)⟩
/-! ### laws_eqTowerS: function 64 -/
def laws_eqTowerS.l0:Nat→List (S77)→List (S77)→Int→Option (Bool)
  |0,_,_,_=>none
  |k + 1,x0,x1,x5=>if x5 < (x0.length:Int) then (if 0≤x5 then (if x5 < (x1.length:Int) then ((laws_eqTower.f k ((rd_T77 x0 x5).f0.f0) ((rd_T77 x0 x5).f0.f1) ((rd_T77 x0 x5).f0.f2) ((rd_T77 x0 x5).f0.f3) ((rd_T77 x0 x5).f1) ((rd_T77 x1 x5).f0.f0) ((rd_T77 x1 x5).f0.f1) ((rd_T77 x1 x5).f0.f2) ((rd_T77 x1 x5).f0.f3) ((rd_T77 x1 x5).f1)).bind fun t159=>(if t159=true then (laws_eqTowerS.l0 k x0 x1 (wrap64 (x5 + 1))) else (some false))) else (none)) else (none)) else (some true)
def laws_eqTowerS.f (k:Nat) (l0:List (S77)) (l1:List (S77)):Option (Bool):=if (l0.length:Int)=(l1.length:Int) then (laws_eqTowerS.l0 k l0 l1 0) else (some false)
theorem laws_eqTowerS.mono_l:∀ k,(∀ y0 y1 y2,LeO (laws_eqTowerS.l0 k y0 y1 y2) (laws_eqTowerS.l0 (k + 1) y0 y1 y2))
  |0=>fun _ _ _ r h=>by simp [laws_eqTowerS.l0] at h
  |k + 1=>by
    have ih0:=laws_eqTowerS.mono_l k
    · intro y0 y1 y2
      unfold laws_eqTowerS.l0
      repeat' first
      |(with_reducible exact ih0 _ _ _)
      |(with_reducible exact laws_eqTower.mono _ _ _ _ _ _ _ _ _ _ _)
      |(with_reducible exact LeO.refl _)
      |(with_reducible exact LeO.none _)
      |(with_reducible refine LeO.ite ?_ ?_)
      |(with_reducible refine LeO.bind ?_ (fun _=>?_))
      |exact ih0 _ _ _
      |exact laws_eqTower.mono _ _ _ _ _ _ _ _ _ _ _
      |exact LeO.none _
      |refine LeO.ite ?_ ?_
      |refine LeO.bind ?_ (fun _=>?_)
theorem laws_eqTowerS.mono:∀ a0 a1 k,LeO (laws_eqTowerS.f k a0 a1) (laws_eqTowerS.f (k + 1) a0 a1):=by
  intro a0 a1 k
  have ih0:=laws_eqTowerS.mono_l k
  unfold laws_eqTowerS.f
  repeat' first
      |(with_reducible exact ih0 _ _ _)
      |(with_reducible exact laws_eqTower.mono _ _ _ _ _ _ _ _ _ _ _)
      |(with_reducible exact LeO.refl _)
      |(with_reducible exact LeO.none _)
      |(with_reducible refine LeO.ite ?_ ?_)
      |(with_reducible refine LeO.bind ?_ (fun _=>?_))
      |exact ih0 _ _ _
      |exact laws_eqTower.mono _ _ _ _ _ _ _ _ _ _ _
      |exact LeO.none _
      |refine LeO.ite ?_ ?_
      |refine LeO.bind ?_ (fun _=>?_)
def laws_eqTowerS.T6:Bool × List (List Nat × List Nat):=(true,[([],[]),([],[]),([0,1],[0,1]),([2],[2]),([],[]),([],[]),([4,5],[4,5]),([6],[6]),([3,7],[3,7]),([8],[8])])
def laws_eqTowerS.B6:List Nat:=[0,0,3,7,0,0,48,112,255,511]
theorem laws_eqTowerS.tab6:rtab .any (opsOf Tryd.f64 6)=laws_eqTowerS.T6:=by kernel_rfl
theorem laws_eqTowerS.bits6:waitsOk laws_eqTowerS.T6.2 laws_eqTowerS.B6=true:=by kernel_rfl
set_option maxHeartbeats 8000000 in
set_option maxRecDepth 100000 in
theorem laws_eqTowerS.calls (k:Nat) (A0:Option Addr) (c0:Nat) (l0:List (S77)) (A1:Option Addr) (c1:Nat) (l1:List (S77)) (r:Bool) (w:World) (hr0:Kd.C k77 w A0 l0.length l0) (hc0:l0.length≤c0) (hr1:Kd.C k77 w A1 l1.length l1) (hc1:l1.length≤c1) (h:laws_eqTowerS.f k l0 l1=some r) :
    Calls Tryd.prog 64 #[.slice A0 l0.length c0,.slice A1 l1.length c1] w fun e w'=>e = .returned (.bool r)∧Below w.heap.size w w':=by
 have hu77:=Tryd.underlying77
 have HR0:=AsZ.mk hr0
 have HC0:=AsZ.mk hc0
 clear hr0 hc0
 have HR1:=AsZ.mk hr1
 have HC1:=AsZ.mk hc1
 clear hr1 hc1
 have HB:=AsZ.mk (Below.refl w.heap.size w)
 have H:(if (l0.length:Int)=(l1.length:Int) then (laws_eqTowerS.l0 k l0 l1 0) else (some false))=some r:=h
 clear h
 by_cases c3:(l0.length:Int)=(l1.length:Int)
 rotate_left
 · rw [if_neg c3] at H
   have c3b0:((l0.length:Int) == (l1.length:Int))=false:=beq_eq_false_iff_ne.mpr c3
   have c3b1:((l0.length:Int) != (l1.length:Int))=true:=bne_iff_ne.mpr c3
   have c3b2:(l0.length == l1.length)=false:=by first|simpa using c3|(simp at c3 ⊢;omega)
   obtain rfl:=zI H
   go_enter Tryd.func64,Tryd.ntmps64
   go_wp2
   go_ret
   exact ⟨by first|rfl|(simp [errW_none,errW_some]<;>rfl)|(simp [*,errW_none,errW_some]<;>rfl),by repeat (first|(with_reducible first|exact HB.out|apply bwa|apply pbN|apply bw1)|exact HB.out)⟩
 rw [if_pos c3] at H
 have c3b0:((l0.length:Int) == (l1.length:Int))=true:=beq_iff_eq.mpr c3
 have c3b1:((l0.length:Int) != (l1.length:Int))=false:=bne_eq_false_iff_eq.mpr c3
 have c3b2:(l0.length == l1.length)=true:=by first|simpa using c3|(simp at c3 ⊢;omega)
 clear c3
 have H':=AsZ.mk H
 clear H
 go_enter Tryd.func64,Tryd.ntmps64
 go_wp2
 go_loopg [5] k (fun kq v5 w' => ∃ (x5_1:Int),v5 = .int .i64 x5_1∧AsZ (laws_eqTowerS.l0 kq l0 l1 x5_1=some r)∧AsZ (kq≤k)∧AsZ (Below w.heap.size w w'))
 case atStart=>exact ⟨(0),(by first|rfl|(simp;done)|(simp [*];done)),H',⟨Nat.le_refl _⟩,⟨by repeat (first|(with_reducible first|exact HB.out|apply bwa|apply pbN|apply bw1)|exact HB.out)⟩⟩
 case round =>
  clear H'
  try clear c1
  try clear p2
  try clear c3
  try clear c3b0
  try clear c3b1
  try clear c3b2
  obtain ⟨x5_1,rfl,HA,HK1,HB⟩:=hrel
  cases gk with
  |zero=>exact absurd HA.out (by simp [laws_eqTowerS.l0])
  |succ k1 =>
   have H:=HA.out
   clear HA
   simp only [laws_eqTowerS.l0] at H
   by_cases c4:x5_1 < (l0.length:Int)
   rotate_left
   · rw [if_neg c4] at H
     have c4b0:decide (x5_1 < (l0.length:Int))=false:=decide_eq_false c4
     clear c4
     obtain rfl:=zI H
     go_wp2
     go_ret
     exact ⟨by first|rfl|(simp [errW_none,errW_some]<;>rfl)|(simp [*,errW_none,errW_some]<;>rfl),by repeat (first|(with_reducible first|exact HB.out|apply bwa|apply pbN|apply bw1)|exact HB.out)⟩
   rw [if_pos c4] at H
   have c4b0:decide (x5_1 < (l0.length:Int))=true:=zE c4
   clear c4
   by_cases c5:0≤x5_1
   rotate_left
   · rw [if_neg c5] at H
     exact absurd H (by simp)
   rw [if_pos c5] at H
   have c5b0:decide (0≤x5_1)=true:=zE c5
   clear c5
   by_cases c6:x5_1 < (l1.length:Int)
   rotate_left
   · rw [if_neg c6] at H
     exact absurd H (by simp)
   rw [if_pos c6] at H
   have c6b0:decide (x5_1 < (l1.length:Int))=true:=zE c6
   clear c6
   replace H:=Option.bind_eq_some_iff.mp H
   obtain ⟨t159,A70,H⟩:=H
   replace H:(if t159=true then (laws_eqTowerS.l0 k1 l0 l1 (wrap64 (x5_1 + 1))) else (some false))=some r:=H
   have A7:=AsZ.mk A70
   clear A70
   by_cases c8:t159=true
   rotate_left
   · replace c8:=Bool.eq_false_iff.mpr c8
     subst c8
     have H1:(some false)=some r:=by rw [if_neg (show ¬ (false=true) by decide)] at H;exact H
     clear H
     have H:=H1
     clear H1
     obtain rfl:=zI H
     try go_wp2
     have n0_:=AsZ.mk (bw1 HB.out)
     clear HB
     have HB:=n0_
     clear n0_
     have p157:0≤(x5_1:Int):=zD (by first|(with_reducible assumption)|assumption)
     have q157:x5_1 < (l0.length:Int):=zD (by first|(with_reducible assumption)|assumption)
     obtain ⟨ad157,A157_4,c157_4,e157,hx157_0,hx157_1,hx157_2,hx157_3,hx157_4,hl157_4,hi157_4⟩:=at_T77 HR0.out x5_1 p157 q157
     have hw157_4:=hx157_4
     have hw157_3:=hx157_3
     have hw157_2:=hx157_2
     have hw157_1:=hx157_1
     have hw157_0:=hx157_0
     cases e157
     replace hx157_0:=(HB.out.cell (zB w _ hx157_0)).trans hx157_0
     replace hx157_1:=(HB.out.cell (zB w _ hx157_1)).trans hx157_1
     replace hx157_2:=(HB.out.cell (zB w _ hx157_2)).trans hx157_2
     replace hx157_3:=(HB.out.cell (zB w _ hx157_3)).trans hx157_3
     replace hx157_4:=(HB.out.cell (zB w _ hx157_4)).trans hx157_4
     have HR157_4:=AsZ.mk hi157_4
     have HC157_4:=AsZ.mk hl157_4
     clear hi157_4 hl157_4
     replace p157:=eq_true p157
     replace q157:=eq_true q157
     have p158:0≤(x5_1:Int):=zD (by first|(with_reducible assumption)|assumption)
     have q158:x5_1 < (l1.length:Int):=zD (by first|(with_reducible assumption)|assumption)
     obtain ⟨ad158,A158_4,c158_4,e158,hx158_0,hx158_1,hx158_2,hx158_3,hx158_4,hl158_4,hi158_4⟩:=at_T77 HR1.out x5_1 p158 q158
     have hw158_4:=hx158_4
     have hw158_3:=hx158_3
     have hw158_2:=hx158_2
     have hw158_1:=hx158_1
     have hw158_0:=hx158_0
     cases e158
     replace hx158_0:=(HB.out.cell (zB w _ hx158_0)).trans hx158_0
     replace hx158_1:=(HB.out.cell (zB w _ hx158_1)).trans hx158_1
     replace hx158_2:=(HB.out.cell (zB w _ hx158_2)).trans hx158_2
     replace hx158_3:=(HB.out.cell (zB w _ hx158_3)).trans hx158_3
     replace hx158_4:=(HB.out.cell (zB w _ hx158_4)).trans hx158_4
     have HR158_4:=AsZ.mk hi158_4
     have HC158_4:=AsZ.mk hl158_4
     clear hi158_4 hl158_4
     replace p158:=eq_true p158
     replace q158:=eq_true q158
     refine start_ (n:=10) (S:=fun w'=>w'.cell? (ad157.add ((x5_1).toNat * 5))=some (.string ((rd_T77 l0 x5_1).f0.f0))∧w'.cell? ⟨(ad157.add ((x5_1).toNat * 5)).block,(ad157.add ((x5_1).toNat * 5)).off + 1,none⟩=some (.int .i64 ((rd_T77 l0 x5_1).f0.f1))∧w'.cell? ⟨(ad157.add ((x5_1).toNat * 5)).block,(ad157.add ((x5_1).toNat * 5)).off + 2,none⟩=some (.int .i64 ((rd_T77 l0 x5_1).f0.f2))∧w'.cell? ⟨(ad157.add ((x5_1).toNat * 5)).block,(ad157.add ((x5_1).toNat * 5)).off + 3,none⟩=some (.string ((rd_T77 l0 x5_1).f0.f3))∧w'.cell? ⟨(ad157.add ((x5_1).toNat * 5)).block,(ad157.add ((x5_1).toNat * 5)).off + 4,none⟩=some (.slice A157_4 ((rd_T77 l0 x5_1).f1).length c157_4)∧w'.cell? (ad158.add ((x5_1).toNat * 5))=some (.string ((rd_T77 l1 x5_1).f0.f0))∧w'.cell? ⟨(ad158.add ((x5_1).toNat * 5)).block,(ad158.add ((x5_1).toNat * 5)).off + 1,none⟩=some (.int .i64 ((rd_T77 l1 x5_1).f0.f1))∧w'.cell? ⟨(ad158.add ((x5_1).toNat * 5)).block,(ad158.add ((x5_1).toNat * 5)).off + 2,none⟩=some (.int .i64 ((rd_T77 l1 x5_1).f0.f2))∧w'.cell? ⟨(ad158.add ((x5_1).toNat * 5)).block,(ad158.add ((x5_1).toNat * 5)).off + 3,none⟩=some (.string ((rd_T77 l1 x5_1).f0.f3))∧w'.cell? ⟨(ad158.add ((x5_1).toNat * 5)).block,(ad158.add ((x5_1).toNat * 5)).off + 4,none⟩=some (.slice A158_4 ((rd_T77 l1 x5_1).f1).length c158_4)) (ds:=[]) (b_ 0 10) (by kernel_rfl) rfl rfl ⟨((HB.out.cell (zB w _ hw157_0)).trans hw157_0),((HB.out.cell (zB w _ hw157_1)).trans hw157_1),((HB.out.cell (zB w _ hw157_2)).trans hw157_2),((HB.out.cell (zB w _ hw157_3)).trans hw157_3),((HB.out.cell (zB w _ hw157_4)).trans hw157_4),((HB.out.cell (zB w _ hw158_0)).trans hw158_0),((HB.out.cell (zB w _ hw158_1)).trans hw158_1),((HB.out.cell (zB w _ hw158_2)).trans hw158_2),((HB.out.cell (zB w _ hw158_3)).trans hw158_3),((HB.out.cell (zB w _ hw158_4)).trans hw158_4)⟩ (fun hHeld=>?_);refine with_tabW laws_eqTowerS.tab6 laws_eqTowerS.bits6 (fun HT_ HW_=>?_)
     generalize wr.drew=w11 at HB HR157_4 HR158_4 hx157_0 hx157_1 hx157_2 hx157_3 hx157_4 hx158_0 hx158_1 hx158_2 hx158_3 hx158_4 hHeld ⊢
     refine pure_ (i:=0) (N:=some 17) (v:=?_) (a':=?_) (b_ 1 9) rfl rfl (anO HT_.out (by kernel_rfl)) (fun _ _ _ h=>h) (Or.inl ⟨by rfl,?_⟩) ?_ ?_
     rotate_left
     · intro w'
       go_simp
       with_reducible rfl
     rotate_left
     · simp only [Act.put,zS,zT,zU,i64_w,i32_w]
       rfl
     refine pure_ (i:=1) (N:=some 18) (v:=?_) (a':=?_) (b_ 2 8) rfl rfl (anO HT_.out (by kernel_rfl)) (fun _ _ _ h=>h) (Or.inl ⟨by rfl,?_⟩) ?_ ?_
     rotate_left
     · intro w'
       go_simp
       with_reducible rfl
     rotate_left
     · simp only [Act.put,zS,zT,zU,i64_w,i32_w]
       rfl
     refine pure_ (i:=2) (N:=some 19) (v:=?_) (a':=?_) (b_ 3 7) rfl rfl (anO HT_.out (by kernel_rfl)) (fun _ _ _ h=>h) (Or.inl ⟨by rfl,?_⟩) ?_ ?_
     rotate_left
     · intro w'
       go_simp
       with_reducible rfl
     rotate_left
     · simp only [Act.put,zS,zT,zU,i64_w,i32_w]
       rfl
     refine pure_ (i:=4) (N:=some 21) (v:=?_) (a':=?_) #[true,true,true,false,true,false,false,false,false,false] rfl rfl (anO HT_.out (by kernel_rfl)) (fun _ _ _ h=>h) (Or.inl ⟨by rfl,?_⟩) ?_ ?_
     rotate_left
     · intro w'
       go_simp
       with_reducible rfl
     rotate_left
     · simp only [Act.put,zS,zT,zU,i64_w,i32_w]
       rfl
     refine pure_ (i:=5) (N:=some 22) (v:=?_) (a':=?_) #[true,true,true,false,true,true,false,false,false,false] rfl rfl (anO HT_.out (by kernel_rfl)) (fun _ _ _ h=>h) (Or.inl ⟨by rfl,?_⟩) ?_ ?_
     rotate_left
     · intro w'
       go_simp
       with_reducible rfl
     rotate_left
     · simp only [Act.put,zS,zT,zU,i64_w,i32_w]
       rfl
     refine pure_ (i:=6) (N:=some 23) (v:=?_) (a':=?_) #[true,true,true,false,true,true,true,false,false,false] rfl rfl (anO HT_.out (by kernel_rfl)) (fun _ _ _ h=>h) (Or.inl ⟨by rfl,?_⟩) ?_ ?_
     rotate_left
     · intro w'
       go_simp
       with_reducible rfl
     rotate_left
     · simp only [Act.put,zS,zT,zU,i64_w,i32_w]
       rfl
     refine take_ (i:=3) (N:=some 20) (v:=?_) (a':=?_) (b_ 7 3) rfl rfl (tkO HT_.out HW_.out (by kernel_rfl)) (fun _ _ _ h=>h) (Or.inl ⟨by rfl,?_⟩) hHeld ?_ ?_
     rotate_left
     · rintro w' ⟨s0,s1,s2,s3,s4,s5,s6,s7,s8,s9⟩
       go_simp
       with_reducible rfl
     rotate_left
     · simp only [Act.put,zS,zT,zU,i64_w,i32_w]
       rfl
     refine take_ (i:=7) (N:=some 24) (v:=?_) (a':=?_) (b_ 8 2) rfl rfl (tkO HT_.out HW_.out (by kernel_rfl)) (fun _ _ _ h=>h) (Or.inl ⟨by rfl,?_⟩) hHeld ?_ ?_
     rotate_left
     · rintro w' ⟨s0,s1,s2,s3,s4,s5,s6,s7,s8,s9⟩
       go_simp
       with_reducible rfl
     rotate_left
     · simp only [Act.put,zS,zT,zU,i64_w,i32_w]
       rfl
     refine one_ (i:=8) (N:=some 25) (b_ 9 1) rfl rfl (one_of HT_.out (by kernel_rfl)) (by decide) (fun K hK=>?_)
     refine goes_ Tryd.func92 (by kernel_rfl) rfl #[.agg #[.string ((rd_T77 l0 x5_1).f0.f0),.int .i64 ((rd_T77 l0 x5_1).f0.f1),.int .i64 ((rd_T77 l0 x5_1).f0.f2),.string ((rd_T77 l0 x5_1).f0.f3),.slice A157_4 ((rd_T77 l0 x5_1).f1).length c157_4],.agg #[.string ((rd_T77 l1 x5_1).f0.f0),.int .i64 ((rd_T77 l1 x5_1).f0.f1),.int .i64 ((rd_T77 l1 x5_1).f0.f2),.string ((rd_T77 l1 x5_1).f0.f3),.slice A158_4 ((rd_T77 l1 x5_1).f1).length c158_4]] (by rfl) rfl rfl (by (try simp only [zA,zC,zN]);first|done|rfl|(simp only [zM,zL];rfl)) ?_
     with_reducible refine (laws_eqTower.calls k1 ((rd_T77 l0 x5_1).f0.f0) ((rd_T77 l0 x5_1).f0.f1) ((rd_T77 l0 x5_1).f0.f2) ((rd_T77 l0 x5_1).f0.f3) _ _ ((rd_T77 l0 x5_1).f1) ((rd_T77 l1 x5_1).f0.f0) ((rd_T77 l1 x5_1).f0.f1) ((rd_T77 l1 x5_1).f0.f2) ((rd_T77 l1 x5_1).f0.f3) _ _ ((rd_T77 l1 x5_1).f1) false _ ?side1 ?side2 ?side3 ?side4 A7.out).mono ?_
     (case side1=>repeat (first|exact (Kd.C_below HR157_4.out HB.out)|(with_reducible refine Kd.C_alloc ?_ _)|(with_reducible refine Kd.C_drewN ?_ _)|(with_reducible refine Kd.C_drew ?_)))
     (case side2=>exact HC157_4.out)
     (case side3=>repeat (first|exact (Kd.C_below HR158_4.out HB.out)|(with_reducible refine Kd.C_alloc ?_ _)|(with_reducible refine Kd.C_drewN ?_ _)|(with_reducible refine Kd.C_drew ?_)))
     (case side4=>exact HC158_4.out)
     rintro e w12 ⟨rfl,hb⟩
     refine ⟨_,rfl,?_⟩
     have n0_:=AsZ.mk (bwp (by repeat (first|(with_reducible first|exact HB.out|apply bwa|apply pbN|apply bw1)|exact HB.out)) hb)
     clear HB
     have HB:=n0_
     clear n0_
     (try clear hb)
     (try clear hb2)
     (try clear hk)
     (try clear hi)
     refine hK.out _ _ ⟨((HB.out.cell (zB w _ hw157_0)).trans hw157_0),((HB.out.cell (zB w _ hw157_1)).trans hw157_1),((HB.out.cell (zB w _ hw157_2)).trans hw157_2),((HB.out.cell (zB w _ hw157_3)).trans hw157_3),((HB.out.cell (zB w _ hw157_4)).trans hw157_4),((HB.out.cell (zB w _ hw158_0)).trans hw158_0),((HB.out.cell (zB w _ hw158_1)).trans hw158_1),((HB.out.cell (zB w _ hw158_2)).trans hw158_2),((HB.out.cell (zB w _ hw158_3)).trans hw158_3),((HB.out.cell (zB w _ hw158_4)).trans hw158_4)⟩ (fun hHeld=>?_)
     clear hK K
     refine norm_ (a':=?_) ?_ ?_
     rotate_left
     · show Act.put _ (some 25) _=_
       simp only [Act.put,zS,zT,zU,i64_w,i32_w]
       rfl
     refine pure_ (i:=9) (N:=some 26) (v:=?_) (a':=?_) (b_ 10 0) rfl rfl (anO HT_.out (by kernel_rfl)) (fun _ _ _ h=>h) (Or.inl ⟨by rfl,?_⟩) ?_ ?_
     rotate_left
     · intro w'
       go_simp
       with_reducible rfl
     rotate_left
     · simp only [Act.put,zS,zT,zU,i64_w,i32_w]
       rfl
     refine dn_ (dnO HT_.out (by kernel_rfl)) ?_
     try go_wp2
     go_ret
     exact ⟨by first|rfl|(simp [errW_none,errW_some]<;>rfl)|(simp [*,errW_none,errW_some]<;>rfl),by repeat (first|(with_reducible first|exact HB.out|apply bwa|apply pbN|apply bw1)|exact HB.out)⟩
   subst c8
   have H1:(laws_eqTowerS.l0 k1 l0 l1 (wrap64 (x5_1 + 1)))=some r:=by rw [if_pos rfl] at H;exact H
   clear H
   have H:=H1
   clear H1
   have H':=AsZ.mk H
   clear H
   try go_wp2
   have n0_:=AsZ.mk (bw1 HB.out)
   clear HB
   have HB:=n0_
   clear n0_
   have p157:0≤(x5_1:Int):=zD (by first|(with_reducible assumption)|assumption)
   have q157:x5_1 < (l0.length:Int):=zD (by first|(with_reducible assumption)|assumption)
   obtain ⟨ad157,A157_4,c157_4,e157,hx157_0,hx157_1,hx157_2,hx157_3,hx157_4,hl157_4,hi157_4⟩:=at_T77 HR0.out x5_1 p157 q157
   have hw157_4:=hx157_4
   have hw157_3:=hx157_3
   have hw157_2:=hx157_2
   have hw157_1:=hx157_1
   have hw157_0:=hx157_0
   cases e157
   replace hx157_0:=(HB.out.cell (zB w _ hx157_0)).trans hx157_0
   replace hx157_1:=(HB.out.cell (zB w _ hx157_1)).trans hx157_1
   replace hx157_2:=(HB.out.cell (zB w _ hx157_2)).trans hx157_2
   replace hx157_3:=(HB.out.cell (zB w _ hx157_3)).trans hx157_3
   replace hx157_4:=(HB.out.cell (zB w _ hx157_4)).trans hx157_4
   have HR157_4:=AsZ.mk hi157_4
   have HC157_4:=AsZ.mk hl157_4
   clear hi157_4 hl157_4
   replace p157:=eq_true p157
   replace q157:=eq_true q157
   have p158:0≤(x5_1:Int):=zD (by first|(with_reducible assumption)|assumption)
   have q158:x5_1 < (l1.length:Int):=zD (by first|(with_reducible assumption)|assumption)
   obtain ⟨ad158,A158_4,c158_4,e158,hx158_0,hx158_1,hx158_2,hx158_3,hx158_4,hl158_4,hi158_4⟩:=at_T77 HR1.out x5_1 p158 q158
   have hw158_4:=hx158_4
   have hw158_3:=hx158_3
   have hw158_2:=hx158_2
   have hw158_1:=hx158_1
   have hw158_0:=hx158_0
   cases e158
   replace hx158_0:=(HB.out.cell (zB w _ hx158_0)).trans hx158_0
   replace hx158_1:=(HB.out.cell (zB w _ hx158_1)).trans hx158_1
   replace hx158_2:=(HB.out.cell (zB w _ hx158_2)).trans hx158_2
   replace hx158_3:=(HB.out.cell (zB w _ hx158_3)).trans hx158_3
   replace hx158_4:=(HB.out.cell (zB w _ hx158_4)).trans hx158_4
   have HR158_4:=AsZ.mk hi158_4
   have HC158_4:=AsZ.mk hl158_4
   clear hi158_4 hl158_4
   replace p158:=eq_true p158
   replace q158:=eq_true q158
   refine start_ (n:=10) (S:=fun w'=>w'.cell? (ad157.add ((x5_1).toNat * 5))=some (.string ((rd_T77 l0 x5_1).f0.f0))∧w'.cell? ⟨(ad157.add ((x5_1).toNat * 5)).block,(ad157.add ((x5_1).toNat * 5)).off + 1,none⟩=some (.int .i64 ((rd_T77 l0 x5_1).f0.f1))∧w'.cell? ⟨(ad157.add ((x5_1).toNat * 5)).block,(ad157.add ((x5_1).toNat * 5)).off + 2,none⟩=some (.int .i64 ((rd_T77 l0 x5_1).f0.f2))∧w'.cell? ⟨(ad157.add ((x5_1).toNat * 5)).block,(ad157.add ((x5_1).toNat * 5)).off + 3,none⟩=some (.string ((rd_T77 l0 x5_1).f0.f3))∧w'.cell? ⟨(ad157.add ((x5_1).toNat * 5)).block,(ad157.add ((x5_1).toNat * 5)).off + 4,none⟩=some (.slice A157_4 ((rd_T77 l0 x5_1).f1).length c157_4)∧w'.cell? (ad158.add ((x5_1).toNat * 5))=some (.string ((rd_T77 l1 x5_1).f0.f0))∧w'.cell? ⟨(ad158.add ((x5_1).toNat * 5)).block,(ad158.add ((x5_1).toNat * 5)).off + 1,none⟩=some (.int .i64 ((rd_T77 l1 x5_1).f0.f1))∧w'.cell? ⟨(ad158.add ((x5_1).toNat * 5)).block,(ad158.add ((x5_1).toNat * 5)).off + 2,none⟩=some (.int .i64 ((rd_T77 l1 x5_1).f0.f2))∧w'.cell? ⟨(ad158.add ((x5_1).toNat * 5)).block,(ad158.add ((x5_1).toNat * 5)).off + 3,none⟩=some (.string ((rd_T77 l1 x5_1).f0.f3))∧w'.cell? ⟨(ad158.add ((x5_1).toNat * 5)).block,(ad158.add ((x5_1).toNat * 5)).off + 4,none⟩=some (.slice A158_4 ((rd_T77 l1 x5_1).f1).length c158_4)) (ds:=[]) (b_ 0 10) (by kernel_rfl) rfl rfl ⟨((HB.out.cell (zB w _ hw157_0)).trans hw157_0),((HB.out.cell (zB w _ hw157_1)).trans hw157_1),((HB.out.cell (zB w _ hw157_2)).trans hw157_2),((HB.out.cell (zB w _ hw157_3)).trans hw157_3),((HB.out.cell (zB w _ hw157_4)).trans hw157_4),((HB.out.cell (zB w _ hw158_0)).trans hw158_0),((HB.out.cell (zB w _ hw158_1)).trans hw158_1),((HB.out.cell (zB w _ hw158_2)).trans hw158_2),((HB.out.cell (zB w _ hw158_3)).trans hw158_3),((HB.out.cell (zB w _ hw158_4)).trans hw158_4)⟩ (fun hHeld=>?_);refine with_tabW laws_eqTowerS.tab6 laws_eqTowerS.bits6 (fun HT_ HW_=>?_)
   generalize wr.drew=w9 at HB HR157_4 HR158_4 hx157_0 hx157_1 hx157_2 hx157_3 hx157_4 hx158_0 hx158_1 hx158_2 hx158_3 hx158_4 hHeld ⊢
   refine pure_ (i:=0) (N:=some 17) (v:=?_) (a':=?_) (b_ 1 9) rfl rfl (anO HT_.out (by kernel_rfl)) (fun _ _ _ h=>h) (Or.inl ⟨by rfl,?_⟩) ?_ ?_
   rotate_left
   · intro w'
     go_simp
     with_reducible rfl
   rotate_left
   · simp only [Act.put,zS,zT,zU,i64_w,i32_w]
     rfl
   refine pure_ (i:=1) (N:=some 18) (v:=?_) (a':=?_) (b_ 2 8) rfl rfl (anO HT_.out (by kernel_rfl)) (fun _ _ _ h=>h) (Or.inl ⟨by rfl,?_⟩) ?_ ?_
   rotate_left
   · intro w'
     go_simp
     with_reducible rfl
   rotate_left
   · simp only [Act.put,zS,zT,zU,i64_w,i32_w]
     rfl
   refine pure_ (i:=2) (N:=some 19) (v:=?_) (a':=?_) (b_ 3 7) rfl rfl (anO HT_.out (by kernel_rfl)) (fun _ _ _ h=>h) (Or.inl ⟨by rfl,?_⟩) ?_ ?_
   rotate_left
   · intro w'
     go_simp
     with_reducible rfl
   rotate_left
   · simp only [Act.put,zS,zT,zU,i64_w,i32_w]
     rfl
   refine pure_ (i:=4) (N:=some 21) (v:=?_) (a':=?_) #[true,true,true,false,true,false,false,false,false,false] rfl rfl (anO HT_.out (by kernel_rfl)) (fun _ _ _ h=>h) (Or.inl ⟨by rfl,?_⟩) ?_ ?_
   rotate_left
   · intro w'
     go_simp
     with_reducible rfl
   rotate_left
   · simp only [Act.put,zS,zT,zU,i64_w,i32_w]
     rfl
   refine pure_ (i:=5) (N:=some 22) (v:=?_) (a':=?_) #[true,true,true,false,true,true,false,false,false,false] rfl rfl (anO HT_.out (by kernel_rfl)) (fun _ _ _ h=>h) (Or.inl ⟨by rfl,?_⟩) ?_ ?_
   rotate_left
   · intro w'
     go_simp
     with_reducible rfl
   rotate_left
   · simp only [Act.put,zS,zT,zU,i64_w,i32_w]
     rfl
   refine pure_ (i:=6) (N:=some 23) (v:=?_) (a':=?_) #[true,true,true,false,true,true,true,false,false,false] rfl rfl (anO HT_.out (by kernel_rfl)) (fun _ _ _ h=>h) (Or.inl ⟨by rfl,?_⟩) ?_ ?_
   rotate_left
   · intro w'
     go_simp
     with_reducible rfl
   rotate_left
   · simp only [Act.put,zS,zT,zU,i64_w,i32_w]
     rfl
   refine take_ (i:=3) (N:=some 20) (v:=?_) (a':=?_) (b_ 7 3) rfl rfl (tkO HT_.out HW_.out (by kernel_rfl)) (fun _ _ _ h=>h) (Or.inl ⟨by rfl,?_⟩) hHeld ?_ ?_
   rotate_left
   · rintro w' ⟨s0,s1,s2,s3,s4,s5,s6,s7,s8,s9⟩
     go_simp
     with_reducible rfl
   rotate_left
   · simp only [Act.put,zS,zT,zU,i64_w,i32_w]
     rfl
   refine take_ (i:=7) (N:=some 24) (v:=?_) (a':=?_) (b_ 8 2) rfl rfl (tkO HT_.out HW_.out (by kernel_rfl)) (fun _ _ _ h=>h) (Or.inl ⟨by rfl,?_⟩) hHeld ?_ ?_
   rotate_left
   · rintro w' ⟨s0,s1,s2,s3,s4,s5,s6,s7,s8,s9⟩
     go_simp
     with_reducible rfl
   rotate_left
   · simp only [Act.put,zS,zT,zU,i64_w,i32_w]
     rfl
   refine one_ (i:=8) (N:=some 25) (b_ 9 1) rfl rfl (one_of HT_.out (by kernel_rfl)) (by decide) (fun K hK=>?_)
   refine goes_ Tryd.func92 (by kernel_rfl) rfl #[.agg #[.string ((rd_T77 l0 x5_1).f0.f0),.int .i64 ((rd_T77 l0 x5_1).f0.f1),.int .i64 ((rd_T77 l0 x5_1).f0.f2),.string ((rd_T77 l0 x5_1).f0.f3),.slice A157_4 ((rd_T77 l0 x5_1).f1).length c157_4],.agg #[.string ((rd_T77 l1 x5_1).f0.f0),.int .i64 ((rd_T77 l1 x5_1).f0.f1),.int .i64 ((rd_T77 l1 x5_1).f0.f2),.string ((rd_T77 l1 x5_1).f0.f3),.slice A158_4 ((rd_T77 l1 x5_1).f1).length c158_4]] (by rfl) rfl rfl (by (try simp only [zA,zC,zN]);first|done|rfl|(simp only [zM,zL];rfl)) ?_
   with_reducible refine (laws_eqTower.calls k1 ((rd_T77 l0 x5_1).f0.f0) ((rd_T77 l0 x5_1).f0.f1) ((rd_T77 l0 x5_1).f0.f2) ((rd_T77 l0 x5_1).f0.f3) _ _ ((rd_T77 l0 x5_1).f1) ((rd_T77 l1 x5_1).f0.f0) ((rd_T77 l1 x5_1).f0.f1) ((rd_T77 l1 x5_1).f0.f2) ((rd_T77 l1 x5_1).f0.f3) _ _ ((rd_T77 l1 x5_1).f1) true _ ?side1 ?side2 ?side3 ?side4 A7.out).mono ?_
   (case side1=>repeat (first|exact (Kd.C_below HR157_4.out HB.out)|(with_reducible refine Kd.C_alloc ?_ _)|(with_reducible refine Kd.C_drewN ?_ _)|(with_reducible refine Kd.C_drew ?_)))
   (case side2=>exact HC157_4.out)
   (case side3=>repeat (first|exact (Kd.C_below HR158_4.out HB.out)|(with_reducible refine Kd.C_alloc ?_ _)|(with_reducible refine Kd.C_drewN ?_ _)|(with_reducible refine Kd.C_drew ?_)))
   (case side4=>exact HC158_4.out)
   rintro e w10 ⟨rfl,hb⟩
   refine ⟨_,rfl,?_⟩
   have n0_:=AsZ.mk (bwp (by repeat (first|(with_reducible first|exact HB.out|apply bwa|apply pbN|apply bw1)|exact HB.out)) hb)
   clear HB
   have HB:=n0_
   clear n0_
   (try clear hb)
   (try clear hb2)
   (try clear hk)
   (try clear hi)
   refine hK.out _ _ ⟨((HB.out.cell (zB w _ hw157_0)).trans hw157_0),((HB.out.cell (zB w _ hw157_1)).trans hw157_1),((HB.out.cell (zB w _ hw157_2)).trans hw157_2),((HB.out.cell (zB w _ hw157_3)).trans hw157_3),((HB.out.cell (zB w _ hw157_4)).trans hw157_4),((HB.out.cell (zB w _ hw158_0)).trans hw158_0),((HB.out.cell (zB w _ hw158_1)).trans hw158_1),((HB.out.cell (zB w _ hw158_2)).trans hw158_2),((HB.out.cell (zB w _ hw158_3)).trans hw158_3),((HB.out.cell (zB w _ hw158_4)).trans hw158_4)⟩ (fun hHeld=>?_)
   clear hK K
   refine norm_ (a':=?_) ?_ ?_
   rotate_left
   · show Act.put _ (some 25) _=_
     simp only [Act.put,zS,zT,zU,i64_w,i32_w]
     rfl
   refine pure_ (i:=9) (N:=some 26) (v:=?_) (a':=?_) (b_ 10 0) rfl rfl (anO HT_.out (by kernel_rfl)) (fun _ _ _ h=>h) (Or.inl ⟨by rfl,?_⟩) ?_ ?_
   rotate_left
   · intro w'
     go_simp
     with_reducible rfl
   rotate_left
   · simp only [Act.put,zS,zT,zU,i64_w,i32_w]
     rfl
   refine dn_ (dnO HT_.out (by kernel_rfl)) ?_
   try go_wp2
   go_roundg k1
   case measure=>have:=HK1.out;omega
   case rel=>exact ⟨(wrap64 (x5_1 + 1)),(by first|rfl|(simp;done)|(simp [*];done)),H',⟨by have:=HK1.out;omega⟩,⟨by repeat (first|(with_reducible first|exact HB.out|apply bwa|apply pbN|apply bw1)|exact HB.out)⟩⟩
/-! ### laws_eqSkip: function 22 -/
def laws_eqSkip.f (k:Nat) (l0_0:List Int) (l0_1:List (S77)) (l1_0:List Int) (l1_1:List (S77)):Option (Bool):=(laws_eqIntS.f k l0_0 l1_0).bind fun t162=>(if t162=true then ((laws_eqTowerS.f k l0_1 l1_1).bind fun t163=>(if t163=true then (some true) else (some false))) else (some false))
theorem laws_eqSkip.mono:∀ a0 a1 a2 a3 k,LeO (laws_eqSkip.f k a0 a1 a2 a3) (laws_eqSkip.f (k + 1) a0 a1 a2 a3):=by
  intro a0 a1 a2 a3 k
  unfold laws_eqSkip.f
  repeat' first
      |(with_reducible exact laws_eqIntS.mono _ _ _)
      |(with_reducible exact laws_eqTowerS.mono _ _ _)
      |(with_reducible exact LeO.refl _)
      |(with_reducible exact LeO.none _)
      |(with_reducible refine LeO.ite ?_ ?_)
      |(with_reducible refine LeO.bind ?_ (fun _=>?_))
      |exact laws_eqIntS.mono _ _ _
      |exact laws_eqTowerS.mono _ _ _
      |exact LeO.none _
      |refine LeO.ite ?_ ?_
      |refine LeO.bind ?_ (fun _=>?_)
set_option maxHeartbeats 8000000 in
set_option maxRecDepth 100000 in
theorem laws_eqSkip.calls (k:Nat) (A0_0:Option Addr) (c0_0:Nat) (l0_0:List Int) (A0_1:Option Addr) (c0_1:Nat) (l0_1:List (S77)) (A1_0:Option Addr) (c1_0:Nat) (l1_0:List Int) (A1_1:Option Addr) (c1_1:Nat) (l1_1:List (S77)) (r:Bool) (w:World) (hr0_0:Kd.C (Kd.int .i64) w A0_0 l0_0.length l0_0) (hc0_0:l0_0.length≤c0_0) (hr0_1:Kd.C k77 w A0_1 l0_1.length l0_1) (hc0_1:l0_1.length≤c0_1) (hr1_0:Kd.C (Kd.int .i64) w A1_0 l1_0.length l1_0) (hc1_0:l1_0.length≤c1_0) (hr1_1:Kd.C k77 w A1_1 l1_1.length l1_1) (hc1_1:l1_1.length≤c1_1) (h:laws_eqSkip.f k l0_0 l0_1 l1_0 l1_1=some r) :
    Calls Tryd.prog 22 #[.agg #[.slice A0_0 l0_0.length c0_0,.slice A0_1 l0_1.length c0_1],.agg #[.slice A1_0 l1_0.length c1_0,.slice A1_1 l1_1.length c1_1]] w fun e w'=>e = .returned (.bool r)∧Below w.heap.size w w':=by
 have hu26:=Tryd.underlying26
 have HR0_0:=AsZ.mk hr0_0
 have HC0_0:=AsZ.mk hc0_0
 clear hr0_0 hc0_0
 have HR0_1:=AsZ.mk hr0_1
 have HC0_1:=AsZ.mk hc0_1
 clear hr0_1 hc0_1
 have HR1_0:=AsZ.mk hr1_0
 have HC1_0:=AsZ.mk hc1_0
 clear hr1_0 hc1_0
 have HR1_1:=AsZ.mk hr1_1
 have HC1_1:=AsZ.mk hc1_1
 clear hr1_1 hc1_1
 have HB:=AsZ.mk (Below.refl w.heap.size w)
 have H:((laws_eqIntS.f k l0_0 l1_0).bind fun t162=>(if t162=true then ((laws_eqTowerS.f k l0_1 l1_1).bind fun t163=>(if t163=true then (some true) else (some false))) else (some false)))=some r:=h
 clear h
 replace H:=Option.bind_eq_some_iff.mp H
 obtain ⟨t162,A30,H⟩:=H
 replace H:(if t162=true then ((laws_eqTowerS.f k l0_1 l1_1).bind fun t163=>(if t163=true then (some true) else (some false))) else (some false))=some r:=H
 have A3:=AsZ.mk A30
 clear A30
 by_cases c4:t162=true
 rotate_left
 · replace c4:=Bool.eq_false_iff.mpr c4
   subst c4
   have H1:(some false)=some r:=by rw [if_neg (show ¬ (false=true) by decide)] at H;exact H
   clear H
   have H:=H1
   clear H1
   obtain rfl:=zI H
   go_enter Tryd.func22,Tryd.ntmps22
   go_wp2_with (first|((with_reducible refine gate_dst (N:=2) rfl ?_);refine box_event ?hg (N:=2) ?hd (cs:=#[.slice A0_0 l0_0.length c0_0,.slice A0_1 l0_1.length c0_1]) (t:=26) ?hr ?_;(case hd=>rfl);(case hg=>rfl);(case hr=>first|(go_simp;done)|(go_simp;rfl));intro gb160 hg w19 hbox hb;have n0_:=AsZ.mk (bwp (by repeat (first|(with_reducible first|exact HB.out|apply bwa|apply pbN|apply bw1)|exact HB.out)) hb);have n1_:=AsZ.mk (hbox);have n2_:=AsZ.mk ((by rw [hg];exact (bwz (by repeat (first|(with_reducible first|exact HB.out|apply bwa|apply pbN|apply bw1)|exact HB.out))):w.heap.size≤gb160));have n3_:=AsZ.mk ((by rw [hg];exact (bwz (by repeat (first|(with_reducible first|exact HB.out|apply bwa|apply pbN|apply bw1)|exact HB.out))):w.heap.size≤gb160));clear HB;have HB:=n0_;have BK160:=n1_;have GW160:=n2_;have GE160:=n3_;clear n0_ n1_ n2_ n3_;clear hb hbox hg)|((with_reducible refine gate_dst (N:=3) rfl ?_);refine box_event ?hg (N:=3) ?hd (cs:=#[.slice A1_0 l1_0.length c1_0,.slice A1_1 l1_1.length c1_1]) (t:=26) ?hr ?_;(case hd=>rfl);(case hg=>rfl);(case hr=>first|(go_simp;done)|(go_simp;rfl));intro gb161 hg w20 hbox hb;have n0_:=AsZ.mk (kb (g:=gb160) (o := .cells #[.slice A0_0 l0_0.length c0_0,.slice A0_1 l0_1.length c0_1] 26 (0,0)) (by (with_reducible repeat (first|refine kdN ?_ _|refine kd ?_|refine ka ?_ _));exact BK160.out) hb);have n1_:=AsZ.mk (bwp (by repeat (first|(with_reducible first|exact HB.out|apply bwa|apply pbN|apply bw1|refine bws ?_ GE160.out)|exact HB.out)) hb);have n2_:=AsZ.mk (hbox);have n3_:=AsZ.mk ((by rw [hg];exact (bwz (by repeat (first|(with_reducible first|exact HB.out|apply bwa|apply pbN|apply bw1|refine bws ?_ GE160.out)|exact HB.out))):w.heap.size≤gb161));have n4_:=AsZ.mk ((by rw [hg];exact (bwz (by repeat (first|(with_reducible first|exact HB.out|apply bwa|apply pbN|apply bw1|refine bws ?_ GE160.out)|exact HB.out))):w.heap.size≤gb161));have n5_:=AsZ.mk ((by rw [hg];exact Nat.ne_of_lt (blk_lt (g:=gb160) (o := .cells #[.slice A0_0 l0_0.length c0_0,.slice A0_1 l0_1.length c0_1] 26 (0,0)) (by (with_reducible repeat (first|refine kdN ?_ _|refine kd ?_|refine ka ?_ _));exact BK160.out)):gb160 ≠ gb161));have n6_:=AsZ.mk ((by rw [hg];exact Nat.ne_of_gt (blk_lt (g:=gb160) (o := .cells #[.slice A0_0 l0_0.length c0_0,.slice A0_1 l0_1.length c0_1] 26 (0,0)) (by (with_reducible repeat (first|refine kdN ?_ _|refine kd ?_|refine ka ?_ _));exact BK160.out)):gb161 ≠ gb160));clear BK160;clear HB;have BK160:=n0_;have HB:=n1_;have BK161:=n2_;have GW161:=n3_;have GE161:=n4_;have NB160_161:=n5_;have NB161_160:=n6_;clear n0_ n1_ n2_ n3_ n4_ n5_ n6_;clear hb hbox hg;have hnb21:=NB160_161.out;have hnc21:=NB161_160.out;have hcz22_0:w20.cell? ⟨gb160,0,none⟩=some (.slice A0_0 l0_0.length c0_0):=(kc BK160.out 0).trans rfl;have hcz22_1:w20.cell? ⟨gb160,1,none⟩=some (.slice A0_1 l0_1.length c0_1):=(kc BK160.out 1).trans rfl;have hfz22_0:=kf BK160.out 0;have hfz22_1:=kf BK160.out 1;have hcz23_0:w20.cell? ⟨gb161,0,none⟩=some (.slice A1_0 l1_0.length c1_0):=(kc BK161.out 0).trans rfl;have hcz23_1:w20.cell? ⟨gb161,1,none⟩=some (.slice A1_1 l1_1.length c1_1):=(kc BK161.out 1).trans rfl;have hfz23_0:=kf BK161.out 0;have hfz23_1:=kf BK161.out 1)|((with_reducible refine gcl (f:=63) rfl ?_);refine goesL_ (some 9) rfl rfl Tryd.func63 (by kernel_rfl) rfl #[.slice A0_0 l0_0.length c0_0,.slice A1_0 l1_0.length c1_0] rfl (by (try simp only [zA,zC,zN]);first|done|rfl|(simp only [zM,zL];rfl)) ?_;(with_reducible refine (laws_eqIntS.calls k _ _ l0_0 _ _ l1_0 false _ ?side1 ?side2 ?side3 ?side4 A3.out).mono ?_);(case side1=>repeat (first|exact (Kd.C_below HR0_0.out HB.out)|(with_reducible refine Kd.C_alloc ?_ _)|(with_reducible refine Kd.C_drewN ?_ _)|(with_reducible refine Kd.C_drew ?_)));(case side2=>exact HC0_0.out);(case side3=>repeat (first|exact (Kd.C_below HR1_0.out HB.out)|(with_reducible refine Kd.C_alloc ?_ _)|(with_reducible refine Kd.C_drewN ?_ _)|(with_reducible refine Kd.C_drew ?_)));(case side4=>exact HC1_0.out);rintro e w' ⟨rfl,⟨nd,rfl⟩⟩;refine ⟨_,rfl,?_⟩))
   go_ret
   exact ⟨by first|rfl|(simp [errW_none,errW_some]<;>rfl)|(simp [*,errW_none,errW_some]<;>rfl),by repeat (first|(with_reducible first|exact HB.out|apply bwa|apply pbN|apply bw1|refine bws ?_ GE160.out|refine bws ?_ GE161.out)|exact HB.out)⟩
 subst c4
 have H1:((laws_eqTowerS.f k l0_1 l1_1).bind fun t163=>(if t163=true then (some true) else (some false)))=some r:=by rw [if_pos rfl] at H;exact H
 clear H
 have H:=H1
 clear H1
 replace H:=Option.bind_eq_some_iff.mp H
 obtain ⟨t163,A50,H⟩:=H
 replace H:(if t163=true then (some true) else (some false))=some r:=H
 have A5:=AsZ.mk A50
 clear A50
 by_cases c6:t163=true
 · subst c6
   have H1:(some true)=some r:=by rw [if_pos rfl] at H;exact H
   clear H
   have H:=H1
   clear H1
   obtain rfl:=zI H
   go_enter Tryd.func22,Tryd.ntmps22
   go_wp2_with (first|((with_reducible refine gate_dst (N:=2) rfl ?_);refine box_event ?hg (N:=2) ?hd (cs:=#[.slice A0_0 l0_0.length c0_0,.slice A0_1 l0_1.length c0_1]) (t:=26) ?hr ?_;(case hd=>rfl);(case hg=>rfl);(case hr=>first|(go_simp;done)|(go_simp;rfl));intro gb160 hg w7 hbox hb;have n0_:=AsZ.mk (bwp (by repeat (first|(with_reducible first|exact HB.out|apply bwa|apply pbN|apply bw1)|exact HB.out)) hb);have n1_:=AsZ.mk (hbox);have n2_:=AsZ.mk ((by rw [hg];exact (bwz (by repeat (first|(with_reducible first|exact HB.out|apply bwa|apply pbN|apply bw1)|exact HB.out))):w.heap.size≤gb160));have n3_:=AsZ.mk ((by rw [hg];exact (bwz (by repeat (first|(with_reducible first|exact HB.out|apply bwa|apply pbN|apply bw1)|exact HB.out))):w.heap.size≤gb160));clear HB;have HB:=n0_;have BK160:=n1_;have GW160:=n2_;have GE160:=n3_;clear n0_ n1_ n2_ n3_;clear hb hbox hg)|((with_reducible refine gate_dst (N:=3) rfl ?_);refine box_event ?hg (N:=3) ?hd (cs:=#[.slice A1_0 l1_0.length c1_0,.slice A1_1 l1_1.length c1_1]) (t:=26) ?hr ?_;(case hd=>rfl);(case hg=>rfl);(case hr=>first|(go_simp;done)|(go_simp;rfl));intro gb161 hg w8 hbox hb;have n0_:=AsZ.mk (kb (g:=gb160) (o := .cells #[.slice A0_0 l0_0.length c0_0,.slice A0_1 l0_1.length c0_1] 26 (0,0)) (by (with_reducible repeat (first|refine kdN ?_ _|refine kd ?_|refine ka ?_ _));exact BK160.out) hb);have n1_:=AsZ.mk (bwp (by repeat (first|(with_reducible first|exact HB.out|apply bwa|apply pbN|apply bw1|refine bws ?_ GE160.out)|exact HB.out)) hb);have n2_:=AsZ.mk (hbox);have n3_:=AsZ.mk ((by rw [hg];exact (bwz (by repeat (first|(with_reducible first|exact HB.out|apply bwa|apply pbN|apply bw1|refine bws ?_ GE160.out)|exact HB.out))):w.heap.size≤gb161));have n4_:=AsZ.mk ((by rw [hg];exact (bwz (by repeat (first|(with_reducible first|exact HB.out|apply bwa|apply pbN|apply bw1|refine bws ?_ GE160.out)|exact HB.out))):w.heap.size≤gb161));have n5_:=AsZ.mk ((by rw [hg];exact Nat.ne_of_lt (blk_lt (g:=gb160) (o := .cells #[.slice A0_0 l0_0.length c0_0,.slice A0_1 l0_1.length c0_1] 26 (0,0)) (by (with_reducible repeat (first|refine kdN ?_ _|refine kd ?_|refine ka ?_ _));exact BK160.out)):gb160 ≠ gb161));have n6_:=AsZ.mk ((by rw [hg];exact Nat.ne_of_gt (blk_lt (g:=gb160) (o := .cells #[.slice A0_0 l0_0.length c0_0,.slice A0_1 l0_1.length c0_1] 26 (0,0)) (by (with_reducible repeat (first|refine kdN ?_ _|refine kd ?_|refine ka ?_ _));exact BK160.out)):gb161 ≠ gb160));clear BK160;clear HB;have BK160:=n0_;have HB:=n1_;have BK161:=n2_;have GW161:=n3_;have GE161:=n4_;have NB160_161:=n5_;have NB161_160:=n6_;clear n0_ n1_ n2_ n3_ n4_ n5_ n6_;clear hb hbox hg;have hnb9:=NB160_161.out;have hnc9:=NB161_160.out;have hcz10_0:w8.cell? ⟨gb160,0,none⟩=some (.slice A0_0 l0_0.length c0_0):=(kc BK160.out 0).trans rfl;have hcz10_1:w8.cell? ⟨gb160,1,none⟩=some (.slice A0_1 l0_1.length c0_1):=(kc BK160.out 1).trans rfl;have hfz10_0:=kf BK160.out 0;have hfz10_1:=kf BK160.out 1;have hcz11_0:w8.cell? ⟨gb161,0,none⟩=some (.slice A1_0 l1_0.length c1_0):=(kc BK161.out 0).trans rfl;have hcz11_1:w8.cell? ⟨gb161,1,none⟩=some (.slice A1_1 l1_1.length c1_1):=(kc BK161.out 1).trans rfl;have hfz11_0:=kf BK161.out 0;have hfz11_1:=kf BK161.out 1)|((with_reducible refine gcl (f:=63) rfl ?_);refine goesL_ (some 9) rfl rfl Tryd.func63 (by kernel_rfl) rfl #[.slice A0_0 l0_0.length c0_0,.slice A1_0 l1_0.length c1_0] rfl (by (try simp only [zA,zC,zN]);first|done|rfl|(simp only [zM,zL];rfl)) ?_;(with_reducible refine (laws_eqIntS.calls k _ _ l0_0 _ _ l1_0 true _ ?side1 ?side2 ?side3 ?side4 A3.out).mono ?_);(case side1=>repeat (first|exact (Kd.C_below HR0_0.out HB.out)|(with_reducible refine Kd.C_alloc ?_ _)|(with_reducible refine Kd.C_drewN ?_ _)|(with_reducible refine Kd.C_drew ?_)));(case side2=>exact HC0_0.out);(case side3=>repeat (first|exact (Kd.C_below HR1_0.out HB.out)|(with_reducible refine Kd.C_alloc ?_ _)|(with_reducible refine Kd.C_drewN ?_ _)|(with_reducible refine Kd.C_drew ?_)));(case side4=>exact HC1_0.out);rintro e w' ⟨rfl,⟨nd,rfl⟩⟩;refine ⟨_,rfl,?_⟩)|((with_reducible refine gcl (f:=64) rfl ?_);refine goesL_ (some 15) rfl rfl Tryd.func64 (by kernel_rfl) rfl #[.slice A0_1 l0_1.length c0_1,.slice A1_1 l1_1.length c1_1] rfl (by (try simp only [zA,zC,zN]);first|done|rfl|(simp only [zM,zL];rfl)) ?_;(with_reducible refine (laws_eqTowerS.calls k _ _ l0_1 _ _ l1_1 true _ ?side1 ?side2 ?side3 ?side4 A5.out).mono ?_);(case side1=>repeat (first|exact (Kd.C_below HR0_1.out (by repeat (first|(with_reducible first|exact HB.out|apply bwa|apply pbN|apply bw1|refine bws ?_ GE160.out|refine bws ?_ GE161.out)|exact HB.out)))|(with_reducible refine Kd.C_alloc ?_ _)|(with_reducible refine Kd.C_drewN ?_ _)|(with_reducible refine Kd.C_drew ?_)));(case side2=>exact HC0_1.out);(case side3=>repeat (first|exact (Kd.C_below HR1_1.out (by repeat (first|(with_reducible first|exact HB.out|apply bwa|apply pbN|apply bw1|refine bws ?_ GE160.out|refine bws ?_ GE161.out)|exact HB.out)))|(with_reducible refine Kd.C_alloc ?_ _)|(with_reducible refine Kd.C_drewN ?_ _)|(with_reducible refine Kd.C_drew ?_)));(case side4=>exact HC1_1.out);rintro e w12 ⟨rfl,hb⟩;refine ⟨_,rfl,?_⟩;have n0_:=AsZ.mk (kb (g:=gb160) (o := .cells #[.slice A0_0 l0_0.length c0_0,.slice A0_1 l0_1.length c0_1] 26 (0,0)) (by (with_reducible repeat (first|refine kdN ?_ _|refine kd ?_|refine ka ?_ _));exact BK160.out) hb);have n1_:=AsZ.mk (kb (g:=gb161) (o := .cells #[.slice A1_0 l1_0.length c1_0,.slice A1_1 l1_1.length c1_1] 26 (0,0)) (by (with_reducible repeat (first|refine kdN ?_ _|refine kd ?_|refine ka ?_ _));exact BK161.out) hb);have n2_:=AsZ.mk (bwp (by repeat (first|(with_reducible first|exact HB.out|apply bwa|apply pbN|apply bw1|refine bws ?_ GE160.out|refine bws ?_ GE161.out)|exact HB.out)) hb);clear BK160;clear BK161;clear HB;have BK160:=n0_;have BK161:=n1_;have HB:=n2_;clear n0_ n1_ n2_;(try clear hb);(try clear hb2);(try clear hk);(try clear hi)))
   go_ret
   exact ⟨by first|rfl|(simp [errW_none,errW_some]<;>rfl)|(simp [*,errW_none,errW_some]<;>rfl),by repeat (first|(with_reducible first|exact HB.out|apply bwa|apply pbN|apply bw1|refine bws ?_ GE160.out|refine bws ?_ GE161.out)|exact HB.out)⟩
 replace c6:=Bool.eq_false_iff.mpr c6
 subst c6
 have H1:(some false)=some r:=by rw [if_neg (show ¬ (false=true) by decide)] at H;exact H
 clear H
 have H:=H1
 clear H1
 obtain rfl:=zI H
 go_enter Tryd.func22,Tryd.ntmps22
 go_wp2_with (first|((with_reducible refine gate_dst (N:=2) rfl ?_);refine box_event ?hg (N:=2) ?hd (cs:=#[.slice A0_0 l0_0.length c0_0,.slice A0_1 l0_1.length c0_1]) (t:=26) ?hr ?_;(case hd=>rfl);(case hg=>rfl);(case hr=>first|(go_simp;done)|(go_simp;rfl));intro gb160 hg w13 hbox hb;have n0_:=AsZ.mk (bwp (by repeat (first|(with_reducible first|exact HB.out|apply bwa|apply pbN|apply bw1)|exact HB.out)) hb);have n1_:=AsZ.mk (hbox);have n2_:=AsZ.mk ((by rw [hg];exact (bwz (by repeat (first|(with_reducible first|exact HB.out|apply bwa|apply pbN|apply bw1)|exact HB.out))):w.heap.size≤gb160));have n3_:=AsZ.mk ((by rw [hg];exact (bwz (by repeat (first|(with_reducible first|exact HB.out|apply bwa|apply pbN|apply bw1)|exact HB.out))):w.heap.size≤gb160));clear HB;have HB:=n0_;have BK160:=n1_;have GW160:=n2_;have GE160:=n3_;clear n0_ n1_ n2_ n3_;clear hb hbox hg)|((with_reducible refine gate_dst (N:=3) rfl ?_);refine box_event ?hg (N:=3) ?hd (cs:=#[.slice A1_0 l1_0.length c1_0,.slice A1_1 l1_1.length c1_1]) (t:=26) ?hr ?_;(case hd=>rfl);(case hg=>rfl);(case hr=>first|(go_simp;done)|(go_simp;rfl));intro gb161 hg w14 hbox hb;have n0_:=AsZ.mk (kb (g:=gb160) (o := .cells #[.slice A0_0 l0_0.length c0_0,.slice A0_1 l0_1.length c0_1] 26 (0,0)) (by (with_reducible repeat (first|refine kdN ?_ _|refine kd ?_|refine ka ?_ _));exact BK160.out) hb);have n1_:=AsZ.mk (bwp (by repeat (first|(with_reducible first|exact HB.out|apply bwa|apply pbN|apply bw1|refine bws ?_ GE160.out)|exact HB.out)) hb);have n2_:=AsZ.mk (hbox);have n3_:=AsZ.mk ((by rw [hg];exact (bwz (by repeat (first|(with_reducible first|exact HB.out|apply bwa|apply pbN|apply bw1|refine bws ?_ GE160.out)|exact HB.out))):w.heap.size≤gb161));have n4_:=AsZ.mk ((by rw [hg];exact (bwz (by repeat (first|(with_reducible first|exact HB.out|apply bwa|apply pbN|apply bw1|refine bws ?_ GE160.out)|exact HB.out))):w.heap.size≤gb161));have n5_:=AsZ.mk ((by rw [hg];exact Nat.ne_of_lt (blk_lt (g:=gb160) (o := .cells #[.slice A0_0 l0_0.length c0_0,.slice A0_1 l0_1.length c0_1] 26 (0,0)) (by (with_reducible repeat (first|refine kdN ?_ _|refine kd ?_|refine ka ?_ _));exact BK160.out)):gb160 ≠ gb161));have n6_:=AsZ.mk ((by rw [hg];exact Nat.ne_of_gt (blk_lt (g:=gb160) (o := .cells #[.slice A0_0 l0_0.length c0_0,.slice A0_1 l0_1.length c0_1] 26 (0,0)) (by (with_reducible repeat (first|refine kdN ?_ _|refine kd ?_|refine ka ?_ _));exact BK160.out)):gb161 ≠ gb160));clear BK160;clear HB;have BK160:=n0_;have HB:=n1_;have BK161:=n2_;have GW161:=n3_;have GE161:=n4_;have NB160_161:=n5_;have NB161_160:=n6_;clear n0_ n1_ n2_ n3_ n4_ n5_ n6_;clear hb hbox hg;have hnb15:=NB160_161.out;have hnc15:=NB161_160.out;have hcz16_0:w14.cell? ⟨gb160,0,none⟩=some (.slice A0_0 l0_0.length c0_0):=(kc BK160.out 0).trans rfl;have hcz16_1:w14.cell? ⟨gb160,1,none⟩=some (.slice A0_1 l0_1.length c0_1):=(kc BK160.out 1).trans rfl;have hfz16_0:=kf BK160.out 0;have hfz16_1:=kf BK160.out 1;have hcz17_0:w14.cell? ⟨gb161,0,none⟩=some (.slice A1_0 l1_0.length c1_0):=(kc BK161.out 0).trans rfl;have hcz17_1:w14.cell? ⟨gb161,1,none⟩=some (.slice A1_1 l1_1.length c1_1):=(kc BK161.out 1).trans rfl;have hfz17_0:=kf BK161.out 0;have hfz17_1:=kf BK161.out 1)|((with_reducible refine gcl (f:=63) rfl ?_);refine goesL_ (some 9) rfl rfl Tryd.func63 (by kernel_rfl) rfl #[.slice A0_0 l0_0.length c0_0,.slice A1_0 l1_0.length c1_0] rfl (by (try simp only [zA,zC,zN]);first|done|rfl|(simp only [zM,zL];rfl)) ?_;(with_reducible refine (laws_eqIntS.calls k _ _ l0_0 _ _ l1_0 true _ ?side1 ?side2 ?side3 ?side4 A3.out).mono ?_);(case side1=>repeat (first|exact (Kd.C_below HR0_0.out HB.out)|(with_reducible refine Kd.C_alloc ?_ _)|(with_reducible refine Kd.C_drewN ?_ _)|(with_reducible refine Kd.C_drew ?_)));(case side2=>exact HC0_0.out);(case side3=>repeat (first|exact (Kd.C_below HR1_0.out HB.out)|(with_reducible refine Kd.C_alloc ?_ _)|(with_reducible refine Kd.C_drewN ?_ _)|(with_reducible refine Kd.C_drew ?_)));(case side4=>exact HC1_0.out);rintro e w' ⟨rfl,⟨nd,rfl⟩⟩;refine ⟨_,rfl,?_⟩)|((with_reducible refine gcl (f:=64) rfl ?_);refine goesL_ (some 15) rfl rfl Tryd.func64 (by kernel_rfl) rfl #[.slice A0_1 l0_1.length c0_1,.slice A1_1 l1_1.length c1_1] rfl (by (try simp only [zA,zC,zN]);first|done|rfl|(simp only [zM,zL];rfl)) ?_;(with_reducible refine (laws_eqTowerS.calls k _ _ l0_1 _ _ l1_1 false _ ?side1 ?side2 ?side3 ?side4 A5.out).mono ?_);(case side1=>repeat (first|exact (Kd.C_below HR0_1.out (by repeat (first|(with_reducible first|exact HB.out|apply bwa|apply pbN|apply bw1|refine bws ?_ GE160.out|refine bws ?_ GE161.out)|exact HB.out)))|(with_reducible refine Kd.C_alloc ?_ _)|(with_reducible refine Kd.C_drewN ?_ _)|(with_reducible refine Kd.C_drew ?_)));(case side2=>exact HC0_1.out);(case side3=>repeat (first|exact (Kd.C_below HR1_1.out (by repeat (first|(with_reducible first|exact HB.out|apply bwa|apply pbN|apply bw1|refine bws ?_ GE160.out|refine bws ?_ GE161.out)|exact HB.out)))|(with_reducible refine Kd.C_alloc ?_ _)|(with_reducible refine Kd.C_drewN ?_ _)|(with_reducible refine Kd.C_drew ?_)));(case side4=>exact HC1_1.out);rintro e w18 ⟨rfl,hb⟩;refine ⟨_,rfl,?_⟩;have n0_:=AsZ.mk (kb (g:=gb160) (o := .cells #[.slice A0_0 l0_0.length c0_0,.slice A0_1 l0_1.length c0_1] 26 (0,0)) (by (with_reducible repeat (first|refine kdN ?_ _|refine kd ?_|refine ka ?_ _));exact BK160.out) hb);have n1_:=AsZ.mk (kb (g:=gb161) (o := .cells #[.slice A1_0 l1_0.length c1_0,.slice A1_1 l1_1.length c1_1] 26 (0,0)) (by (with_reducible repeat (first|refine kdN ?_ _|refine kd ?_|refine ka ?_ _));exact BK161.out) hb);have n2_:=AsZ.mk (bwp (by repeat (first|(with_reducible first|exact HB.out|apply bwa|apply pbN|apply bw1|refine bws ?_ GE160.out|refine bws ?_ GE161.out)|exact HB.out)) hb);clear BK160;clear BK161;clear HB;have BK160:=n0_;have BK161:=n1_;have HB:=n2_;clear n0_ n1_ n2_;(try clear hb);(try clear hb2);(try clear hk);(try clear hi)))
 go_ret
 exact ⟨by first|rfl|(simp [errW_none,errW_some]<;>rfl)|(simp [*,errW_none,errW_some]<;>rfl),by repeat (first|(with_reducible first|exact HB.out|apply bwa|apply pbN|apply bw1|refine bws ?_ GE160.out|refine bws ?_ GE161.out)|exact HB.out)⟩
/-! ### impl_in: function 50 -/
def impl_in.f (a0:Int) (a1:Int) (a2:Int):Option (Bool):=if a0 ≥ a1 then (some (decide (a0≤a2))) else (some false)
set_option maxHeartbeats 8000000 in
set_option maxRecDepth 100000 in
theorem impl_in.calls (a0:Int) (a1:Int) (a2:Int) (r:Bool) (w:World) (h:impl_in.f a0 a1 a2=some r) :
    Calls Tryd.prog 50 #[.int .i64 a0,.int .i64 a1,.int .i64 a2] w fun e w'=>e = .returned (.bool r)∧Drawn0 w w':=by
 have H:(if a0 ≥ a1 then (some (decide (a0≤a2))) else (some false))=some r:=h
 clear h
 by_cases c4:a0 ≥ a1
 · rw [if_pos c4] at H
   have c4b0:decide (a1≤a0)=true:=zE c4
   clear c4
   obtain rfl:=zI H
   go_enter Tryd.func50,Tryd.ntmps50
   go_wp2
   go_ret
   exact ⟨by first|rfl|(simp;done)|(simp [*];done),by repeat (first|exact Drawn0.refl _|apply Drawn0.step)⟩
 rw [if_neg c4] at H
 have c4b0:decide (a1≤a0)=false:=decide_eq_false c4
 clear c4
 obtain rfl:=zI H
 go_enter Tryd.func50,Tryd.ntmps50
 go_wp2
 go_ret
 exact ⟨by first|rfl|(simp;done)|(simp [*];done),by repeat (first|exact Drawn0.refl _|apply Drawn0.step)⟩
/-! ### impl_isKey: function 70 -/
def impl_isKey.f (a0:ByteArray):Option (Bool):=(impl_in.f (a0.size:Int) 1 16).bind fun t164=>(some t164)
set_option maxHeartbeats 8000000 in
set_option maxRecDepth 100000 in
theorem impl_isKey.calls (a0:ByteArray) (r:Bool) (w:World) (h:impl_isKey.f a0=some r) :
    Calls Tryd.prog 70 #[.string a0] w fun e w'=>e = .returned (.bool r)∧Drawn0 w w':=by
 have H:((impl_in.f (a0.size:Int) 1 16).bind fun t164=>(some t164))=some r:=h
 clear h
 replace H:=Option.bind_eq_some_iff.mp H
 obtain ⟨t164,A20,H⟩:=H
 replace H:(some t164)=some r:=H
 have A2:=AsZ.mk A20
 clear A20
 obtain rfl:=zI H
 go_enter Tryd.func70,Tryd.ntmps70
 go_wp2_with (first|((with_reducible refine gcl (f:=50) rfl ?_);refine goesL_ (some 5) rfl rfl Tryd.func50 (by kernel_rfl) rfl #[.int .i64 (a0.size:Int),.int .i64 1,.int .i64 16] rfl (by (try simp only [zA,zC,zN]);first|done|rfl|(simp only [zM,zL];rfl)) ?_;(with_reducible refine (impl_in.calls (a0.size:Int) 1 16 t164 _ A2.out).mono ?_);rintro e w' ⟨rfl,⟨nd,rfl⟩⟩;refine ⟨_,rfl,?_⟩))
 go_ret
 exact ⟨by first|rfl|(simp;done)|(simp [*];done),by repeat (first|exact Drawn0.refl _|apply Drawn0.step)⟩
/-! ### impl_isSeq: function 71 -/
def impl_isSeq.f (a0:Int):Option (Bool):=(impl_in.f a0 0 1000000000).bind fun t165=>(some t165)
set_option maxHeartbeats 8000000 in
set_option maxRecDepth 100000 in
theorem impl_isSeq.calls (a0:Int) (r:Bool) (w:World) (h:impl_isSeq.f a0=some r) :
    Calls Tryd.prog 71 #[.int .i64 a0] w fun e w'=>e = .returned (.bool r)∧Drawn0 w w':=by
 have H:((impl_in.f a0 0 1000000000).bind fun t165=>(some t165))=some r:=h
 clear h
 replace H:=Option.bind_eq_some_iff.mp H
 obtain ⟨t165,A20,H⟩:=H
 replace H:(some t165)=some r:=H
 have A2:=AsZ.mk A20
 clear A20
 obtain rfl:=zI H
 go_enter Tryd.func71,Tryd.ntmps71
 go_wp2_with (first|((with_reducible refine gcl (f:=50) rfl ?_);refine goesL_ (some 4) rfl rfl Tryd.func50 (by kernel_rfl) rfl #[.int .i64 a0,.int .i64 0,.int .i64 1000000000] rfl (by (try simp only [zA,zC,zN]);first|done|rfl|(simp only [zM,zL];rfl)) ?_;(with_reducible refine (impl_in.calls a0 0 1000000000 t165 _ A2.out).mono ?_);rintro e w' ⟨rfl,⟨nd,rfl⟩⟩;refine ⟨_,rfl,?_⟩))
 go_ret
 exact ⟨by first|rfl|(simp;done)|(simp [*];done),by repeat (first|exact Drawn0.refl _|apply Drawn0.step)⟩
/-! ### impl_isValue: function 80 -/
def impl_isValue.f (a0:ByteArray):Option (Bool):=some (decide ((a0.size:Int)≤40))
set_option maxHeartbeats 8000000 in
set_option maxRecDepth 100000 in
theorem impl_isValue.calls (a0:ByteArray) (r:Bool) (w:World) (h:impl_isValue.f a0=some r) :
    Calls Tryd.prog 80 #[.string a0] w fun e w'=>e = .returned (.bool r)∧Drawn0 w w':=by
 have H:(some (decide ((a0.size:Int)≤40)))=some r:=h
 clear h
 obtain rfl:=zI H
 go_enter Tryd.func80,Tryd.ntmps80
 go_wp2
 go_ret
 exact ⟨by first|rfl|(simp;done)|(simp [*];done),by repeat (first|exact Drawn0.refl _|apply Drawn0.step)⟩
/-! ### impl_GoodItem: function 39 -/
def impl_GoodItem.f (a0_0:ByteArray) (a0_1:Int) (a0_2:Int) (a0_3:ByteArray):Option (Bool):=(impl_isKey.f a0_0).bind fun t167=>(if t167=true then ((impl_isSeq.f a0_1).bind fun t168=>(if t168=true then ((impl_in.f a0_2 0 1).bind fun t169=>(if t169=true then ((impl_isValue.f a0_3).bind fun t170=>(if t170=true then (if a0_2=1 then (some true) else (some (a0_3.toList == ([]:List UInt8)))) else (some false))) else (some false))) else (some false))) else (some false))
set_option maxHeartbeats 8000000 in
set_option maxRecDepth 100000 in
theorem impl_GoodItem.calls (a0_0:ByteArray) (a0_1:Int) (a0_2:Int) (a0_3:ByteArray) (r:Bool) (w:World) (h:impl_GoodItem.f a0_0 a0_1 a0_2 a0_3=some r) :
    Calls Tryd.prog 39 #[.agg #[.string a0_0,.int .i64 a0_1,.int .i64 a0_2,.string a0_3]] w fun e w'=>e = .returned (.bool r)∧Below w.heap.size w w':=by
 have hu28:=Tryd.underlying28
 have HB:=AsZ.mk (Below.refl w.heap.size w)
 have H:((impl_isKey.f a0_0).bind fun t167=>(if t167=true then ((impl_isSeq.f a0_1).bind fun t168=>(if t168=true then ((impl_in.f a0_2 0 1).bind fun t169=>(if t169=true then ((impl_isValue.f a0_3).bind fun t170=>(if t170=true then (if a0_2=1 then (some true) else (some (a0_3.toList == ([]:List UInt8)))) else (some false))) else (some false))) else (some false))) else (some false)))=some r:=h
 clear h
 replace H:=Option.bind_eq_some_iff.mp H
 obtain ⟨t167,A20,H⟩:=H
 replace H:(if t167=true then ((impl_isSeq.f a0_1).bind fun t168=>(if t168=true then ((impl_in.f a0_2 0 1).bind fun t169=>(if t169=true then ((impl_isValue.f a0_3).bind fun t170=>(if t170=true then (if a0_2=1 then (some true) else (some (a0_3.toList == ([]:List UInt8)))) else (some false))) else (some false))) else (some false))) else (some false))=some r:=H
 have A2:=AsZ.mk A20
 clear A20
 by_cases c3:t167=true
 rotate_left
 · replace c3:=Bool.eq_false_iff.mpr c3
   subst c3
   have H1:(some false)=some r:=by rw [if_neg (show ¬ (false=true) by decide)] at H;exact H
   clear H
   have H:=H1
   clear H1
   obtain rfl:=zI H
   go_enter Tryd.func39,Tryd.ntmps39
   go_wp2_with (first|((with_reducible refine gate_dst (N:=1) rfl ?_);refine box_event ?hg (N:=1) ?hd (cs:=#[.string a0_0,.int .i64 a0_1,.int .i64 a0_2,.string a0_3]) (t:=28) ?hr ?_;(case hd=>rfl);(case hg=>rfl);(case hr=>first|(go_simp;done)|(go_simp;rfl));intro gb166 hg w21 hbox hb;have n0_:=AsZ.mk (bwp (by repeat (first|(with_reducible first|exact HB.out|apply bwa|apply pbN|apply bw1)|exact HB.out)) hb);have n1_:=AsZ.mk (hbox);have n2_:=AsZ.mk ((by rw [hg];exact (bwz (by repeat (first|(with_reducible first|exact HB.out|apply bwa|apply pbN|apply bw1)|exact HB.out))):w.heap.size≤gb166));have n3_:=AsZ.mk ((by rw [hg];exact (bwz (by repeat (first|(with_reducible first|exact HB.out|apply bwa|apply pbN|apply bw1)|exact HB.out))):w.heap.size≤gb166));clear HB;have HB:=n0_;have BK166:=n1_;have GW166:=n2_;have GE166:=n3_;clear n0_ n1_ n2_ n3_;clear hb hbox hg;have hcz22_0:w21.cell? ⟨gb166,0,none⟩=some (.string a0_0):=(kc BK166.out 0).trans rfl;have hcz22_1:w21.cell? ⟨gb166,1,none⟩=some (.int .i64 a0_1):=(kc BK166.out 1).trans rfl;have hcz22_2:w21.cell? ⟨gb166,2,none⟩=some (.int .i64 a0_2):=(kc BK166.out 2).trans rfl;have hcz22_3:w21.cell? ⟨gb166,3,none⟩=some (.string a0_3):=(kc BK166.out 3).trans rfl;have hfz22_0:=kf BK166.out 0;have hfz22_1:=kf BK166.out 1;have hfz22_2:=kf BK166.out 2;have hfz22_3:=kf BK166.out 3)|((with_reducible refine gcl (f:=70) rfl ?_);refine goesL_ (some 5) rfl rfl Tryd.func70 (by kernel_rfl) rfl #[.string a0_0] rfl (by (try simp only [zA,zC,zN]);first|done|rfl|(simp only [zM,zL];rfl)) ?_;(with_reducible refine (impl_isKey.calls a0_0 false _ A2.out).mono ?_);rintro e w' ⟨rfl,⟨nd,rfl⟩⟩;refine ⟨_,rfl,?_⟩))
   go_ret
   exact ⟨by first|rfl|(simp [errW_none,errW_some]<;>rfl)|(simp [*,errW_none,errW_some]<;>rfl),by repeat (first|(with_reducible first|exact HB.out|apply bwa|apply pbN|apply bw1|refine bws ?_ GE166.out)|exact HB.out)⟩
 subst c3
 have H1:((impl_isSeq.f a0_1).bind fun t168=>(if t168=true then ((impl_in.f a0_2 0 1).bind fun t169=>(if t169=true then ((impl_isValue.f a0_3).bind fun t170=>(if t170=true then (if a0_2=1 then (some true) else (some (a0_3.toList == ([]:List UInt8)))) else (some false))) else (some false))) else (some false)))=some r:=by rw [if_pos rfl] at H;exact H
 clear H
 have H:=H1
 clear H1
 replace H:=Option.bind_eq_some_iff.mp H
 obtain ⟨t168,A40,H⟩:=H
 replace H:(if t168=true then ((impl_in.f a0_2 0 1).bind fun t169=>(if t169=true then ((impl_isValue.f a0_3).bind fun t170=>(if t170=true then (if a0_2=1 then (some true) else (some (a0_3.toList == ([]:List UInt8)))) else (some false))) else (some false))) else (some false))=some r:=H
 have A4:=AsZ.mk A40
 clear A40
 by_cases c5:t168=true
 rotate_left
 · replace c5:=Bool.eq_false_iff.mpr c5
   subst c5
   have H1:(some false)=some r:=by rw [if_neg (show ¬ (false=true) by decide)] at H;exact H
   clear H
   have H:=H1
   clear H1
   obtain rfl:=zI H
   go_enter Tryd.func39,Tryd.ntmps39
   go_wp2_with (first|((with_reducible refine gate_dst (N:=1) rfl ?_);refine box_event ?hg (N:=1) ?hd (cs:=#[.string a0_0,.int .i64 a0_1,.int .i64 a0_2,.string a0_3]) (t:=28) ?hr ?_;(case hd=>rfl);(case hg=>rfl);(case hr=>first|(go_simp;done)|(go_simp;rfl));intro gb166 hg w19 hbox hb;have n0_:=AsZ.mk (bwp (by repeat (first|(with_reducible first|exact HB.out|apply bwa|apply pbN|apply bw1)|exact HB.out)) hb);have n1_:=AsZ.mk (hbox);have n2_:=AsZ.mk ((by rw [hg];exact (bwz (by repeat (first|(with_reducible first|exact HB.out|apply bwa|apply pbN|apply bw1)|exact HB.out))):w.heap.size≤gb166));have n3_:=AsZ.mk ((by rw [hg];exact (bwz (by repeat (first|(with_reducible first|exact HB.out|apply bwa|apply pbN|apply bw1)|exact HB.out))):w.heap.size≤gb166));clear HB;have HB:=n0_;have BK166:=n1_;have GW166:=n2_;have GE166:=n3_;clear n0_ n1_ n2_ n3_;clear hb hbox hg;have hcz20_0:w19.cell? ⟨gb166,0,none⟩=some (.string a0_0):=(kc BK166.out 0).trans rfl;have hcz20_1:w19.cell? ⟨gb166,1,none⟩=some (.int .i64 a0_1):=(kc BK166.out 1).trans rfl;have hcz20_2:w19.cell? ⟨gb166,2,none⟩=some (.int .i64 a0_2):=(kc BK166.out 2).trans rfl;have hcz20_3:w19.cell? ⟨gb166,3,none⟩=some (.string a0_3):=(kc BK166.out 3).trans rfl;have hfz20_0:=kf BK166.out 0;have hfz20_1:=kf BK166.out 1;have hfz20_2:=kf BK166.out 2;have hfz20_3:=kf BK166.out 3)|((with_reducible refine gcl (f:=70) rfl ?_);refine goesL_ (some 5) rfl rfl Tryd.func70 (by kernel_rfl) rfl #[.string a0_0] rfl (by (try simp only [zA,zC,zN]);first|done|rfl|(simp only [zM,zL];rfl)) ?_;(with_reducible refine (impl_isKey.calls a0_0 true _ A2.out).mono ?_);rintro e w' ⟨rfl,⟨nd,rfl⟩⟩;refine ⟨_,rfl,?_⟩)|(go_at_call 71;(with_reducible refine (impl_isSeq.calls a0_1 false _ A4.out).mono ?_);rintro e w' ⟨rfl,⟨nd,rfl⟩⟩))
   go_ret
   exact ⟨by first|rfl|(simp [errW_none,errW_some]<;>rfl)|(simp [*,errW_none,errW_some]<;>rfl),by repeat (first|(with_reducible first|exact HB.out|apply bwa|apply pbN|apply bw1|refine bws ?_ GE166.out)|exact HB.out)⟩
 subst c5
 have H1:((impl_in.f a0_2 0 1).bind fun t169=>(if t169=true then ((impl_isValue.f a0_3).bind fun t170=>(if t170=true then (if a0_2=1 then (some true) else (some (a0_3.toList == ([]:List UInt8)))) else (some false))) else (some false)))=some r:=by rw [if_pos rfl] at H;exact H
 clear H
 have H:=H1
 clear H1
 replace H:=Option.bind_eq_some_iff.mp H
 obtain ⟨t169,A60,H⟩:=H
 replace H:(if t169=true then ((impl_isValue.f a0_3).bind fun t170=>(if t170=true then (if a0_2=1 then (some true) else (some (a0_3.toList == ([]:List UInt8)))) else (some false))) else (some false))=some r:=H
 have A6:=AsZ.mk A60
 clear A60
 by_cases c7:t169=true
 rotate_left
 · replace c7:=Bool.eq_false_iff.mpr c7
   subst c7
   have H1:(some false)=some r:=by rw [if_neg (show ¬ (false=true) by decide)] at H;exact H
   clear H
   have H:=H1
   clear H1
   obtain rfl:=zI H
   go_enter Tryd.func39,Tryd.ntmps39
   go_wp2_with (first|((with_reducible refine gate_dst (N:=1) rfl ?_);refine box_event ?hg (N:=1) ?hd (cs:=#[.string a0_0,.int .i64 a0_1,.int .i64 a0_2,.string a0_3]) (t:=28) ?hr ?_;(case hd=>rfl);(case hg=>rfl);(case hr=>first|(go_simp;done)|(go_simp;rfl));intro gb166 hg w17 hbox hb;have n0_:=AsZ.mk (bwp (by repeat (first|(with_reducible first|exact HB.out|apply bwa|apply pbN|apply bw1)|exact HB.out)) hb);have n1_:=AsZ.mk (hbox);have n2_:=AsZ.mk ((by rw [hg];exact (bwz (by repeat (first|(with_reducible first|exact HB.out|apply bwa|apply pbN|apply bw1)|exact HB.out))):w.heap.size≤gb166));have n3_:=AsZ.mk ((by rw [hg];exact (bwz (by repeat (first|(with_reducible first|exact HB.out|apply bwa|apply pbN|apply bw1)|exact HB.out))):w.heap.size≤gb166));clear HB;have HB:=n0_;have BK166:=n1_;have GW166:=n2_;have GE166:=n3_;clear n0_ n1_ n2_ n3_;clear hb hbox hg;have hcz18_0:w17.cell? ⟨gb166,0,none⟩=some (.string a0_0):=(kc BK166.out 0).trans rfl;have hcz18_1:w17.cell? ⟨gb166,1,none⟩=some (.int .i64 a0_1):=(kc BK166.out 1).trans rfl;have hcz18_2:w17.cell? ⟨gb166,2,none⟩=some (.int .i64 a0_2):=(kc BK166.out 2).trans rfl;have hcz18_3:w17.cell? ⟨gb166,3,none⟩=some (.string a0_3):=(kc BK166.out 3).trans rfl;have hfz18_0:=kf BK166.out 0;have hfz18_1:=kf BK166.out 1;have hfz18_2:=kf BK166.out 2;have hfz18_3:=kf BK166.out 3)|((with_reducible refine gcl (f:=70) rfl ?_);refine goesL_ (some 5) rfl rfl Tryd.func70 (by kernel_rfl) rfl #[.string a0_0] rfl (by (try simp only [zA,zC,zN]);first|done|rfl|(simp only [zM,zL];rfl)) ?_;(with_reducible refine (impl_isKey.calls a0_0 true _ A2.out).mono ?_);rintro e w' ⟨rfl,⟨nd,rfl⟩⟩;refine ⟨_,rfl,?_⟩)|(go_at_call 71;(with_reducible refine (impl_isSeq.calls a0_1 true _ A4.out).mono ?_);rintro e w' ⟨rfl,⟨nd,rfl⟩⟩)|(go_at_call 50;(with_reducible refine (impl_in.calls a0_2 0 1 false _ A6.out).mono ?_);rintro e w' ⟨rfl,⟨nd,rfl⟩⟩))
   go_ret
   exact ⟨by first|rfl|(simp [errW_none,errW_some]<;>rfl)|(simp [*,errW_none,errW_some]<;>rfl),by repeat (first|(with_reducible first|exact HB.out|apply bwa|apply pbN|apply bw1|refine bws ?_ GE166.out)|exact HB.out)⟩
 subst c7
 have H1:((impl_isValue.f a0_3).bind fun t170=>(if t170=true then (if a0_2=1 then (some true) else (some (a0_3.toList == ([]:List UInt8)))) else (some false)))=some r:=by rw [if_pos rfl] at H;exact H
 clear H
 have H:=H1
 clear H1
 replace H:=Option.bind_eq_some_iff.mp H
 obtain ⟨t170,A80,H⟩:=H
 replace H:(if t170=true then (if a0_2=1 then (some true) else (some (a0_3.toList == ([]:List UInt8)))) else (some false))=some r:=H
 have A8:=AsZ.mk A80
 clear A80
 by_cases c9:t170=true
 rotate_left
 · replace c9:=Bool.eq_false_iff.mpr c9
   subst c9
   have H1:(some false)=some r:=by rw [if_neg (show ¬ (false=true) by decide)] at H;exact H
   clear H
   have H:=H1
   clear H1
   obtain rfl:=zI H
   go_enter Tryd.func39,Tryd.ntmps39
   go_wp2_with (first|((with_reducible refine gate_dst (N:=1) rfl ?_);refine box_event ?hg (N:=1) ?hd (cs:=#[.string a0_0,.int .i64 a0_1,.int .i64 a0_2,.string a0_3]) (t:=28) ?hr ?_;(case hd=>rfl);(case hg=>rfl);(case hr=>first|(go_simp;done)|(go_simp;rfl));intro gb166 hg w15 hbox hb;have n0_:=AsZ.mk (bwp (by repeat (first|(with_reducible first|exact HB.out|apply bwa|apply pbN|apply bw1)|exact HB.out)) hb);have n1_:=AsZ.mk (hbox);have n2_:=AsZ.mk ((by rw [hg];exact (bwz (by repeat (first|(with_reducible first|exact HB.out|apply bwa|apply pbN|apply bw1)|exact HB.out))):w.heap.size≤gb166));have n3_:=AsZ.mk ((by rw [hg];exact (bwz (by repeat (first|(with_reducible first|exact HB.out|apply bwa|apply pbN|apply bw1)|exact HB.out))):w.heap.size≤gb166));clear HB;have HB:=n0_;have BK166:=n1_;have GW166:=n2_;have GE166:=n3_;clear n0_ n1_ n2_ n3_;clear hb hbox hg;have hcz16_0:w15.cell? ⟨gb166,0,none⟩=some (.string a0_0):=(kc BK166.out 0).trans rfl;have hcz16_1:w15.cell? ⟨gb166,1,none⟩=some (.int .i64 a0_1):=(kc BK166.out 1).trans rfl;have hcz16_2:w15.cell? ⟨gb166,2,none⟩=some (.int .i64 a0_2):=(kc BK166.out 2).trans rfl;have hcz16_3:w15.cell? ⟨gb166,3,none⟩=some (.string a0_3):=(kc BK166.out 3).trans rfl;have hfz16_0:=kf BK166.out 0;have hfz16_1:=kf BK166.out 1;have hfz16_2:=kf BK166.out 2;have hfz16_3:=kf BK166.out 3)|((with_reducible refine gcl (f:=70) rfl ?_);refine goesL_ (some 5) rfl rfl Tryd.func70 (by kernel_rfl) rfl #[.string a0_0] rfl (by (try simp only [zA,zC,zN]);first|done|rfl|(simp only [zM,zL];rfl)) ?_;(with_reducible refine (impl_isKey.calls a0_0 true _ A2.out).mono ?_);rintro e w' ⟨rfl,⟨nd,rfl⟩⟩;refine ⟨_,rfl,?_⟩)|(go_at_call 71;(with_reducible refine (impl_isSeq.calls a0_1 true _ A4.out).mono ?_);rintro e w' ⟨rfl,⟨nd,rfl⟩⟩)|(go_at_call 50;(with_reducible refine (impl_in.calls a0_2 0 1 true _ A6.out).mono ?_);rintro e w' ⟨rfl,⟨nd,rfl⟩⟩)|(go_at_call 80;(with_reducible refine (impl_isValue.calls a0_3 false _ A8.out).mono ?_);rintro e w' ⟨rfl,⟨nd,rfl⟩⟩))
   go_ret
   exact ⟨by first|rfl|(simp [errW_none,errW_some]<;>rfl)|(simp [*,errW_none,errW_some]<;>rfl),by repeat (first|(with_reducible first|exact HB.out|apply bwa|apply pbN|apply bw1|refine bws ?_ GE166.out)|exact HB.out)⟩
 subst c9
 have H1:(if a0_2=1 then (some true) else (some (a0_3.toList == ([]:List UInt8))))=some r:=by rw [if_pos rfl] at H;exact H
 clear H
 have H:=H1
 clear H1
 by_cases c10:a0_2=1
 rotate_left
 · rw [if_neg c10] at H
   have c10b0:(a0_2 == 1)=false:=beq_eq_false_iff_ne.mpr c10
   have c10b1:(a0_2 != 1)=true:=bne_iff_ne.mpr c10
   obtain rfl:=zI H
   go_enter Tryd.func39,Tryd.ntmps39
   go_wp2_with (first|((with_reducible refine gate_dst (N:=1) rfl ?_);refine box_event ?hg (N:=1) ?hd (cs:=#[.string a0_0,.int .i64 a0_1,.int .i64 a0_2,.string a0_3]) (t:=28) ?hr ?_;(case hd=>rfl);(case hg=>rfl);(case hr=>first|(go_simp;done)|(go_simp;rfl));intro gb166 hg w13 hbox hb;have n0_:=AsZ.mk (bwp (by repeat (first|(with_reducible first|exact HB.out|apply bwa|apply pbN|apply bw1)|exact HB.out)) hb);have n1_:=AsZ.mk (hbox);have n2_:=AsZ.mk ((by rw [hg];exact (bwz (by repeat (first|(with_reducible first|exact HB.out|apply bwa|apply pbN|apply bw1)|exact HB.out))):w.heap.size≤gb166));have n3_:=AsZ.mk ((by rw [hg];exact (bwz (by repeat (first|(with_reducible first|exact HB.out|apply bwa|apply pbN|apply bw1)|exact HB.out))):w.heap.size≤gb166));clear HB;have HB:=n0_;have BK166:=n1_;have GW166:=n2_;have GE166:=n3_;clear n0_ n1_ n2_ n3_;clear hb hbox hg;have hcz14_0:w13.cell? ⟨gb166,0,none⟩=some (.string a0_0):=(kc BK166.out 0).trans rfl;have hcz14_1:w13.cell? ⟨gb166,1,none⟩=some (.int .i64 a0_1):=(kc BK166.out 1).trans rfl;have hcz14_2:w13.cell? ⟨gb166,2,none⟩=some (.int .i64 a0_2):=(kc BK166.out 2).trans rfl;have hcz14_3:w13.cell? ⟨gb166,3,none⟩=some (.string a0_3):=(kc BK166.out 3).trans rfl;have hfz14_0:=kf BK166.out 0;have hfz14_1:=kf BK166.out 1;have hfz14_2:=kf BK166.out 2;have hfz14_3:=kf BK166.out 3)|((with_reducible refine gcl (f:=70) rfl ?_);refine goesL_ (some 5) rfl rfl Tryd.func70 (by kernel_rfl) rfl #[.string a0_0] rfl (by (try simp only [zA,zC,zN]);first|done|rfl|(simp only [zM,zL];rfl)) ?_;(with_reducible refine (impl_isKey.calls a0_0 true _ A2.out).mono ?_);rintro e w' ⟨rfl,⟨nd,rfl⟩⟩;refine ⟨_,rfl,?_⟩)|(go_at_call 71;(with_reducible refine (impl_isSeq.calls a0_1 true _ A4.out).mono ?_);rintro e w' ⟨rfl,⟨nd,rfl⟩⟩)|(go_at_call 50;(with_reducible refine (impl_in.calls a0_2 0 1 true _ A6.out).mono ?_);rintro e w' ⟨rfl,⟨nd,rfl⟩⟩)|(go_at_call 80;(with_reducible refine (impl_isValue.calls a0_3 true _ A8.out).mono ?_);rintro e w' ⟨rfl,⟨nd,rfl⟩⟩))
   go_ret
   exact ⟨by first|rfl|(simp [errW_none,errW_some]<;>rfl)|(simp [*,errW_none,errW_some]<;>rfl),by repeat (first|(with_reducible first|exact HB.out|apply bwa|apply pbN|apply bw1|refine bws ?_ GE166.out)|exact HB.out)⟩
 rw [if_pos c10] at H
 have c10b0:(a0_2 == 1)=true:=beq_iff_eq.mpr c10
 have c10b1:(a0_2 != 1)=false:=bne_eq_false_iff_eq.mpr c10
 clear c10
 obtain rfl:=zI H
 go_enter Tryd.func39,Tryd.ntmps39
 go_wp2_with (first|((with_reducible refine gate_dst (N:=1) rfl ?_);refine box_event ?hg (N:=1) ?hd (cs:=#[.string a0_0,.int .i64 a0_1,.int .i64 a0_2,.string a0_3]) (t:=28) ?hr ?_;(case hd=>rfl);(case hg=>rfl);(case hr=>first|(go_simp;done)|(go_simp;rfl));intro gb166 hg w11 hbox hb;have n0_:=AsZ.mk (bwp (by repeat (first|(with_reducible first|exact HB.out|apply bwa|apply pbN|apply bw1)|exact HB.out)) hb);have n1_:=AsZ.mk (hbox);have n2_:=AsZ.mk ((by rw [hg];exact (bwz (by repeat (first|(with_reducible first|exact HB.out|apply bwa|apply pbN|apply bw1)|exact HB.out))):w.heap.size≤gb166));have n3_:=AsZ.mk ((by rw [hg];exact (bwz (by repeat (first|(with_reducible first|exact HB.out|apply bwa|apply pbN|apply bw1)|exact HB.out))):w.heap.size≤gb166));clear HB;have HB:=n0_;have BK166:=n1_;have GW166:=n2_;have GE166:=n3_;clear n0_ n1_ n2_ n3_;clear hb hbox hg;have hcz12_0:w11.cell? ⟨gb166,0,none⟩=some (.string a0_0):=(kc BK166.out 0).trans rfl;have hcz12_1:w11.cell? ⟨gb166,1,none⟩=some (.int .i64 a0_1):=(kc BK166.out 1).trans rfl;have hcz12_2:w11.cell? ⟨gb166,2,none⟩=some (.int .i64 a0_2):=(kc BK166.out 2).trans rfl;have hcz12_3:w11.cell? ⟨gb166,3,none⟩=some (.string a0_3):=(kc BK166.out 3).trans rfl;have hfz12_0:=kf BK166.out 0;have hfz12_1:=kf BK166.out 1;have hfz12_2:=kf BK166.out 2;have hfz12_3:=kf BK166.out 3)|((with_reducible refine gcl (f:=70) rfl ?_);refine goesL_ (some 5) rfl rfl Tryd.func70 (by kernel_rfl) rfl #[.string a0_0] rfl (by (try simp only [zA,zC,zN]);first|done|rfl|(simp only [zM,zL];rfl)) ?_;(with_reducible refine (impl_isKey.calls a0_0 true _ A2.out).mono ?_);rintro e w' ⟨rfl,⟨nd,rfl⟩⟩;refine ⟨_,rfl,?_⟩)|(go_at_call 71;(with_reducible refine (impl_isSeq.calls a0_1 true _ A4.out).mono ?_);rintro e w' ⟨rfl,⟨nd,rfl⟩⟩)|(go_at_call 50;(with_reducible refine (impl_in.calls a0_2 0 1 true _ A6.out).mono ?_);rintro e w' ⟨rfl,⟨nd,rfl⟩⟩)|(go_at_call 80;(with_reducible refine (impl_isValue.calls a0_3 true _ A8.out).mono ?_);rintro e w' ⟨rfl,⟨nd,rfl⟩⟩))
 go_ret
 exact ⟨by first|rfl|(simp [errW_none,errW_some]<;>rfl)|(simp [*,errW_none,errW_some]<;>rfl),by repeat (first|(with_reducible first|exact HB.out|apply bwa|apply pbN|apply bw1|refine bws ?_ GE166.out)|exact HB.out)⟩
end Go.Proofs.YtffjlpphcjfdgaaDoor.MFnExactFindSkip
