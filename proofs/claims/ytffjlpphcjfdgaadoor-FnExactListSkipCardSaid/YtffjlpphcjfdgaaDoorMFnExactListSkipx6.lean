-- Written by a program of this session out of the translation. Not trusted: Lean checks it.
import Derived.Test.YtffjlpphcjfdgaaDoorMFnExactListSkipx0
namespace Go.Proofs.YtffjlpphcjfdgaaDoor.MFnExactListSkip
-- short
-- shrunk
-- TAB
-- RD
open Go.Proofs.YtffjlpphcjfdgaaDoor Go.RowKit Go.Proofs.YtffjlpphcjfdgaaDoorW.PrintWords Go.Proofs.YtffjlpphcjfdgaaDoorW.PrintLast Go.Proofs.YtffjlpphcjfdgaaDoorW.PrintMore Go.Proofs.YtffjlpphcjfdgaaDoorX
attribute [local go_sem] max2_int min2_int max_two min_two max_three min_three max_four min_four str_gtr str_leq str_geq cell_twice
set_option linter.unusedVariables false
set_option linter.unusedSimpArgs false
/-! ### spec_l4Compare: function 47 -/
mutual
def spec_l4Compare.j0:Nat→Bool→ByteArray→Int→Int→ByteArray→ByteArray→Int→Int→ByteArray→Option (Int)
  |0,_,_,_,_,_,_,_,_,_=>none
  |k + 1,x5,x182000,x182001,x182002,x182003,x183000,x183001,x183002,x183003=>if x5=true then (some (-1)) else (if x182000.toList=x183000.toList then (spec_l4Compare.j1 k (x182001 == x183001)) else (spec_l4Compare.j1 k false))
def spec_l4Compare.j1:Nat→Bool→Option (Int)
  |0,_=>none
  |k + 1,x25=>if x25=true then (some 0) else (some 1)
end
def spec_l4Compare.f (k:Nat) (a0_0:ByteArray) (a0_1:Int) (a0_2:Int) (a0_3:ByteArray) (a1_0:ByteArray) (a1_1:Int) (a1_2:Int) (a1_3:ByteArray):Option (Int):=if (Op.bytesLess a0_0.toList a1_0.toList)=true then (spec_l4Compare.j0 k true a0_0 a0_1 a0_2 a0_3 a1_0 a1_1 a1_2 a1_3) else (if a0_0.toList=a1_0.toList then (spec_l4Compare.j0 k (decide (a0_1 > a1_1)) a0_0 a0_1 a0_2 a0_3 a1_0 a1_1 a1_2 a1_3) else (spec_l4Compare.j0 k false a0_0 a0_1 a0_2 a0_3 a1_0 a1_1 a1_2 a1_3))
theorem spec_l4Compare.mono_l:∀ k,(∀ y0 y1 y2 y3 y4 y5 y6 y7 y8,LeO (spec_l4Compare.j0 k y0 y1 y2 y3 y4 y5 y6 y7 y8) (spec_l4Compare.j0 (k + 1) y0 y1 y2 y3 y4 y5 y6 y7 y8))∧(∀ y0,LeO (spec_l4Compare.j1 k y0) (spec_l4Compare.j1 (k + 1) y0))
  |0=>⟨fun _ _ _ _ _ _ _ _ _ r h=>by simp [spec_l4Compare.j0] at h,fun _ r h=>by simp [spec_l4Compare.j1] at h⟩
  |k + 1=>by
    obtain ⟨ih0,ih1⟩:=spec_l4Compare.mono_l k
    refine ⟨?_,?_⟩
    · intro y0 y1 y2 y3 y4 y5 y6 y7 y8
      unfold spec_l4Compare.j0
      repeat' first
      |(with_reducible exact ih0 _ _ _ _ _ _ _ _ _)
      |(with_reducible exact ih1 _)
      |(with_reducible exact LeO.refl _)
      |(with_reducible exact LeO.none _)
      |(with_reducible refine LeO.ite ?_ ?_)
      |(with_reducible refine LeO.bind ?_ (fun _=>?_))
      |exact ih0 _ _ _ _ _ _ _ _ _
      |exact ih1 _
      |exact LeO.none _
      |refine LeO.ite ?_ ?_
      |refine LeO.bind ?_ (fun _=>?_)
    · intro y0
      unfold spec_l4Compare.j1
      repeat' first
      |(with_reducible exact ih0 _ _ _ _ _ _ _ _ _)
      |(with_reducible exact ih1 _)
      |(with_reducible exact LeO.refl _)
      |(with_reducible exact LeO.none _)
      |(with_reducible refine LeO.ite ?_ ?_)
      |(with_reducible refine LeO.bind ?_ (fun _=>?_))
      |exact ih0 _ _ _ _ _ _ _ _ _
      |exact ih1 _
      |exact LeO.none _
      |refine LeO.ite ?_ ?_
      |refine LeO.bind ?_ (fun _=>?_)
theorem spec_l4Compare.mono:∀ a0 a1 a2 a3 a4 a5 a6 a7 k,LeO (spec_l4Compare.f k a0 a1 a2 a3 a4 a5 a6 a7) (spec_l4Compare.f (k + 1) a0 a1 a2 a3 a4 a5 a6 a7):=by
  intro a0 a1 a2 a3 a4 a5 a6 a7 k
  obtain ⟨ih0,ih1⟩:=spec_l4Compare.mono_l k
  unfold spec_l4Compare.f
  repeat' first
      |(with_reducible exact ih0 _ _ _ _ _ _ _ _ _)
      |(with_reducible exact ih1 _)
      |(with_reducible exact LeO.refl _)
      |(with_reducible exact LeO.none _)
      |(with_reducible refine LeO.ite ?_ ?_)
      |(with_reducible refine LeO.bind ?_ (fun _=>?_))
      |exact ih0 _ _ _ _ _ _ _ _ _
      |exact ih1 _
      |exact LeO.none _
      |refine LeO.ite ?_ ?_
      |refine LeO.bind ?_ (fun _=>?_)
set_option maxHeartbeats 8000000 in
set_option maxRecDepth 100000 in
theorem spec_l4Compare.calls (k:Nat) (a0_0:ByteArray) (a0_1:Int) (a0_2:Int) (a0_3:ByteArray) (a1_0:ByteArray) (a1_1:Int) (a1_2:Int) (a1_3:ByteArray) (r:Int) (w:World) (h:spec_l4Compare.f k a0_0 a0_1 a0_2 a0_3 a1_0 a1_1 a1_2 a1_3=some r) :
    Calls Tryd.prog 47 #[.agg #[.string a0_0,.int .i64 a0_1,.int .i64 a0_2,.string a0_3],.agg #[.string a1_0,.int .i64 a1_1,.int .i64 a1_2,.string a1_3]] w fun e w'=>e = .returned (.int .i64 r)∧Below w.heap.size w w':=by
 have hu28:=Tryd.underlying28
 have HB:=AsZ.mk (Below.refl w.heap.size w)
 have H:(if (Op.bytesLess a0_0.toList a1_0.toList)=true then (spec_l4Compare.j0 k true a0_0 a0_1 a0_2 a0_3 a1_0 a1_1 a1_2 a1_3) else (if a0_0.toList=a1_0.toList then (spec_l4Compare.j0 k (decide (a0_1 > a1_1)) a0_0 a0_1 a0_2 a0_3 a1_0 a1_1 a1_2 a1_3) else (spec_l4Compare.j0 k false a0_0 a0_1 a0_2 a0_3 a1_0 a1_1 a1_2 a1_3)))=some r:=h
 clear h
 have HC3:=AsZ.mk H
 clear H
 go_enter Tryd.func47,Tryd.ntmps47
 go_upto_region 1 with (first|((with_reducible refine gate_dst (N:=2) rfl ?_);refine box_event ?hg (N:=2) ?hd (cs:=#[.string a0_0,.int .i64 a0_1,.int .i64 a0_2,.string a0_3]) (t:=28) ?hr ?_;(case hd=>rfl);(case hg=>rfl);(case hr=>first|(go_simp;done)|(go_simp;rfl));intro gb181 hg w4 hbox hb;have n0_:=AsZ.mk (bwp (by repeat (first|(with_reducible first|exact HB.out|apply bwa|apply pbN|apply bw1)|exact HB.out)) hb);have n1_:=AsZ.mk (hbox);have n2_:=AsZ.mk ((by rw [hg];exact (bwz (by repeat (first|(with_reducible first|exact HB.out|apply bwa|apply pbN|apply bw1)|exact HB.out))):w.heap.size≤gb181));have n3_:=AsZ.mk ((by rw [hg];exact (bwz (by repeat (first|(with_reducible first|exact HB.out|apply bwa|apply pbN|apply bw1)|exact HB.out))):w.heap.size≤gb181));clear HB;have HB:=n0_;have BK181:=n1_;have GW181:=n2_;have GE181:=n3_;clear n0_ n1_ n2_ n3_;clear hb hbox hg)|((with_reducible refine gate_dst (N:=3) rfl ?_);refine box_event ?hg (N:=3) ?hd (cs:=#[.string a1_0,.int .i64 a1_1,.int .i64 a1_2,.string a1_3]) (t:=28) ?hr ?_;(case hd=>rfl);(case hg=>rfl);(case hr=>first|(go_simp;done)|(go_simp;rfl));intro gb182 hg w5 hbox hb;have n0_:=AsZ.mk (kb (g:=gb181) (o := .cells #[.string a0_0,.int .i64 a0_1,.int .i64 a0_2,.string a0_3] 28 (0,0)) (by (with_reducible repeat (first|refine kdN ?_ _|refine kd ?_|refine ka ?_ _));exact BK181.out) hb);have n1_:=AsZ.mk (bwp (by repeat (first|(with_reducible first|exact HB.out|apply bwa|apply pbN|apply bw1|refine bws ?_ GE181.out)|exact HB.out)) hb);have n2_:=AsZ.mk (hbox);have n3_:=AsZ.mk ((by rw [hg];exact (bwz (by repeat (first|(with_reducible first|exact HB.out|apply bwa|apply pbN|apply bw1|refine bws ?_ GE181.out)|exact HB.out))):w.heap.size≤gb182));have n4_:=AsZ.mk ((by rw [hg];exact (bwz (by repeat (first|(with_reducible first|exact HB.out|apply bwa|apply pbN|apply bw1|refine bws ?_ GE181.out)|exact HB.out))):w.heap.size≤gb182));have n5_:=AsZ.mk ((by rw [hg];exact Nat.ne_of_lt (blk_lt (g:=gb181) (o := .cells #[.string a0_0,.int .i64 a0_1,.int .i64 a0_2,.string a0_3] 28 (0,0)) (by (with_reducible repeat (first|refine kdN ?_ _|refine kd ?_|refine ka ?_ _));exact BK181.out)):gb181 ≠ gb182));have n6_:=AsZ.mk ((by rw [hg];exact Nat.ne_of_gt (blk_lt (g:=gb181) (o := .cells #[.string a0_0,.int .i64 a0_1,.int .i64 a0_2,.string a0_3] 28 (0,0)) (by (with_reducible repeat (first|refine kdN ?_ _|refine kd ?_|refine ka ?_ _));exact BK181.out)):gb182 ≠ gb181));clear BK181;clear HB;have BK181:=n0_;have HB:=n1_;have BK182:=n2_;have GW182:=n3_;have GE182:=n4_;have NB181_182:=n5_;have NB182_181:=n6_;clear n0_ n1_ n2_ n3_ n4_ n5_ n6_;clear hb hbox hg))
 (try simp only [Act.put,zS,zT,zU])
 go_cut [5] (fun v5 wc => ∃ (kq:Nat) (x5_2:Bool),v5 = .bool x5_2∧AsZ (spec_l4Compare.j0 kq x5_2 a0_0 a0_1 a0_2 a0_3 a1_0 a1_1 a1_2 a1_3=some r)∧AsZ (kq≤k)∧AsZ (wc.heap[gb181]? = some (.cells #[.string a0_0,.int .i64 a0_1,.int .i64 a0_2,.string a0_3] 28 (0,0)))∧AsZ (wc.heap[gb182]? = some (.cells #[.string a1_0,.int .i64 a1_1,.int .i64 a1_2,.string a1_3] 28 (0,0)))∧AsZ (Below w.heap.size w wc))
 case first =>
  have H:=HC3.out
  clear HC3
  by_cases c6:(Op.bytesLess a0_0.toList a1_0.toList)=true
  · rw [if_pos c6] at H
    have c6b0:(Op.bytesLess a0_0.toList a1_0.toList)=true:=c6
    clear c6
    (first|rw [c6b0]|(simp only [i64_w,i32_w];rw [c6b0])|rw [c6b1]|skip)
    have H':=AsZ.mk H
    clear H
    have hnb7:=NB181_182.out
    have hnc7:=NB182_181.out
    have hcz8_0:w5.cell? ⟨gb181,0,none⟩=some (.string a0_0):=(kc BK181.out 0).trans rfl
    have hcz8_1:w5.cell? ⟨gb181,1,none⟩=some (.int .i64 a0_1):=(kc BK181.out 1).trans rfl
    have hcz8_2:w5.cell? ⟨gb181,2,none⟩=some (.int .i64 a0_2):=(kc BK181.out 2).trans rfl
    have hcz8_3:w5.cell? ⟨gb181,3,none⟩=some (.string a0_3):=(kc BK181.out 3).trans rfl
    have hfz8_0:=kf BK181.out 0
    have hfz8_1:=kf BK181.out 1
    have hfz8_2:=kf BK181.out 2
    have hfz8_3:=kf BK181.out 3
    have hcz9_0:w5.cell? ⟨gb182,0,none⟩=some (.string a1_0):=(kc BK182.out 0).trans rfl
    have hcz9_1:w5.cell? ⟨gb182,1,none⟩=some (.int .i64 a1_1):=(kc BK182.out 1).trans rfl
    have hcz9_2:w5.cell? ⟨gb182,2,none⟩=some (.int .i64 a1_2):=(kc BK182.out 2).trans rfl
    have hcz9_3:w5.cell? ⟨gb182,3,none⟩=some (.string a1_3):=(kc BK182.out 3).trans rfl
    have hfz9_0:=kf BK182.out 0
    have hfz9_1:=kf BK182.out 1
    have hfz9_2:=kf BK182.out 2
    have hfz9_3:=kf BK182.out 3
    go_wp2
    go_meet
    case rel=>exact ⟨_,(true),(by first|rfl|(simp;done)|(simp [*];done)),H',⟨by first|omega|exact Nat.le_refl _⟩,⟨by (with_reducible repeat (first|refine kdN ?_ _|refine kd ?_|refine ka ?_ _));exact BK181.out⟩,⟨by (with_reducible repeat (first|refine kdN ?_ _|refine kd ?_|refine ka ?_ _));exact BK182.out⟩,⟨by repeat (first|(with_reducible first|exact HB.out|apply bwa|apply pbN|apply bw1|refine bws ?_ GE181.out|refine bws ?_ GE182.out)|exact HB.out)⟩⟩
  rw [if_neg c6] at H
  have c6b0:(Op.bytesLess a0_0.toList a1_0.toList)=false:=by simpa using c6
  clear c6
  (first|rw [c6b0]|(simp only [i64_w,i32_w];rw [c6b0])|rw [c6b1]|skip)
  by_cases c10:a0_0.toList=a1_0.toList
  rotate_left
  · rw [if_neg c10] at H
    have c10b0:(a0_0.toList == a1_0.toList)=false:=beq_eq_false_iff_ne.mpr c10
    have c10b1:(a0_0.toList != a1_0.toList)=true:=bne_iff_ne.mpr c10
    have H':=AsZ.mk H
    clear H
    have hnb14:=NB181_182.out
    have hnc14:=NB182_181.out
    have hcz15_0:w5.cell? ⟨gb181,0,none⟩=some (.string a0_0):=(kc BK181.out 0).trans rfl
    have hcz15_1:w5.cell? ⟨gb181,1,none⟩=some (.int .i64 a0_1):=(kc BK181.out 1).trans rfl
    have hcz15_2:w5.cell? ⟨gb181,2,none⟩=some (.int .i64 a0_2):=(kc BK181.out 2).trans rfl
    have hcz15_3:w5.cell? ⟨gb181,3,none⟩=some (.string a0_3):=(kc BK181.out 3).trans rfl
    have hfz15_0:=kf BK181.out 0
    have hfz15_1:=kf BK181.out 1
    have hfz15_2:=kf BK181.out 2
    have hfz15_3:=kf BK181.out 3
    have hcz16_0:w5.cell? ⟨gb182,0,none⟩=some (.string a1_0):=(kc BK182.out 0).trans rfl
    have hcz16_1:w5.cell? ⟨gb182,1,none⟩=some (.int .i64 a1_1):=(kc BK182.out 1).trans rfl
    have hcz16_2:w5.cell? ⟨gb182,2,none⟩=some (.int .i64 a1_2):=(kc BK182.out 2).trans rfl
    have hcz16_3:w5.cell? ⟨gb182,3,none⟩=some (.string a1_3):=(kc BK182.out 3).trans rfl
    have hfz16_0:=kf BK182.out 0
    have hfz16_1:=kf BK182.out 1
    have hfz16_2:=kf BK182.out 2
    have hfz16_3:=kf BK182.out 3
    go_wp2
    go_meet
    case rel=>exact ⟨_,(false),(by first|rfl|(simp;done)|(simp [*];done)),H',⟨by first|omega|exact Nat.le_refl _⟩,⟨by (with_reducible repeat (first|refine kdN ?_ _|refine kd ?_|refine ka ?_ _));exact BK181.out⟩,⟨by (with_reducible repeat (first|refine kdN ?_ _|refine kd ?_|refine ka ?_ _));exact BK182.out⟩,⟨by repeat (first|(with_reducible first|exact HB.out|apply bwa|apply pbN|apply bw1|refine bws ?_ GE181.out|refine bws ?_ GE182.out)|exact HB.out)⟩⟩
  rw [if_pos c10] at H
  have c10b0:(a0_0.toList == a1_0.toList)=true:=beq_iff_eq.mpr c10
  have c10b1:(a0_0.toList != a1_0.toList)=false:=bne_eq_false_iff_eq.mpr c10
  clear c10
  have H':=AsZ.mk H
  clear H
  have hnb11:=NB181_182.out
  have hnc11:=NB182_181.out
  have hcz12_0:w5.cell? ⟨gb181,0,none⟩=some (.string a0_0):=(kc BK181.out 0).trans rfl
  have hcz12_1:w5.cell? ⟨gb181,1,none⟩=some (.int .i64 a0_1):=(kc BK181.out 1).trans rfl
  have hcz12_2:w5.cell? ⟨gb181,2,none⟩=some (.int .i64 a0_2):=(kc BK181.out 2).trans rfl
  have hcz12_3:w5.cell? ⟨gb181,3,none⟩=some (.string a0_3):=(kc BK181.out 3).trans rfl
  have hfz12_0:=kf BK181.out 0
  have hfz12_1:=kf BK181.out 1
  have hfz12_2:=kf BK181.out 2
  have hfz12_3:=kf BK181.out 3
  have hcz13_0:w5.cell? ⟨gb182,0,none⟩=some (.string a1_0):=(kc BK182.out 0).trans rfl
  have hcz13_1:w5.cell? ⟨gb182,1,none⟩=some (.int .i64 a1_1):=(kc BK182.out 1).trans rfl
  have hcz13_2:w5.cell? ⟨gb182,2,none⟩=some (.int .i64 a1_2):=(kc BK182.out 2).trans rfl
  have hcz13_3:w5.cell? ⟨gb182,3,none⟩=some (.string a1_3):=(kc BK182.out 3).trans rfl
  have hfz13_0:=kf BK182.out 0
  have hfz13_1:=kf BK182.out 1
  have hfz13_2:=kf BK182.out 2
  have hfz13_3:=kf BK182.out 3
  go_wp2
  go_meet
  case rel=>exact ⟨_,(decide (a0_1 > a1_1)),(by first|rfl|(simp;done)|(simp [*];done)),H',⟨by first|omega|exact Nat.le_refl _⟩,⟨by (with_reducible repeat (first|refine kdN ?_ _|refine kd ?_|refine ka ?_ _));exact BK181.out⟩,⟨by (with_reducible repeat (first|refine kdN ?_ _|refine kd ?_|refine ka ?_ _));exact BK182.out⟩,⟨by repeat (first|(with_reducible first|exact HB.out|apply bwa|apply pbN|apply bw1|refine bws ?_ GE181.out|refine bws ?_ GE182.out)|exact HB.out)⟩⟩
 case rest =>
  clear HC3
  try clear c1
  try clear p2
  try clear c4
  try clear c6
  try clear c6b0
  try clear c6b1
  try clear c7
  try clear c10
  try clear c10b0
  try clear c10b1
  try clear c11
  try clear c14
  try clear hcz12_0
  try clear hcz12_1
  try clear hcz12_2
  try clear hcz12_3
  try clear hcz13_0
  try clear hcz13_1
  try clear hcz13_2
  try clear hcz13_3
  try clear hcz15_0
  try clear hcz15_1
  try clear hcz15_2
  try clear hcz15_3
  try clear hcz16_0
  try clear hcz16_1
  try clear hcz16_2
  try clear hcz16_3
  try clear hcz8_0
  try clear hcz8_1
  try clear hcz8_2
  try clear hcz8_3
  try clear hcz9_0
  try clear hcz9_1
  try clear hcz9_2
  try clear hcz9_3
  try clear hfz12_0
  try clear hfz12_1
  try clear hfz12_2
  try clear hfz12_3
  try clear hfz13_0
  try clear hfz13_1
  try clear hfz13_2
  try clear hfz13_3
  try clear hfz15_0
  try clear hfz15_1
  try clear hfz15_2
  try clear hfz15_3
  try clear hfz16_0
  try clear hfz16_1
  try clear hfz16_2
  try clear hfz16_3
  try clear hfz8_0
  try clear hfz8_1
  try clear hfz8_2
  try clear hfz8_3
  try clear hfz9_0
  try clear hfz9_1
  try clear hfz9_2
  try clear hfz9_3
  obtain ⟨kq,x5_2,rfl,HA,HJ2,BK181,BK182,HB⟩:=hcut
  cases kq with
  |zero=>exact absurd HA.out (by simp [spec_l4Compare.j0])
  |succ kj2 =>
   have H:=HA.out
   clear HA
   simp only [spec_l4Compare.j0] at H
   by_cases c17:x5_2=true
   · subst c17
     have H1:(some (-1))=some r:=by rw [if_pos rfl] at H;exact H
     clear H
     have H:=H1
     clear H1
     obtain rfl:=zI H
     go_wp2
     go_ret
     exact ⟨by first|rfl|(simp [errW_none,errW_some]<;>rfl)|(simp [*,errW_none,errW_some]<;>rfl),by repeat (first|(with_reducible first|exact HB.out|apply bwa|apply pbN|apply bw1|refine bws ?_ GE181.out|refine bws ?_ GE182.out)|exact HB.out)⟩
   replace c17:=Bool.eq_false_iff.mpr c17
   subst c17
   have H1:(if a0_0.toList=a1_0.toList then (spec_l4Compare.j1 kj2 (a0_1 == a1_1)) else (spec_l4Compare.j1 kj2 false))=some r:=by rw [if_neg (show ¬ (false=true) by decide)] at H;exact H
   clear H
   have H:=H1
   clear H1
   have HC18:=AsZ.mk H
   clear H
   go_upto_region 3 with (fail)
   go_cut [25] (fun v25 wc => ∃ (kq:Nat) (x25_17:Bool),v25 = .bool x25_17∧AsZ (spec_l4Compare.j1 kq x25_17=some r)∧AsZ (kq≤kj2)∧AsZ (wc.heap[gb181]? = some (.cells #[.string a0_0,.int .i64 a0_1,.int .i64 a0_2,.string a0_3] 28 (0,0)))∧AsZ (wc.heap[gb182]? = some (.cells #[.string a1_0,.int .i64 a1_1,.int .i64 a1_2,.string a1_3] 28 (0,0)))∧AsZ (Below w.heap.size w wc))
   case first =>
    have H:=HC18.out
    clear HC18
    by_cases c19:a0_0.toList=a1_0.toList
    rotate_left
    · rw [if_neg c19] at H
      have c19b0:(a0_0.toList == a1_0.toList)=false:=beq_eq_false_iff_ne.mpr c19
      have c19b1:(a0_0.toList != a1_0.toList)=true:=bne_iff_ne.mpr c19
      (first|rw [c19b0]|(simp only [i64_w,i32_w];rw [c19b0])|rw [c19b1]|skip)
      have H':=AsZ.mk H
      clear H
      have hnb23:=NB181_182.out
      have hnc23:=NB182_181.out
      have hcz24_0:wc.cell? ⟨gb181,0,none⟩=some (.string a0_0):=(kc BK181.out 0).trans rfl
      have hcz24_1:wc.cell? ⟨gb181,1,none⟩=some (.int .i64 a0_1):=(kc BK181.out 1).trans rfl
      have hcz24_2:wc.cell? ⟨gb181,2,none⟩=some (.int .i64 a0_2):=(kc BK181.out 2).trans rfl
      have hcz24_3:wc.cell? ⟨gb181,3,none⟩=some (.string a0_3):=(kc BK181.out 3).trans rfl
      have hfz24_0:=kf BK181.out 0
      have hfz24_1:=kf BK181.out 1
      have hfz24_2:=kf BK181.out 2
      have hfz24_3:=kf BK181.out 3
      have hcz25_0:wc.cell? ⟨gb182,0,none⟩=some (.string a1_0):=(kc BK182.out 0).trans rfl
      have hcz25_1:wc.cell? ⟨gb182,1,none⟩=some (.int .i64 a1_1):=(kc BK182.out 1).trans rfl
      have hcz25_2:wc.cell? ⟨gb182,2,none⟩=some (.int .i64 a1_2):=(kc BK182.out 2).trans rfl
      have hcz25_3:wc.cell? ⟨gb182,3,none⟩=some (.string a1_3):=(kc BK182.out 3).trans rfl
      have hfz25_0:=kf BK182.out 0
      have hfz25_1:=kf BK182.out 1
      have hfz25_2:=kf BK182.out 2
      have hfz25_3:=kf BK182.out 3
      go_wp2
      go_meet
      case rel=>exact ⟨_,(false),(by first|rfl|(simp;done)|(simp [*];done)),H',⟨by have:=HJ2.out;first|omega|exact Nat.le_refl _⟩,⟨by (with_reducible repeat (first|refine kdN ?_ _|refine kd ?_|refine ka ?_ _));exact BK181.out⟩,⟨by (with_reducible repeat (first|refine kdN ?_ _|refine kd ?_|refine ka ?_ _));exact BK182.out⟩,⟨by repeat (first|(with_reducible first|exact HB.out|apply bwa|apply pbN|apply bw1|refine bws ?_ GE181.out|refine bws ?_ GE182.out)|exact HB.out)⟩⟩
    rw [if_pos c19] at H
    have c19b0:(a0_0.toList == a1_0.toList)=true:=beq_iff_eq.mpr c19
    have c19b1:(a0_0.toList != a1_0.toList)=false:=bne_eq_false_iff_eq.mpr c19
    clear c19
    (first|rw [c19b0]|(simp only [i64_w,i32_w];rw [c19b0])|rw [c19b1]|skip)
    have H':=AsZ.mk H
    clear H
    have hnb20:=NB181_182.out
    have hnc20:=NB182_181.out
    have hcz21_0:wc.cell? ⟨gb181,0,none⟩=some (.string a0_0):=(kc BK181.out 0).trans rfl
    have hcz21_1:wc.cell? ⟨gb181,1,none⟩=some (.int .i64 a0_1):=(kc BK181.out 1).trans rfl
    have hcz21_2:wc.cell? ⟨gb181,2,none⟩=some (.int .i64 a0_2):=(kc BK181.out 2).trans rfl
    have hcz21_3:wc.cell? ⟨gb181,3,none⟩=some (.string a0_3):=(kc BK181.out 3).trans rfl
    have hfz21_0:=kf BK181.out 0
    have hfz21_1:=kf BK181.out 1
    have hfz21_2:=kf BK181.out 2
    have hfz21_3:=kf BK181.out 3
    have hcz22_0:wc.cell? ⟨gb182,0,none⟩=some (.string a1_0):=(kc BK182.out 0).trans rfl
    have hcz22_1:wc.cell? ⟨gb182,1,none⟩=some (.int .i64 a1_1):=(kc BK182.out 1).trans rfl
    have hcz22_2:wc.cell? ⟨gb182,2,none⟩=some (.int .i64 a1_2):=(kc BK182.out 2).trans rfl
    have hcz22_3:wc.cell? ⟨gb182,3,none⟩=some (.string a1_3):=(kc BK182.out 3).trans rfl
    have hfz22_0:=kf BK182.out 0
    have hfz22_1:=kf BK182.out 1
    have hfz22_2:=kf BK182.out 2
    have hfz22_3:=kf BK182.out 3
    go_wp2
    go_meet
    case rel=>exact ⟨_,((a0_1 == a1_1)),(by first|rfl|(simp;done)|(simp [*];done)),H',⟨by have:=HJ2.out;first|omega|exact Nat.le_refl _⟩,⟨by (with_reducible repeat (first|refine kdN ?_ _|refine kd ?_|refine ka ?_ _));exact BK181.out⟩,⟨by (with_reducible repeat (first|refine kdN ?_ _|refine kd ?_|refine ka ?_ _));exact BK182.out⟩,⟨by repeat (first|(with_reducible first|exact HB.out|apply bwa|apply pbN|apply bw1|refine bws ?_ GE181.out|refine bws ?_ GE182.out)|exact HB.out)⟩⟩
   case rest =>
    clear HC18
    try clear c1
    try clear c2
    try clear p2
    try clear c4
    try clear c6
    try clear c6b0
    try clear c6b1
    try clear c7
    try clear c10
    try clear c10b0
    try clear c10b1
    try clear c11
    try clear c14
    try clear c17
    try clear c19
    try clear c19b0
    try clear c19b1
    try clear c20
    try clear c23
    try clear hcz12_0
    try clear hcz12_1
    try clear hcz12_2
    try clear hcz12_3
    try clear hcz13_0
    try clear hcz13_1
    try clear hcz13_2
    try clear hcz13_3
    try clear hcz15_0
    try clear hcz15_1
    try clear hcz15_2
    try clear hcz15_3
    try clear hcz16_0
    try clear hcz16_1
    try clear hcz16_2
    try clear hcz16_3
    try clear hcz21_0
    try clear hcz21_1
    try clear hcz21_2
    try clear hcz21_3
    try clear hcz22_0
    try clear hcz22_1
    try clear hcz22_2
    try clear hcz22_3
    try clear hcz24_0
    try clear hcz24_1
    try clear hcz24_2
    try clear hcz24_3
    try clear hcz25_0
    try clear hcz25_1
    try clear hcz25_2
    try clear hcz25_3
    try clear hcz8_0
    try clear hcz8_1
    try clear hcz8_2
    try clear hcz8_3
    try clear hcz9_0
    try clear hcz9_1
    try clear hcz9_2
    try clear hcz9_3
    try clear hfz12_0
    try clear hfz12_1
    try clear hfz12_2
    try clear hfz12_3
    try clear hfz13_0
    try clear hfz13_1
    try clear hfz13_2
    try clear hfz13_3
    try clear hfz15_0
    try clear hfz15_1
    try clear hfz15_2
    try clear hfz15_3
    try clear hfz16_0
    try clear hfz16_1
    try clear hfz16_2
    try clear hfz16_3
    try clear hfz21_0
    try clear hfz21_1
    try clear hfz21_2
    try clear hfz21_3
    try clear hfz22_0
    try clear hfz22_1
    try clear hfz22_2
    try clear hfz22_3
    try clear hfz24_0
    try clear hfz24_1
    try clear hfz24_2
    try clear hfz24_3
    try clear hfz25_0
    try clear hfz25_1
    try clear hfz25_2
    try clear hfz25_3
    try clear hfz8_0
    try clear hfz8_1
    try clear hfz8_2
    try clear hfz8_3
    try clear hfz9_0
    try clear hfz9_1
    try clear hfz9_2
    try clear hfz9_3
    try clear p2
    obtain ⟨kq,x25_17,rfl,HA,HJ17,BK181,BK182,HB⟩:=hcut
    cases kq with
    |zero=>exact absurd HA.out (by simp [spec_l4Compare.j1])
    |succ kj17 =>
     have H:=HA.out
     clear HA
     simp only [spec_l4Compare.j1] at H
     by_cases c26:x25_17=true
     · subst c26
       have H1:(some 0)=some r:=by rw [if_pos rfl] at H;exact H
       clear H
       have H:=H1
       clear H1
       obtain rfl:=zI H
       go_wp2
       go_ret
       exact ⟨by first|rfl|(simp [errW_none,errW_some]<;>rfl)|(simp [*,errW_none,errW_some]<;>rfl),by repeat (first|(with_reducible first|exact HB.out|apply bwa|apply pbN|apply bw1|refine bws ?_ GE181.out|refine bws ?_ GE182.out)|exact HB.out)⟩
     replace c26:=Bool.eq_false_iff.mpr c26
     subst c26
     have H1:(some 1)=some r:=by rw [if_neg (show ¬ (false=true) by decide)] at H;exact H
     clear H
     have H:=H1
     clear H1
     obtain rfl:=zI H
     go_wp2
     go_ret
     exact ⟨by first|rfl|(simp [errW_none,errW_some]<;>rfl)|(simp [*,errW_none,errW_some]<;>rfl),by repeat (first|(with_reducible first|exact HB.out|apply bwa|apply pbN|apply bw1|refine bws ?_ GE181.out|refine bws ?_ GE182.out)|exact HB.out)⟩
/-! ### spec_l2On: function 88 -/
def spec_l2On.l0:Nat→List Int→Int→ByteArray→Int→Option (Int)
  |0,_,_,_,_=>none
  |k + 1,x0,x1,x2,x7=>if x7 < (x2.size:Int) then (if 0≤x7 then (if 0≤(Go.bits .xor .u8 ((x1) % 256) (bt x2 x7)) then (if (Go.bits .xor .u8 ((x1) % 256) (bt x2 x7)) < (x0.length:Int) then (spec_l2On.l0 k x0 (Go.bits .xor .u32 (rd x0 (Go.bits .xor .u8 ((x1) % 256) (bt x2 x7))) (x1 / 256)) x2 (wrap64 (x7 + 1))) else (none)) else (none)) else (none)) else (some x1)
def spec_l2On.f (k:Nat) (l0:List Int) (a1:Int) (a2:ByteArray):Option (Int):=spec_l2On.l0 k l0 a1 a2 0
theorem spec_l2On.mono_l:∀ k,(∀ y0 y1 y2 y3,LeO (spec_l2On.l0 k y0 y1 y2 y3) (spec_l2On.l0 (k + 1) y0 y1 y2 y3))
  |0=>fun _ _ _ _ r h=>by simp [spec_l2On.l0] at h
  |k + 1=>by
    have ih0:=spec_l2On.mono_l k
    · intro y0 y1 y2 y3
      unfold spec_l2On.l0
      repeat' first
      |(with_reducible exact ih0 _ _ _ _)
      |(with_reducible exact LeO.refl _)
      |(with_reducible exact LeO.none _)
      |(with_reducible refine LeO.ite ?_ ?_)
      |(with_reducible refine LeO.bind ?_ (fun _=>?_))
      |exact ih0 _ _ _ _
      |exact LeO.none _
      |refine LeO.ite ?_ ?_
      |refine LeO.bind ?_ (fun _=>?_)
theorem spec_l2On.mono:∀ a0 a1 a2 k,LeO (spec_l2On.f k a0 a1 a2) (spec_l2On.f (k + 1) a0 a1 a2):=by
  intro a0 a1 a2 k
  have ih0:=spec_l2On.mono_l k
  unfold spec_l2On.f
  repeat' first
      |(with_reducible exact ih0 _ _ _ _)
      |(with_reducible exact LeO.refl _)
      |(with_reducible exact LeO.none _)
      |(with_reducible refine LeO.ite ?_ ?_)
      |(with_reducible refine LeO.bind ?_ (fun _=>?_))
      |exact ih0 _ _ _ _
      |exact LeO.none _
      |refine LeO.ite ?_ ?_
      |refine LeO.bind ?_ (fun _=>?_)
set_option maxHeartbeats 8000000 in
set_option maxRecDepth 100000 in
theorem spec_l2On.calls (k:Nat) (A0:Option Addr) (c0:Nat) (l0:List Int) (a1:Int) (a2:ByteArray) (r:Int) (w:World) (hr0:Kd.C (Kd.int .u32) w A0 l0.length l0) (hc0:l0.length≤c0) (h:spec_l2On.f k l0 a1 a2=some r) :
    Calls Tryd.prog 88 #[.slice A0 l0.length c0,.int .u32 a1,.string a2] w fun e w'=>e = .returned (.int .u32 r)∧Drawn0 w w':=by
 have HR0:=AsZ.mk hr0
 have HC0:=AsZ.mk hc0
 clear hr0 hc0
 have H:(spec_l2On.l0 k l0 a1 a2 0)=some r:=h
 clear h
 have H':=AsZ.mk H
 clear H
 go_enter Tryd.func88,Tryd.ntmps88
 go_wp2
 go_loopg [1,7] k (fun kq v1 v7 w' => ∃ (x1_1:Int) (x7_1:Int),v1 = .int .u32 x1_1∧v7 = .int .i64 x7_1∧AsZ (spec_l2On.l0 kq l0 x1_1 a2 x7_1=some r)∧AsZ (kq≤k)∧Drawn0 w w')
 case atStart=>exact ⟨(a1),(0),(by first|rfl|(simp;done)|(simp [*];done)),(by first|rfl|(simp;done)|(simp [*];done)),H',⟨Nat.le_refl _⟩,by repeat (first|exact Drawn0.refl _|apply Drawn0.step)⟩
 case round =>
  clear H'
  try clear p2
  obtain ⟨x1_1,x7_1,rfl,rfl,HA,HK1,⟨m1,rfl⟩⟩:=hrel
  cases gk with
  |zero=>exact absurd HA.out (by simp [spec_l2On.l0])
  |succ k1 =>
   have H:=HA.out
   clear HA
   simp only [spec_l2On.l0] at H
   by_cases c4:x7_1 < (a2.size:Int)
   rotate_left
   · rw [if_neg c4] at H
     have c4b0:decide (x7_1 < (a2.size:Int))=false:=decide_eq_false c4
     clear c4
     obtain rfl:=zI H
     go_wp2
     go_ret
     exact ⟨by first|rfl|(simp;done)|(simp [*];done),by repeat (first|exact Drawn0.refl _|apply Drawn0.step)⟩
   rw [if_pos c4] at H
   have c4b0:decide (x7_1 < (a2.size:Int))=true:=zE c4
   clear c4
   by_cases c5:0≤x7_1
   rotate_left
   · rw [if_neg c5] at H
     exact absurd H (by simp)
   rw [if_pos c5] at H
   have c5b0:decide (0≤x7_1)=true:=zE c5
   clear c5
   obtain ⟨ji7,hji7⟩:∃ j_:Int,(Go.bits .xor .u8 ((x1_1) % 256) (bt a2 x7_1))=j_:=⟨_,rfl⟩
   replace H:(if 0≤(ji7) then (if (ji7) < (l0.length:Int) then (spec_l2On.l0 k1 l0 (Go.bits .xor .u32 (rd l0 (ji7)) (x1_1 / 256)) a2 (wrap64 (x7_1 + 1))) else (none)) else (none))=some r:=by first|(rw [hji7] at H;exact H)|(simp only [hji7] at H ⊢;exact H)
   by_cases c8:0≤(ji7)
   rotate_left
   · rw [if_neg c8] at H
     exact absurd H (by simp)
   rw [if_pos c8] at H
   have c8b0:decide (0≤(ji7))=true:=zE c8
   clear c8
   by_cases c9:(ji7) < (l0.length:Int)
   rotate_left
   · rw [if_neg c9] at H
     exact absurd H (by simp)
   rw [if_pos c9] at H
   have c9b0:decide ((ji7) < (l0.length:Int))=true:=zE c9
   clear c9
   have H':=AsZ.mk H
   clear H
   have p6:0≤(x7_1:Int):=zD (by first|(with_reducible assumption)|assumption)
   have q6:x7_1 < (a2.size:Int):=zD (by first|(with_reducible assumption)|assumption)
   have hx6:=bt_at a2 x7_1
   replace p6:=eq_true p6
   replace q6:=eq_true q6
   have p183:0≤((ji7):Int):=zD (by first|(with_reducible assumption)|assumption)
   have q183:(ji7) < (l0.length:Int):=zD (by first|(with_reducible assumption)|assumption)
   obtain ⟨ad183,e183,hx183_0⟩:=Kd.at_int HR0.out (ji7) p183 q183
   cases e183
   replace p183:=eq_true p183
   replace q183:=eq_true q183
   go_wp2
   go_roundg k1
   case measure=>have:=HK1.out;omega
   case rel=>exact ⟨(Go.bits .xor .u32 (rd l0 (ji7)) (x1_1 / 256)),(wrap64 (x7_1 + 1)),(by first|rfl|(simp;done)|(simp only [← hji7]<;>(first|rfl|simp))|(simp [*];done)),(by first|rfl|(simp;done)|(simp [*];done)),H',⟨by have:=HK1.out;omega⟩,by repeat (first|exact Drawn0.refl _|apply Drawn0.step)⟩
/-! ### spec_l1Num: function 89 -/
def spec_l1Num.f:Nat→Int→Option (ByteArray)
  |0,_=>none
  |k + 1,a0=>if a0 < 10 then (some (strOfNums (([(wrap64 (48 + a0)) % 256]:List Int)))) else ((spec_l1Num.f k (wrap64 (Int.tdiv a0 10))).bind fun t187=>((some (([(wrap64 (48 + (Int.tmod a0 10))) % 256]:List Int):List Int)).bind fun y188=>(if t187.size + (strOfNums y188).size≤9223372036854775807 then (some (t187 ++ (strOfNums y188))) else (none))))
theorem spec_l1Num.mono_l:∀ k,(∀ y0,LeO (spec_l1Num.f k y0) (spec_l1Num.f (k + 1) y0))
  |0=>fun _ r h=>by simp [spec_l1Num.f] at h
  |k + 1=>by
    have ih0:=spec_l1Num.mono_l k
    · intro y0
      unfold spec_l1Num.f
      repeat' first
      |(with_reducible exact ih0 _)
      |(with_reducible exact LeO.refl _)
      |(with_reducible exact LeO.none _)
      |(with_reducible refine LeO.ite ?_ ?_)
      |(with_reducible refine LeO.bind ?_ (fun _=>?_))
      |exact ih0 _
      |exact LeO.none _
      |refine LeO.ite ?_ ?_
      |refine LeO.bind ?_ (fun _=>?_)
theorem spec_l1Num.mono:∀ a0 k,LeO (spec_l1Num.f k a0) (spec_l1Num.f (k + 1) a0):=by
  intro a0 k
  have ih0:=spec_l1Num.mono_l k
  exact ih0 a0
def spec_l1Num.T3:Bool × List (List Nat × List Nat):=(true,[([],[]),([0],[0]),([1],[1]),([],[]),([3],[3]),([4],[4]),([5],[5]),([6],[6]),([7],[7]),([2,8],[2,8]),([9,2,0,1,2,3,4,5,6,7,8,9],[9])])
def spec_l1Num.B3:List Nat:=[0,1,3,0,8,24,56,120,248,511,1023]
theorem spec_l1Num.tab3:rtab .any (opsOf Tryd.f89 3)=spec_l1Num.T3:=by kernel_rfl
theorem spec_l1Num.bits3:waitsOk spec_l1Num.T3.2 spec_l1Num.B3=true:=by kernel_rfl
set_option maxHeartbeats 8000000 in
set_option maxRecDepth 100000 in
theorem spec_l1Num.calls (k:Nat):∀ (a0:Int) (r:ByteArray) (w:World) (h:spec_l1Num.f k a0=some r),
    Calls Tryd.prog 89 #[.int .i64 a0] w fun e w'=>e = .returned (.string r)∧Below w.heap.size w w':=by
 induction k using Nat.strongRecOn with
 |_ k ih =>
 intro a0 r w h
 cases k with
 |zero=>exact absurd h (by simp [spec_l1Num.f])
 |succ k =>
 simp only [spec_l1Num.f] at h
 have HB:=AsZ.mk (Below.refl w.heap.size w)
 have H:(if a0 < 10 then (some (strOfNums (([(wrap64 (48 + a0)) % 256]:List Int)))) else ((spec_l1Num.f k (wrap64 (Int.tdiv a0 10))).bind fun t187=>((some (([(wrap64 (48 + (Int.tmod a0 10))) % 256]:List Int):List Int)).bind fun y188=>(if t187.size + (strOfNums y188).size≤9223372036854775807 then (some (t187 ++ (strOfNums y188))) else (none)))))=some r:=h
 clear h
 by_cases c2:a0 < 10
 · rw [if_pos c2] at H
   have c2b0:decide (a0 < 10)=true:=zE c2
   clear c2
   obtain ⟨y184,hy184⟩:∃ y_:List Int,y_=(([(wrap64 (48 + a0)) % 256]:List Int)):=⟨_,rfl⟩
   replace H:(some (strOfNums y184))=some r:=by first|(rw [hy184];with_reducible exact H)|(have H2_:=(Option.bind_some _ _).symm.trans H;rw [hy184];with_reducible exact H2_)|(have H2_:=(Option.bind_some _ _).symm.trans H;with_reducible exact H2_)|with_reducible exact H|(rw [hy184];exact H)|exact H
   have Ny184:=AsZ.mk hy184
   clear hy184
   obtain rfl:=zI H
   go_enter Tryd.func89,Tryd.ntmps89
   go_wp2_with (first|((with_reducible refine gate_dst (N:=8) rfl ?_);refine Kd.R_lit (Kd.int .u8) _ 5 ?hg (N:=8) ?hd (xs:=([(wrap64 (48 + a0)) % 256]:List Int)) (inner:=[.int .u8 ((wrap64 (48 + a0)) % 256)]) (ok:=fun _=>True) (okp:=fun _=>True) ?hr ?hp (fun _ hk=>hk) trivial (Below.refl _ _) (Nat.le_refl _) (by simp) ?_;(case hd=>rfl);(case hg=>rfl);(case hr=>first|(go_simp;done)|(go_simp;rfl));(case hp=>exact (Reps.one (show Kd.M (Kd.int .u8) _ _ _ ((wrap64 (48 + a0)) % 256) [.int .u8 ((wrap64 (48 + a0)) % 256)] from rfl) (Reps.none _ _)));intro v185 w3 ho4 hb hg_ hnew_;clear hg_ hnew_;(first|rw [← Ny184.out] at ho4|(simp only [Int.reduceToNat] at ho4;rw [← Ny184.out] at ho4));have n0_:=AsZ.mk (Kd.R_lower ho4 (bwz (by repeat (first|(with_reducible first|exact HB.out|apply bwa|apply pbN|apply bw1)|exact HB.out))));have n1_:=AsZ.mk (bwp (by repeat (first|(with_reducible first|exact HB.out|apply bwa|apply pbN|apply bw1)|exact HB.out)) hb);clear HB;have HO186:=n0_;have HB:=n1_;clear n0_ n1_;clear hb ho4;have hcv5:=own_string (P:=Tryd.prog) Tryd.underlying22 Tryd.underlying5 Tryd.underlying9 (Kd.own_of_R HO186.out)))
   go_ret
   exact ⟨by first|rfl|(simp [errW_none,errW_some]<;>rfl)|(simp [*,errW_none,errW_some]<;>rfl),by repeat (first|(with_reducible first|exact HB.out|apply bwa|apply pbN|apply bw1)|exact HB.out)⟩
 rw [if_neg c2] at H
 have c2b0:decide (a0 < 10)=false:=decide_eq_false c2
 clear c2
 replace H:=Option.bind_eq_some_iff.mp H
 obtain ⟨t187,A60,H⟩:=H
 replace H:((some (([(wrap64 (48 + (Int.tmod a0 10))) % 256]:List Int):List Int)).bind fun y188=>(if t187.size + (strOfNums y188).size≤9223372036854775807 then (some (t187 ++ (strOfNums y188))) else (none)))=some r:=H
 have A6:=AsZ.mk A60
 clear A60
 obtain ⟨y188,hy188⟩:∃ y_:List Int,y_=(([(wrap64 (48 + (Int.tmod a0 10))) % 256]:List Int)):=⟨_,rfl⟩
 replace H:(if t187.size + (strOfNums y188).size≤9223372036854775807 then (some (t187 ++ (strOfNums y188))) else (none))=some r:=by first|(rw [hy188];with_reducible exact H)|(have H2_:=(Option.bind_some _ _).symm.trans H;rw [hy188];with_reducible exact H2_)|(have H2_:=(Option.bind_some _ _).symm.trans H;with_reducible exact H2_)|with_reducible exact H|(rw [hy188];exact H)|exact H
 have Ny188:=AsZ.mk hy188
 clear hy188
 by_cases c7:t187.size + (strOfNums y188).size≤9223372036854775807
 rotate_left
 · rw [if_neg c7] at H
   exact absurd H (by simp)
 rw [if_pos c7] at H
 have c7b0:=eq_true c7
 have c7b1:decide (t187.size + (strOfNums y188).size≤9223372036854775807)=true:=zE c7
 try have c7b2:(9223372036854775807 < t187.size + (strOfNums y188).size)=False:=eq_false (Nat.not_lt.2 c7)
 obtain rfl:=zI H
 go_enter Tryd.func89,Tryd.ntmps89
 try go_wp2
 have n0_:=AsZ.mk (bw1 HB.out)
 clear HB
 have HB:=n0_
 clear n0_
 refine start_ (n:=11) (S:=fun w'=>True) (ds:=[]) (b_ 0 11) (by kernel_rfl) rfl rfl trivial (fun hHeld=>?_);refine with_tabW spec_l1Num.tab3 spec_l1Num.bits3 (fun HT_ HW_=>?_)
 generalize w.drew=w8 at HB hHeld ⊢
 refine pure_ (i:=0) (N:=some 10) (v:=?_) (a':=?_) (b_ 1 10) rfl rfl (anO HT_.out (by kernel_rfl)) (fun _ _ _ h=>h) (Or.inl ⟨by rfl,?_⟩) ?_ ?_
 rotate_left
 · intro w'
   go_simp
   with_reducible rfl
 rotate_left
 · simp only [Act.put,zS,zT,zU,i64_w,i32_w]
   rfl
 refine pure_ (i:=1) (N:=some 11) (v:=?_) (a':=?_) (b_ 2 9) rfl rfl (anO HT_.out (by kernel_rfl)) (fun _ _ _ h=>h) (Or.inl ⟨by rfl,?_⟩) ?_ ?_
 rotate_left
 · intro w'
   go_simp
   with_reducible rfl
 rotate_left
 · simp only [Act.put,zS,zT,zU,i64_w,i32_w]
   rfl
 refine pure_ (i:=3) (N:=some 13) (v:=?_) (a':=?_) #[true,true,false,true,false,false,false,false,false,false,false] rfl rfl (anO HT_.out (by kernel_rfl)) (fun _ _ _ h=>h) (Or.inl ⟨by rfl,?_⟩) ?_ ?_
 rotate_left
 · intro w'
   go_simp
   with_reducible rfl
 rotate_left
 · simp only [Act.put,zS,zT,zU,i64_w,i32_w]
   rfl
 refine pure_ (i:=4) (N:=some 14) (v:=?_) (a':=?_) #[true,true,false,true,true,false,false,false,false,false,false] rfl rfl (anO HT_.out (by kernel_rfl)) (fun _ _ _ h=>h) (Or.inl ⟨by rfl,?_⟩) ?_ ?_
 rotate_left
 · intro w'
   go_simp
   with_reducible rfl
 rotate_left
 · simp only [Act.put,zS,zT,zU,i64_w,i32_w]
   rfl
 refine pure_ (i:=5) (N:=some 15) (v:=?_) (a':=?_) #[true,true,false,true,true,true,false,false,false,false,false] rfl rfl (anO HT_.out (by kernel_rfl)) (fun _ _ _ h=>h) (Or.inl ⟨by rfl,?_⟩) ?_ ?_
 rotate_left
 · intro w'
   go_simp
   with_reducible rfl
 rotate_left
 · simp only [Act.put,zS,zT,zU,i64_w,i32_w]
   rfl
 refine pure_ (i:=6) (N:=some 16) (v:=?_) (a':=?_) #[true,true,false,true,true,true,true,false,false,false,false] rfl rfl (anO HT_.out (by kernel_rfl)) (fun _ _ _ h=>h) (Or.inl ⟨by rfl,?_⟩) ?_ ?_
 rotate_left
 · intro w'
   go_simp
   with_reducible rfl
 rotate_left
 · simp only [Act.put,zS,zT,zU,i64_w,i32_w]
   rfl
 refine join_ (σ:=Value) 2 (b_ 9 2) (fun s_=>[(12,.string t187),(17,s_),(18,.string (strOfNums y188))]) (fun s_ w'=>(Kd.R (Kd.int .u8) 5 w' w.heap.size (fun _=>True) s_ y188)∧(Below w.heap.size w w')) ?_ ?_
 rotate_left
 · intro hCont
   refine two_ (i:=2) (j:=7) (Ni:=some 12) (Nj:=some 17) (b_ 7 4) #[true,true,false,true,true,true,true,true,false,false,false] rfl rfl rfl rfl (two_of HT_.out (by kernel_rfl)) (by decide) (by decide) (fun K hK=>?_) (fun K hK=>?_)
   · skip
     refine goes_ Tryd.func89 (by kernel_rfl) rfl #[.int .i64 (wrap64 (Int.tdiv a0 10))] (by rfl) rfl rfl (by (try simp only [zA,zC,zN]);first|done|rfl|(simp only [zM,zL];rfl)) ?_
     with_reducible refine (ih k (by omega) (wrap64 (Int.tdiv a0 10)) t187 _ A6.out).mono ?_
     rintro e w9 ⟨rfl,hb⟩
     refine ⟨_,rfl,?_⟩
     have n0_:=AsZ.mk (bwp (by repeat (first|(with_reducible first|exact HB.out|apply bwa|apply pbN|apply bw1)|exact HB.out)) hb)
     clear HB
     have HB:=n0_
     clear n0_
     (try clear hb)
     (try clear hb2)
     (try clear hk)
     (try clear hi)
     refine hK.out _ _ trivial (fun hHeld=>?_)
     clear hK K
     refine norm_ (a':=?_) ?_ ?_
     rotate_left
     · show Act.put _ (some 12) _=_
       simp only [Act.put,zS,zT,zU,i64_w,i32_w]
       rfl
     refine one_ (i:=7) (N:=some 17) (b_ 8 3) rfl rfl (one_of HT_.out (by kernel_rfl)) (by decide) (fun K hK=>?_)
     refine Kd.R_lit_step (Kd.int .u8) _ 5 ?hg (N:=17) ?hd (xs:=([(wrap64 (48 + (Int.tmod a0 10))) % 256]:List Int)) (inner:=[.int .u8 ((wrap64 (48 + (Int.tmod a0 10))) % 256)]) (ok:=fun _=>True) (okp:=fun _=>True) ?hr ?hp (fun _ hk=>hk) trivial (Below.refl _ _) (Nat.le_refl _) (by simp) ?_;(case hd=>rfl);(case hg=>rfl);(case hr=>first|(go_simp;done)|(go_simp;rfl));(case hp=>exact (Reps.one (show Kd.M (Kd.int .u8) _ _ _ ((wrap64 (48 + (Int.tmod a0 10))) % 256) [.int .u8 ((wrap64 (48 + (Int.tmod a0 10))) % 256)] from rfl) (Reps.none _ _)))
     intro v189 w10 ho11 hb hg_ hnew_
     clear hg_ hnew_
     (first|rw [← Ny188.out] at ho11|(simp only [Int.reduceToNat] at ho11;rw [← Ny188.out] at ho11))
     have n0_:=AsZ.mk (Kd.R_lower ho11 (bwz (by repeat (first|(with_reducible first|exact HB.out|apply bwa|apply pbN|apply bw1)|exact HB.out))))
     have n1_:=AsZ.mk (bwp (by repeat (first|(with_reducible first|exact HB.out|apply bwa|apply pbN|apply bw1)|exact HB.out)) hb)
     clear HB
     have HO190:=n0_
     have HB:=n1_
     clear n0_ n1_ hb ho11
     refine hK.out _ _ trivial (fun hHeld=>?_)
     clear hK K
     refine norm_ (a':=?_) ?_ ?_
     rotate_left
     · show Act.put _ (some 17) _=_
       simp only [Act.put,zS,zT,zU,i64_w,i32_w]
       rfl
     refine one_ (i:=8) (N:=some 18) (b_ 9 2) rfl rfl (one_of HT_.out (by kernel_rfl)) (by decide) (fun K hK=>?_)
     have hcv12:=own_string (P:=Tryd.prog) Tryd.underlying22 Tryd.underlying5 Tryd.underlying9 (Kd.own_of_R HO190.out)
     refine value_ (w1:=?_) (v:=?_) (by rfl) rfl ?_ ?_
     rotate_left 2
     · go_simp
       constructor
       · rfl
       rfl
     clear hcv12
     refine hK.out _ _ trivial (fun hHeld=>?_)
     clear hK K
     refine norm_ (a':=?_) ?_ ?_
     rotate_left
     · show Act.put _ (some 18) _=_
       simp only [Act.put,zS,zT,zU,i64_w,i32_w]
       rfl
     exact norm_ (by simp only [putAll,Act.put,zS,zT,zU]) (hCont (v189) _ ⟨(by (with_reducible repeat (first|apply Kd.R_alloc|apply Kd.R_drewN|apply Kd.R_drew));exact HO190.out),(by repeat (first|(with_reducible first|exact HB.out|apply bwa|apply pbN|apply bw1)|exact HB.out))⟩)
   skip
   refine Kd.R_lit_step (Kd.int .u8) _ 5 ?hg (N:=17) ?hd (xs:=([(wrap64 (48 + (Int.tmod a0 10))) % 256]:List Int)) (inner:=[.int .u8 ((wrap64 (48 + (Int.tmod a0 10))) % 256)]) (ok:=fun _=>True) (okp:=fun _=>True) ?hr ?hp (fun _ hk=>hk) trivial (Below.refl _ _) (Nat.le_refl _) (by simp) ?_;(case hd=>rfl);(case hg=>rfl);(case hr=>first|(go_simp;done)|(go_simp;rfl));(case hp=>exact (Reps.one (show Kd.M (Kd.int .u8) _ _ _ ((wrap64 (48 + (Int.tmod a0 10))) % 256) [.int .u8 ((wrap64 (48 + (Int.tmod a0 10))) % 256)] from rfl) (Reps.none _ _)))
   intro v189 w9 ho10 hb hg_ hnew_
   clear hg_ hnew_
   (first|rw [← Ny188.out] at ho10|(simp only [Int.reduceToNat] at ho10;rw [← Ny188.out] at ho10))
   have n0_:=AsZ.mk (Kd.R_lower ho10 (bwz (by repeat (first|(with_reducible first|exact HB.out|apply bwa|apply pbN|apply bw1)|exact HB.out))))
   have n1_:=AsZ.mk (bwp (by repeat (first|(with_reducible first|exact HB.out|apply bwa|apply pbN|apply bw1)|exact HB.out)) hb)
   clear HB
   have HO190:=n0_
   have HB:=n1_
   clear n0_ n1_ hb ho10
   refine hK.out _ _ trivial (fun hHeld=>?_)
   clear hK K
   refine norm_ (a':=?_) ?_ ?_
   rotate_left
   · show Act.put _ (some 17) _=_
     simp only [Act.put,zS,zT,zU,i64_w,i32_w]
     rfl
   refine two_ (i:=2) (j:=8) (Ni:=some 12) (Nj:=some 18) (b_ 8 3) #[true,true,false,true,true,true,true,true,true,false,false] rfl rfl rfl rfl (two_of HT_.out (by kernel_rfl)) (by decide) (by decide) (fun K hK=>?_) (fun K hK=>?_)
   · skip
     refine goes_ Tryd.func89 (by kernel_rfl) rfl #[.int .i64 (wrap64 (Int.tdiv a0 10))] (by rfl) rfl rfl (by (try simp only [zA,zC,zN]);first|done|rfl|(simp only [zM,zL];rfl)) ?_
     with_reducible refine (ih k (by omega) (wrap64 (Int.tdiv a0 10)) t187 _ A6.out).mono ?_
     rintro e w11 ⟨rfl,hb⟩
     refine ⟨_,rfl,?_⟩
     have n0_:=AsZ.mk (Kd.R_below (by (with_reducible repeat (first|apply Kd.R_alloc|apply Kd.R_drewN|apply Kd.R_drew));exact HO190.out) hb)
     have n1_:=AsZ.mk (bwp (by repeat (first|(with_reducible first|exact HB.out|apply bwa|apply pbN|apply bw1)|exact HB.out)) hb)
     clear HO190 HB
     have HO190:=n0_
     have HB:=n1_
     clear n0_ n1_
     (try clear hb)
     (try clear hb2)
     (try clear hk)
     (try clear hi)
     refine hK.out _ _ trivial (fun hHeld=>?_)
     clear hK K
     refine norm_ (a':=?_) ?_ ?_
     rotate_left
     · show Act.put _ (some 12) _=_
       simp only [Act.put,zS,zT,zU,i64_w,i32_w]
       rfl
     refine one_ (i:=8) (N:=some 18) (b_ 9 2) rfl rfl (one_of HT_.out (by kernel_rfl)) (by decide) (fun K hK=>?_)
     have hcv12:=own_string (P:=Tryd.prog) Tryd.underlying22 Tryd.underlying5 Tryd.underlying9 (Kd.own_of_R HO190.out)
     refine value_ (w1:=?_) (v:=?_) (by rfl) rfl ?_ ?_
     rotate_left 2
     · go_simp
       constructor
       · rfl
       rfl
     clear hcv12
     refine hK.out _ _ trivial (fun hHeld=>?_)
     clear hK K
     refine norm_ (a':=?_) ?_ ?_
     rotate_left
     · show Act.put _ (some 18) _=_
       simp only [Act.put,zS,zT,zU,i64_w,i32_w]
       rfl
     exact norm_ (by simp only [putAll,Act.put,zS,zT,zU]) (hCont (v189) _ ⟨(by (with_reducible repeat (first|apply Kd.R_alloc|apply Kd.R_drewN|apply Kd.R_drew));exact HO190.out),(by repeat (first|(with_reducible first|exact HB.out|apply bwa|apply pbN|apply bw1)|exact HB.out))⟩)
   skip
   have hcv11:=own_string (P:=Tryd.prog) Tryd.underlying22 Tryd.underlying5 Tryd.underlying9 (Kd.own_of_R HO190.out)
   refine value_ (w1:=?_) (v:=?_) (by rfl) rfl ?_ ?_
   rotate_left 2
   · go_simp
     constructor
     · rfl
     rfl
   clear hcv11
   refine hK.out _ _ trivial (fun hHeld=>?_)
   clear hK K
   refine norm_ (a':=?_) ?_ ?_
   rotate_left
   · show Act.put _ (some 18) _=_
     simp only [Act.put,zS,zT,zU,i64_w,i32_w]
     rfl
   refine one_ (i:=2) (N:=some 12) (b_ 9 2) rfl rfl (one_of HT_.out (by kernel_rfl)) (by decide) (fun K hK=>?_)
   refine goes_ Tryd.func89 (by kernel_rfl) rfl #[.int .i64 (wrap64 (Int.tdiv a0 10))] (by rfl) rfl rfl (by (try simp only [zA,zC,zN]);first|done|rfl|(simp only [zM,zL];rfl)) ?_
   with_reducible refine (ih k (by omega) (wrap64 (Int.tdiv a0 10)) t187 _ A6.out).mono ?_
   rintro e w12 ⟨rfl,hb⟩
   refine ⟨_,rfl,?_⟩
   have n0_:=AsZ.mk (Kd.R_below (by (with_reducible repeat (first|apply Kd.R_alloc|apply Kd.R_drewN|apply Kd.R_drew));exact HO190.out) hb)
   have n1_:=AsZ.mk (bwp (by repeat (first|(with_reducible first|exact HB.out|apply bwa|apply pbN|apply bw1)|exact HB.out)) hb)
   clear HO190 HB
   have HO190:=n0_
   have HB:=n1_
   clear n0_ n1_
   (try clear hb)
   (try clear hb2)
   (try clear hk)
   (try clear hi)
   refine hK.out _ _ trivial (fun hHeld=>?_)
   clear hK K
   refine norm_ (a':=?_) ?_ ?_
   rotate_left
   · show Act.put _ (some 12) _=_
     simp only [Act.put,zS,zT,zU,i64_w,i32_w]
     rfl
   exact norm_ (by simp only [putAll,Act.put,zS,zT,zU]) (hCont (v189) _ ⟨(by (with_reducible repeat (first|apply Kd.R_alloc|apply Kd.R_drewN|apply Kd.R_drew));exact HO190.out),(by repeat (first|(with_reducible first|exact HB.out|apply bwa|apply pbN|apply bw1)|exact HB.out))⟩)
 rintro v189 w13 ⟨h0_,h1_⟩
 have n0_:AsZ (Kd.R (Kd.int .u8) 5 w13 w.heap.size (fun _=>True) v189 y188):=⟨h0_⟩
 have n1_:AsZ (Below w.heap.size w w13):=⟨h1_⟩
 clear HB h0_ h1_
 have HO190:=n0_
 have HB:=n1_
 clear n0_ n1_
 have hHeld:=trivial
 refine norm_ (a':=?_) ?_ ?_
 rotate_left
 · simp only [putAll,Act.put,zS,zT,zU]
   rfl
 refine pure_ (i:=9) (N:=some 19) (v:=?_) (a':=?_) (b_ 10 1) rfl rfl (anO HT_.out (by kernel_rfl)) (fun _ _ _ h=>h) (Or.inl ⟨by rfl,?_⟩) ?_ ?_
 rotate_left
 · intro w'
   go_simp
   with_reducible rfl
 rotate_left
 · simp only [Act.put,zS,zT,zU,i64_w,i32_w]
   rfl
 refine pure_ (i:=10) (N:=some 2) (v:=?_) (a':=?_) (b_ 11 0) rfl rfl (anO HT_.out (by kernel_rfl)) (fun _ _ _ h=>h) (Or.inl ⟨by rfl,?_⟩) ?_ ?_
 rotate_left
 · intro w'
   go_simp
   with_reducible rfl
 rotate_left
 · simp only [Act.put,zS,zT,zU,i64_w,i32_w]
   rfl
 refine dn_ (dnO HT_.out (by kernel_rfl)) ?_
 try go_wp2
 go_ret
 exact ⟨by first|rfl|(simp [errW_none,errW_some]<;>rfl)|(simp [*,errW_none,errW_some]<;>rfl),by repeat (first|(with_reducible first|exact HB.out|apply bwa|apply pbN|apply bw1)|exact HB.out)⟩
end Go.Proofs.YtffjlpphcjfdgaaDoor.MFnExactListSkip
