-- Written by a program of this session out of the translation. Not trusted: Lean checks it.
import Derived.Test.YtffjlpphcjfdgaaDoorMFnExactFindSkipx0
import Derived.Test.YtffjlpphcjfdgaaDoorMFnExactFindSkipx8
import Derived.Test.YtffjlpphcjfdgaaDoorMFnExactFindSkipx9
namespace Go.Proofs.YtffjlpphcjfdgaaDoor.MFnExactFindSkip
-- short
-- shrunk
-- TAB
-- RD
open Go.Proofs.YtffjlpphcjfdgaaDoor Go.RowKit Go.Proofs.YtffjlpphcjfdgaaDoorW.PrintWords Go.Proofs.YtffjlpphcjfdgaaDoorW.PrintLast Go.Proofs.YtffjlpphcjfdgaaDoorW.PrintMore Go.Proofs.YtffjlpphcjfdgaaDoorX
attribute [local go_sem] max2_int min2_int max_two min_two max_three min_three max_four min_four str_gtr str_leq str_geq cell_twice
set_option linter.unusedVariables false
set_option linter.unusedSimpArgs false
/-! ### spec_l4Before: function 87 -/
mutual
def spec_l4Before.l0:Nat→List Int→Int→Int→Int→List Int→List (S77)→ByteArray→Int→Int→ByteArray→Option (List Int × Int)
  |0,_,_,_,_,_,_,_,_,_,_=>none
  |k + 1,x6,x7,x8,x9,x302000,x302001,x303000,x303001,x303002,x303003=>if x9 ≥ 0 then (spec_l4Before.l1 k x6 x7 x8 x9 x302000 x302001 x303000 x303001 x303002 x303003) else (some (x6,x8))
def spec_l4Before.l1:Nat→List Int→Int→Int→Int→List Int→List (S77)→ByteArray→Int→Int→ByteArray→Option (List Int × Int)
  |0,_,_,_,_,_,_,_,_,_,_=>none
  |k + 1,x6,x7,x8,x9,x302000,x302001,x303000,x303001,x303002,x303003=>(spec_l4Next.f x302000 x302001 x7 x9).bind fun t306=>(if t306 < 0 then (if 0≤x9 then (if x9 < (x6.length:Int) then (spec_l4Before.l0 k (x6.set (x9:Int).toNat x7) x7 x8 (wrap64 (x9 - 1)) x302000 x302001 x303000 x303001 x303002 x303003) else (none)) else (none)) else (if 0≤t306 then (if t306 < (x302001.length:Int) then ((spec_l4Compare.f k ((rd_T77 x302001 t306).f0.f0) ((rd_T77 x302001 t306).f0.f1) ((rd_T77 x302001 t306).f0.f2) ((rd_T77 x302001 t306).f0.f3) x303000 x303001 x303002 x303003).bind fun t309=>(if t309 ≥ 0 then (if 0≤x9 then (if x9 < (x6.length:Int) then (spec_l4Before.l0 k (x6.set (x9:Int).toNat x7) x7 (wrap64 (x8 + 1)) (wrap64 (x9 - 1)) x302000 x302001 x303000 x303001 x303002 x303003) else (none)) else (none)) else (spec_l4Before.l1 k x6 t306 (wrap64 (x8 + 1)) x9 x302000 x302001 x303000 x303001 x303002 x303003))) else (none)) else (none)))
end
def spec_l4Before.f (k:Nat) (l0_0:List Int) (l0_1:List (S77)) (a1_0:ByteArray) (a1_1:Int) (a1_2:Int) (a1_3:ByteArray):Option (List Int × Int):=if 5≤35184372088832 then (spec_l4Before.l0 k (List.replicate 5 0) (-1) 0 4 l0_0 l0_1 a1_0 a1_1 a1_2 a1_3) else (none)
theorem spec_l4Before.mono_l:∀ k,(∀ y0 y1 y2 y3 y4 y5 y6 y7 y8 y9,LeO (spec_l4Before.l0 k y0 y1 y2 y3 y4 y5 y6 y7 y8 y9) (spec_l4Before.l0 (k + 1) y0 y1 y2 y3 y4 y5 y6 y7 y8 y9))∧(∀ y0 y1 y2 y3 y4 y5 y6 y7 y8 y9,LeO (spec_l4Before.l1 k y0 y1 y2 y3 y4 y5 y6 y7 y8 y9) (spec_l4Before.l1 (k + 1) y0 y1 y2 y3 y4 y5 y6 y7 y8 y9))
  |0=>⟨fun _ _ _ _ _ _ _ _ _ _ r h=>by simp [spec_l4Before.l0] at h,fun _ _ _ _ _ _ _ _ _ _ r h=>by simp [spec_l4Before.l1] at h⟩
  |k + 1=>by
    obtain ⟨ih0,ih1⟩:=spec_l4Before.mono_l k
    refine ⟨?_,?_⟩
    · intro y0 y1 y2 y3 y4 y5 y6 y7 y8 y9
      unfold spec_l4Before.l0
      repeat' first
      |(with_reducible exact ih0 _ _ _ _ _ _ _ _ _ _)
      |(with_reducible exact ih1 _ _ _ _ _ _ _ _ _ _)
      |(with_reducible exact spec_l4Compare.mono _ _ _ _ _ _ _ _ _)
      |(with_reducible exact LeO.refl _)
      |(with_reducible exact LeO.none _)
      |(with_reducible refine LeO.ite ?_ ?_)
      |(with_reducible refine LeO.bind ?_ (fun _=>?_))
      |exact ih0 _ _ _ _ _ _ _ _ _ _
      |exact ih1 _ _ _ _ _ _ _ _ _ _
      |exact spec_l4Compare.mono _ _ _ _ _ _ _ _ _
      |exact LeO.none _
      |refine LeO.ite ?_ ?_
      |refine LeO.bind ?_ (fun _=>?_)
    · intro y0 y1 y2 y3 y4 y5 y6 y7 y8 y9
      unfold spec_l4Before.l1
      repeat' first
      |(with_reducible exact ih0 _ _ _ _ _ _ _ _ _ _)
      |(with_reducible exact ih1 _ _ _ _ _ _ _ _ _ _)
      |(with_reducible exact spec_l4Compare.mono _ _ _ _ _ _ _ _ _)
      |(with_reducible exact LeO.refl _)
      |(with_reducible exact LeO.none _)
      |(with_reducible refine LeO.ite ?_ ?_)
      |(with_reducible refine LeO.bind ?_ (fun _=>?_))
      |exact ih0 _ _ _ _ _ _ _ _ _ _
      |exact ih1 _ _ _ _ _ _ _ _ _ _
      |exact spec_l4Compare.mono _ _ _ _ _ _ _ _ _
      |exact LeO.none _
      |refine LeO.ite ?_ ?_
      |refine LeO.bind ?_ (fun _=>?_)
theorem spec_l4Before.mono:∀ a0 a1 a2 a3 a4 a5 k,LeO (spec_l4Before.f k a0 a1 a2 a3 a4 a5) (spec_l4Before.f (k + 1) a0 a1 a2 a3 a4 a5):=by
  intro a0 a1 a2 a3 a4 a5 k
  obtain ⟨ih0,ih1⟩:=spec_l4Before.mono_l k
  unfold spec_l4Before.f
  repeat' first
      |(with_reducible exact ih0 _ _ _ _ _ _ _ _ _ _)
      |(with_reducible exact ih1 _ _ _ _ _ _ _ _ _ _)
      |(with_reducible exact spec_l4Compare.mono _ _ _ _ _ _ _ _ _)
      |(with_reducible exact LeO.refl _)
      |(with_reducible exact LeO.none _)
      |(with_reducible refine LeO.ite ?_ ?_)
      |(with_reducible refine LeO.bind ?_ (fun _=>?_))
      |exact ih0 _ _ _ _ _ _ _ _ _ _
      |exact ih1 _ _ _ _ _ _ _ _ _ _
      |exact spec_l4Compare.mono _ _ _ _ _ _ _ _ _
      |exact LeO.none _
      |refine LeO.ite ?_ ?_
      |refine LeO.bind ?_ (fun _=>?_)
def spec_l4Before.T10:Bool × List (List Nat × List Nat):=(true,[([],[]),([0],[0]),([],[]),([1,2],[1,2]),([3],[3]),([4],[4]),([],[]),([5,6],[5,6]),([7],[7])])
def spec_l4Before.B10:List Nat:=[0,1,0,7,15,31,0,127,255]
theorem spec_l4Before.tab10:rtab .any (opsOf Tryd.f87 10)=spec_l4Before.T10:=by kernel_rfl
theorem spec_l4Before.bits10:waitsOk spec_l4Before.T10.2 spec_l4Before.B10=true:=by kernel_rfl
set_option maxHeartbeats 8000000 in
set_option maxRecDepth 100000 in
theorem spec_l4Before.calls (k:Nat) (A0_0:Option Addr) (c0_0:Nat) (l0_0:List Int) (A0_1:Option Addr) (c0_1:Nat) (l0_1:List (S77)) (a1_0:ByteArray) (a1_1:Int) (a1_2:Int) (a1_3:ByteArray) (r1:List Int) (r2:Int) (w:World) (hr0_0:Kd.C (Kd.int .i64) w A0_0 l0_0.length l0_0) (hc0_0:l0_0.length≤c0_0) (hr0_1:Kd.C k77 w A0_1 l0_1.length l0_1) (hc0_1:l0_1.length≤c0_1) (h:spec_l4Before.f k l0_0 l0_1 a1_0 a1_1 a1_2 a1_3=some (r1,r2)) :
    Calls Tryd.prog 87 #[.agg #[.slice A0_0 l0_0.length c0_0,.slice A0_1 l0_1.length c0_1],.agg #[.string a1_0,.int .i64 a1_1,.int .i64 a1_2,.string a1_3]] w fun e w' => ∃ v0_:Value,e = .returned (.tuple #[v0_,.int .i64 r2])∧Kd.R (Kd.int .i64) 3 w' w.heap.size (fun _=>True) v0_ r1∧Below w.heap.size w w':=by
 have hu26:=Tryd.underlying26
 have hu28:=Tryd.underlying28
 have HR0_0:=AsZ.mk hr0_0
 have HC0_0:=AsZ.mk hc0_0
 clear hr0_0 hc0_0
 have HR0_1:=AsZ.mk hr0_1
 have HC0_1:=AsZ.mk hc0_1
 clear hr0_1 hc0_1
 have HB:=AsZ.mk (Below.refl w.heap.size w)
 have H:(if 5≤35184372088832 then (spec_l4Before.l0 k (List.replicate 5 0) (-1) 0 4 l0_0 l0_1 a1_0 a1_1 a1_2 a1_3) else (none))=some (r1,r2):=h
 clear h
 by_cases c3:5≤35184372088832
 rotate_left
 · rw [if_neg c3] at H
   exact absurd H (by simp)
 rw [if_pos c3] at H
 have c3b0:=eq_true c3
 have c3b1:decide (5≤35184372088832)=true:=zE c3
 clear c3
 obtain ⟨y303,hy303⟩:∃ y_:List Int,y_=(List.replicate 5 0):=⟨_,rfl⟩
 replace H:(spec_l4Before.l0 k y303 (-1) 0 4 l0_0 l0_1 a1_0 a1_1 a1_2 a1_3)=some (r1,r2):=by first|(rw [hy303];with_reducible exact H)|(have H2_:=(Option.bind_some _ _).symm.trans H;rw [hy303];with_reducible exact H2_)|(have H2_:=(Option.bind_some _ _).symm.trans H;with_reducible exact H2_)|with_reducible exact H|(rw [hy303];exact H)|exact H
 have Ny303:=AsZ.mk hy303
 clear hy303
 have H':=AsZ.mk H
 clear H
 go_enter Tryd.func87,Tryd.ntmps87
 go_wp2_with (first|((with_reducible refine gate_dst (N:=2) rfl ?_);refine box_event ?hg (N:=2) ?hd (cs:=#[.slice A0_0 l0_0.length c0_0,.slice A0_1 l0_1.length c0_1]) (t:=26) ?hr ?_;(case hd=>rfl);(case hg=>rfl);(case hr=>first|(go_simp;done)|(go_simp;rfl));intro gb301 hg w4 hbox hb;have n0_:=AsZ.mk (bwp (by repeat (first|(with_reducible first|exact HB.out|apply bwa|apply pbN|apply bw1)|exact HB.out)) hb);have n1_:=AsZ.mk (hbox);have n2_:=AsZ.mk ((by rw [hg];exact (bwz (by repeat (first|(with_reducible first|exact HB.out|apply bwa|apply pbN|apply bw1)|exact HB.out))):w.heap.size≤gb301));have n3_:=AsZ.mk ((by rw [hg];exact (bwz (by repeat (first|(with_reducible first|exact HB.out|apply bwa|apply pbN|apply bw1)|exact HB.out))):w.heap.size≤gb301));clear HB;have HB:=n0_;have BK301:=n1_;have GW301:=n2_;have GE301:=n3_;clear n0_ n1_ n2_ n3_;clear hb hbox hg)|((with_reducible refine gate_dst (N:=3) rfl ?_);refine box_event ?hg (N:=3) ?hd (cs:=#[.string a1_0,.int .i64 a1_1,.int .i64 a1_2,.string a1_3]) (t:=28) ?hr ?_;(case hd=>rfl);(case hg=>rfl);(case hr=>first|(go_simp;done)|(go_simp;rfl));intro gb302 hg w5 hbox hb;have n0_:=AsZ.mk (kb (g:=gb301) (o := .cells #[.slice A0_0 l0_0.length c0_0,.slice A0_1 l0_1.length c0_1] 26 (0,0)) (by (with_reducible repeat (first|refine kdN ?_ _|refine kd ?_|refine ka ?_ _));exact BK301.out) hb);have n1_:=AsZ.mk (bwp (by repeat (first|(with_reducible first|exact HB.out|apply bwa|apply pbN|apply bw1|refine bws ?_ GE301.out)|exact HB.out)) hb);have n2_:=AsZ.mk (hbox);have n3_:=AsZ.mk ((by rw [hg];exact (bwz (by repeat (first|(with_reducible first|exact HB.out|apply bwa|apply pbN|apply bw1|refine bws ?_ GE301.out)|exact HB.out))):w.heap.size≤gb302));have n4_:=AsZ.mk ((by rw [hg];exact (bwz (by repeat (first|(with_reducible first|exact HB.out|apply bwa|apply pbN|apply bw1|refine bws ?_ GE301.out)|exact HB.out))):w.heap.size≤gb302));have n5_:=AsZ.mk ((by rw [hg];exact Nat.ne_of_lt (blk_lt (g:=gb301) (o := .cells #[.slice A0_0 l0_0.length c0_0,.slice A0_1 l0_1.length c0_1] 26 (0,0)) (by (with_reducible repeat (first|refine kdN ?_ _|refine kd ?_|refine ka ?_ _));exact BK301.out)):gb301 ≠ gb302));have n6_:=AsZ.mk ((by rw [hg];exact Nat.ne_of_gt (blk_lt (g:=gb301) (o := .cells #[.slice A0_0 l0_0.length c0_0,.slice A0_1 l0_1.length c0_1] 26 (0,0)) (by (with_reducible repeat (first|refine kdN ?_ _|refine kd ?_|refine ka ?_ _));exact BK301.out)):gb302 ≠ gb301));clear BK301;clear HB;have BK301:=n0_;have HB:=n1_;have BK302:=n2_;have GW302:=n3_;have GE302:=n4_;have NB301_302:=n5_;have NB302_301:=n6_;clear n0_ n1_ n2_ n3_ n4_ n5_ n6_;clear hb hbox hg)|((with_reducible refine gate_dst (N:=11) rfl ?_);refine Kd.R_make (Kd.int .i64) _ 3 rfl (N:=11) rfl 23 _ _ rfl 5 rfl rfl Tryd.underlying23 (.int .i64 0) 8 info3 rfl (by decide) (by omega) 0 (ok:=fun _=>True) (okp:=fun _=>True) rfl (fun _ hk=>hk) trivial (by omega) (by omega) (Below.refl _ _) (Nat.le_refl _) ?_;intro v304 w6 ho7 hb hg_ hnew_;clear hg_ hnew_;(first|rw [← Ny303.out] at ho7|(simp only [Int.reduceToNat] at ho7;rw [← Ny303.out] at ho7));have n0_:=AsZ.mk (Kd.R_lower ho7 (bwz (by repeat (first|(with_reducible first|exact HB.out|apply bwa|apply pbN|apply bw1|refine bws ?_ GE301.out|refine bws ?_ GE302.out)|exact HB.out))));have n1_:=AsZ.mk (kb (g:=gb301) (o := .cells #[.slice A0_0 l0_0.length c0_0,.slice A0_1 l0_1.length c0_1] 26 (0,0)) (by (with_reducible repeat (first|refine kdN ?_ _|refine kd ?_|refine ka ?_ _));exact BK301.out) hb);have n2_:=AsZ.mk (kb (g:=gb302) (o := .cells #[.string a1_0,.int .i64 a1_1,.int .i64 a1_2,.string a1_3] 28 (0,0)) (by (with_reducible repeat (first|refine kdN ?_ _|refine kd ?_|refine ka ?_ _));exact BK302.out) hb);have n3_:=AsZ.mk (bwp (by repeat (first|(with_reducible first|exact HB.out|apply bwa|apply pbN|apply bw1|refine bws ?_ GE301.out|refine bws ?_ GE302.out)|exact HB.out)) hb);clear BK301;clear BK302;clear HB;have HO305:=n0_;have BK301:=n1_;have BK302:=n2_;have HB:=n3_;clear n0_ n1_ n2_ n3_;clear hb ho7))
 go_loopg [7,8,9] k (fun kq v7 v8 v9 w' => ∃ (x6_1:List Int) (x7_1:Int) (x8_1:Int) (x9_1:Int),v7 = .int .i64 x7_1∧v8 = .int .i64 x8_1∧v9 = .int .i64 x9_1∧AsZ (spec_l4Before.l0 kq x6_1 x7_1 x8_1 x9_1 l0_0 l0_1 a1_0 a1_1 a1_2 a1_3=some (r1,r2))∧AsZ (kq≤k)∧AsZ (Kd.R (Kd.int .i64) 3 w' w.heap.size (fun _=>True) v304 x6_1)∧AsZ (w'.heap[gb301]? = some (.cells #[(.slice A0_0 l0_0.length c0_0),(.slice A0_1 l0_1.length c0_1)] 26 (0,0)))∧AsZ (w'.heap[gb302]? = some (.cells #[.string a1_0,.int .i64 a1_1,.int .i64 a1_2,.string a1_3] 28 (0,0)))∧AsZ (Below w.heap.size w w'))
 case atStart=>exact ⟨(y303),((-1)),(0),(4),(by first|rfl|(simp;done)|(simp [*];done)),(by first|rfl|(simp;done)|(simp [*];done)),(by first|rfl|(simp;done)|(simp [*];done)),H',⟨Nat.le_refl _⟩,⟨by (with_reducible repeat (first|apply Kd.R_alloc|apply Kd.R_drewN|apply Kd.R_drew));exact HO305.out⟩,⟨by (with_reducible repeat (first|refine kdN ?_ _|refine kd ?_|refine ka ?_ _));exact BK301.out⟩,⟨by (with_reducible repeat (first|refine kdN ?_ _|refine kd ?_|refine ka ?_ _));exact BK302.out⟩,⟨by repeat (first|(with_reducible first|exact HB.out|apply bwa|apply pbN|apply bw1|refine bws ?_ GE301.out|refine bws ?_ GE302.out)|exact HB.out)⟩⟩
 case round =>
  clear H'
  try clear p2
  try clear c3
  try clear c3b0
  try clear c3b1
  obtain ⟨x6_1,x7_1,x8_1,x9_1,rfl,rfl,rfl,HA,HK1,HO_6,BK301,BK302,HB⟩:=hrel
  cases gk with
  |zero=>exact absurd HA.out (by simp [spec_l4Before.l0])
  |succ k1 =>
   have H:=HA.out
   clear HA
   simp only [spec_l4Before.l0] at H
   by_cases c8:x9_1 ≥ 0
   rotate_left
   · rw [if_neg c8] at H
     have c8b0:decide (0≤x9_1)=false:=decide_eq_false c8
     clear c8
     simp only [Option.some.injEq,Prod.mk.injEq] at H
     obtain ⟨rfl,rfl⟩:=H
     go_wp2
     go_ret2
     exact ⟨_,by first|rfl|(simp [errW_none,errW_some]<;>rfl)|(simp [*,errW_none,errW_some]<;>rfl),by (with_reducible repeat (first|apply Kd.R_alloc|apply Kd.R_drewN|apply Kd.R_drew));exact HO_6.out,by repeat (first|(with_reducible first|exact HB.out|apply bwa|apply pbN|apply bw1|refine bws ?_ GE301.out|refine bws ?_ GE302.out)|exact HB.out)⟩
   rw [if_pos c8] at H
   have c8b0:decide (0≤x9_1)=true:=zE c8
   clear c8
   have H':=AsZ.mk H
   clear H
   go_wp2
   go_loopg [7,8] k1 (fun kq v7 v8 w' => ∃ (x7_2:Int) (x8_2:Int),v7 = .int .i64 x7_2∧v8 = .int .i64 x8_2∧AsZ (spec_l4Before.l1 kq x6_1 x7_2 x8_2 x9_1 l0_0 l0_1 a1_0 a1_1 a1_2 a1_3=some (r1,r2))∧AsZ (kq≤k1)∧AsZ (Kd.R (Kd.int .i64) 3 w' w.heap.size (fun _=>True) v304 x6_1)∧AsZ (w'.heap[gb301]? = some (.cells #[(.slice A0_0 l0_0.length c0_0),(.slice A0_1 l0_1.length c0_1)] 26 (0,0)))∧AsZ (w'.heap[gb302]? = some (.cells #[.string a1_0,.int .i64 a1_1,.int .i64 a1_2,.string a1_3] 28 (0,0)))∧AsZ (Below w.heap.size w w'))
   case atStart=>exact ⟨(x7_1),(x8_1),(by first|rfl|(simp;done)|(simp [*];done)),(by first|rfl|(simp;done)|(simp [*];done)),H',⟨Nat.le_refl _⟩,⟨by (with_reducible repeat (first|apply Kd.R_alloc|apply Kd.R_drewN|apply Kd.R_drew));exact HO_6.out⟩,⟨by (with_reducible repeat (first|refine kdN ?_ _|refine kd ?_|refine ka ?_ _));exact BK301.out⟩,⟨by (with_reducible repeat (first|refine kdN ?_ _|refine kd ?_|refine ka ?_ _));exact BK302.out⟩,⟨by repeat (first|(with_reducible first|exact HB.out|apply bwa|apply pbN|apply bw1|refine bws ?_ GE301.out|refine bws ?_ GE302.out)|exact HB.out)⟩⟩
   case round =>
    clear H'
    try clear p2
    try clear c3
    try clear c3b0
    try clear c3b1
    try clear c8
    try clear c8b0
    try clear p2
    obtain ⟨x7_2,x8_2,rfl,rfl,HA,HK2,HO_6,BK301,BK302,HB⟩:=hrel
    cases gk with
    |zero=>exact absurd HA.out (by simp [spec_l4Before.l1])
    |succ k2 =>
     have H:=HA.out
     clear HA
     simp only [spec_l4Before.l1] at H
     replace H:=Option.bind_eq_some_iff.mp H
     obtain ⟨t306,A90,H⟩:=H
     replace H:(if t306 < 0 then (if 0≤x9_1 then (if x9_1 < (x6_1.length:Int) then (spec_l4Before.l0 k2 (x6_1.set (x9_1:Int).toNat x7_2) x7_2 x8_2 (wrap64 (x9_1 - 1)) l0_0 l0_1 a1_0 a1_1 a1_2 a1_3) else (none)) else (none)) else (if 0≤t306 then (if t306 < (l0_1.length:Int) then ((spec_l4Compare.f k2 ((rd_T77 l0_1 t306).f0.f0) ((rd_T77 l0_1 t306).f0.f1) ((rd_T77 l0_1 t306).f0.f2) ((rd_T77 l0_1 t306).f0.f3) a1_0 a1_1 a1_2 a1_3).bind fun t309=>(if t309 ≥ 0 then (if 0≤x9_1 then (if x9_1 < (x6_1.length:Int) then (spec_l4Before.l0 k2 (x6_1.set (x9_1:Int).toNat x7_2) x7_2 (wrap64 (x8_2 + 1)) (wrap64 (x9_1 - 1)) l0_0 l0_1 a1_0 a1_1 a1_2 a1_3) else (none)) else (none)) else (spec_l4Before.l1 k2 x6_1 t306 (wrap64 (x8_2 + 1)) x9_1 l0_0 l0_1 a1_0 a1_1 a1_2 a1_3))) else (none)) else (none)))=some (r1,r2):=H
     have A9:=AsZ.mk A90
     clear A90
     by_cases c10:t306 < 0
     · rw [if_pos c10] at H
       have c10b0:decide (t306 < 0)=true:=zE c10
       clear c10
       by_cases c11:0≤x9_1
       rotate_left
       · rw [if_neg c11] at H
         exact absurd H (by simp)
       rw [if_pos c11] at H
       have c11b0:decide (0≤x9_1)=true:=zE c11
       clear c11
       by_cases c12:x9_1 < (x6_1.length:Int)
       rotate_left
       · rw [if_neg c12] at H
         exact absurd H (by simp)
       rw [if_pos c12] at H
       have c12b0:decide (x9_1 < (x6_1.length:Int))=true:=zE c12
       clear c12
       obtain ⟨y307,hy307⟩:∃ y_:List Int,y_=(x6_1.set (x9_1:Int).toNat x7_2):=⟨_,rfl⟩
       replace H:(spec_l4Before.l0 k2 y307 x7_2 x8_2 (wrap64 (x9_1 - 1)) l0_0 l0_1 a1_0 a1_1 a1_2 a1_3)=some (r1,r2):=by first|(rw [hy307];with_reducible exact H)|(have H2_:=(Option.bind_some _ _).symm.trans H;rw [hy307];with_reducible exact H2_)|(have H2_:=(Option.bind_some _ _).symm.trans H;with_reducible exact H2_)|with_reducible exact H|(rw [hy307];exact H)|exact H
       have Ny307:=AsZ.mk hy307
       clear hy307
       have H':=AsZ.mk H
       clear H
       have hnb14:=NB301_302.out
       have hnc14:=NB302_301.out
       have hcz15_0:wr.cell? ⟨gb301,0,none⟩=some (.slice A0_0 l0_0.length c0_0):=(kc BK301.out 0).trans rfl
       have hcz15_1:wr.cell? ⟨gb301,1,none⟩=some (.slice A0_1 l0_1.length c0_1):=(kc BK301.out 1).trans rfl
       have hfz15_0:=kf BK301.out 0
       have hfz15_1:=kf BK301.out 1
       go_wp2_with (first|((with_reducible refine gcl (f:=72) rfl ?_);refine goesL_ (some 19) rfl rfl Tryd.func72 (by kernel_rfl) rfl #[.agg #[.slice A0_0 l0_0.length c0_0,.slice A0_1 l0_1.length c0_1],.int .i64 x7_2,.int .i64 x9_1] rfl (by (try simp only [zA,zC,zN]);first|done|rfl|(simp only [zM,zL];rfl)) ?_;(with_reducible refine (spec_l4Next.calls _ _ l0_0 _ _ l0_1 x7_2 x9_1 t306 _ ?side1 ?side2 ?side3 ?side4 A9.out).mono ?_);(case side1=>repeat (first|exact (Kd.C_below HR0_0.out HB.out)|(with_reducible refine Kd.C_alloc ?_ _)|(with_reducible refine Kd.C_drewN ?_ _)|(with_reducible refine Kd.C_drew ?_)));(case side2=>exact HC0_0.out);(case side3=>repeat (first|exact (Kd.C_below HR0_1.out HB.out)|(with_reducible refine Kd.C_alloc ?_ _)|(with_reducible refine Kd.C_drewN ?_ _)|(with_reducible refine Kd.C_drew ?_)));(case side4=>exact HC0_1.out);rintro e w16 ⟨rfl,hb⟩;refine ⟨_,rfl,?_⟩;have n0_:=AsZ.mk (Kd.R_below (by (with_reducible repeat (first|apply Kd.R_alloc|apply Kd.R_drewN|apply Kd.R_drew));exact HO_6.out) hb);have n1_:=AsZ.mk (kb (g:=gb301) (o := .cells #[.slice A0_0 l0_0.length c0_0,.slice A0_1 l0_1.length c0_1] 26 (0,0)) (by (with_reducible repeat (first|refine kdN ?_ _|refine kd ?_|refine ka ?_ _));exact BK301.out) hb);have n2_:=AsZ.mk (kb (g:=gb302) (o := .cells #[.string a1_0,.int .i64 a1_1,.int .i64 a1_2,.string a1_3] 28 (0,0)) (by (with_reducible repeat (first|refine kdN ?_ _|refine kd ?_|refine ka ?_ _));exact BK302.out) hb);have n3_:=AsZ.mk (bwp (by repeat (first|(with_reducible first|exact HB.out|apply bwa|apply pbN|apply bw1|refine bws ?_ GE301.out|refine bws ?_ GE302.out)|exact HB.out)) hb);clear HO_6;clear BK301;clear BK302;clear HB;have HO_6:=n0_;have BK301:=n1_;have BK302:=n2_;have HB:=n3_;clear n0_ n1_ n2_ n3_;(try clear hb);(try clear hb2);(try clear hk);(try clear hi);have p13:0≤(x9_1:Int):=zD (by first|(with_reducible assumption)|assumption);have q13:(x9_1:Int) < ((x6_1.length:Int):Int):=zD (by first|(with_reducible assumption)|assumption);obtain ⟨go13,co13,eo13,gb13,gl13,cl13,HG13⟩:=Kd.R_form HO_6.out (by omega);(first|cases eo13|(injection eo13 with ea_ en_ ec_;(first|subst ea_|(injection ea_ with ea_;subst ea_));subst ec_;clear en_));have GB13:=AsZ.mk gb13;have GG13:=AsZ.mk HG13;clear gb13 gl13 HG13;obtain ⟨hx13_0,hf13_0⟩:=Kd.R_celln 0 HO_6.out (x9_1:Int) p13 q13;replace p13:=eq_true p13;replace q13:=eq_true q13;obtain ⟨hy17_,hz17_⟩:=Kd.R_celln 0 HO_6.out (x9_1:Int) (zD (by first|(with_reducible assumption)|assumption)) (zD (by first|(with_reducible assumption)|assumption));have HP17:=Kd.R_putg HO_6.out (x9_1:Int) x7_2)|((with_reducible refine gate_store (t:=3) (p:=37) rfl ?_);refine store_event (t:=3) (p:=37) (v:=?vo_w18) (w1:=(w16.setCell ⟨go13,(x9_1:Int).toNat,none⟩ (.int .i64 x7_2))) ?hg ?ho ?hn ?hr ?_;(case ho=>rfl);(case hg=>rfl);(case hn=>rfl);(case hr=>first|(go_simp;done)|(go_simp;rfl));intro w18 hw;have hg:w16.grownBy w18 (some go13):=(by rw [hw];exact HP17.2);have hp_:Kd.R (Kd.int .i64) 3 w18 w.heap.size (fun _=>True) (.slice (some ⟨go13,0,none⟩) x6_1.length co13) y307:=(by rw [hw,Ny307.out];exact HP17.1);clear HP17;have n0_:=AsZ.mk (hp_);have n1_:=AsZ.mk (blk_grown (g:=gb301) (o := .cells #[.slice A0_0 l0_0.length c0_0,.slice A0_1 l0_1.length c0_1] 26 (0,0)) (by (with_reducible repeat (first|refine kdN ?_ _|refine kd ?_|refine ka ?_ _));exact BK301.out) hg (Kd.R_ne HO_6.out BK301.out (by decide)));have n2_:=AsZ.mk (blk_grown (g:=gb302) (o := .cells #[.string a1_0,.int .i64 a1_1,.int .i64 a1_2,.string a1_3] 28 (0,0)) (by (with_reducible repeat (first|refine kdN ?_ _|refine kd ?_|refine ka ?_ _));exact BK302.out) hg (Kd.R_ne HO_6.out BK302.out (by decide)));have n3_:=AsZ.mk ((by rw [hw];exact bws (HB.out) GB13.out:Below w.heap.size w w18));clear HO_6;clear BK301;clear BK302;clear HB;have HO_6:=n0_;have BK301:=n1_;have BK302:=n2_;have HB:=n3_;clear n0_ n1_ n2_ n3_;clear hg hw hp_))
       go_roundg k2
       case measure=>have:=HK1.out;have:=HK2.out;omega
       case rel=>exact ⟨(y307),(x7_2),(x8_2),(wrap64 (x9_1 - 1)),(by first|rfl|(simp;done)|(simp [*];done)),(by first|rfl|(simp;done)|(simp [*];done)),(by first|rfl|(simp;done)|(simp [*];done)),H',⟨by have:=HK1.out;have:=HK2.out;omega⟩,⟨by (with_reducible repeat (first|apply Kd.R_alloc|apply Kd.R_drewN|apply Kd.R_drew));exact HO_6.out⟩,⟨by (with_reducible repeat (first|refine kdN ?_ _|refine kd ?_|refine ka ?_ _));exact BK301.out⟩,⟨by (with_reducible repeat (first|refine kdN ?_ _|refine kd ?_|refine ka ?_ _));exact BK302.out⟩,⟨by repeat (first|(with_reducible first|exact HB.out|apply bwa|apply pbN|apply bw1|refine bws ?_ GE301.out|refine bws ?_ GE302.out)|exact HB.out)⟩⟩
     rw [if_neg c10] at H
     have c10b0:decide (t306 < 0)=false:=decide_eq_false c10
     clear c10
     by_cases c19:0≤t306
     rotate_left
     · rw [if_neg c19] at H
       exact absurd H (by simp)
     rw [if_pos c19] at H
     have c19b0:decide (0≤t306)=true:=zE c19
     clear c19
     by_cases c20:t306 < (l0_1.length:Int)
     rotate_left
     · rw [if_neg c20] at H
       exact absurd H (by simp)
     rw [if_pos c20] at H
     have c20b0:decide (t306 < (l0_1.length:Int))=true:=zE c20
     clear c20
     replace H:=Option.bind_eq_some_iff.mp H
     obtain ⟨t309,A210,H⟩:=H
     replace H:(if t309 ≥ 0 then (if 0≤x9_1 then (if x9_1 < (x6_1.length:Int) then (spec_l4Before.l0 k2 (x6_1.set (x9_1:Int).toNat x7_2) x7_2 (wrap64 (x8_2 + 1)) (wrap64 (x9_1 - 1)) l0_0 l0_1 a1_0 a1_1 a1_2 a1_3) else (none)) else (none)) else (spec_l4Before.l1 k2 x6_1 t306 (wrap64 (x8_2 + 1)) x9_1 l0_0 l0_1 a1_0 a1_1 a1_2 a1_3))=some (r1,r2):=H
     have A21:=AsZ.mk A210
     clear A210
     by_cases c22:t309 ≥ 0
     rotate_left
     · rw [if_neg c22] at H
       have c22b0:decide (0≤t309)=false:=decide_eq_false c22
       clear c22
       have H':=AsZ.mk H
       clear H
       have hnb33:=NB301_302.out
       have hnc33:=NB302_301.out
       have hcz34_0:wr.cell? ⟨gb301,0,none⟩=some (.slice A0_0 l0_0.length c0_0):=(kc BK301.out 0).trans rfl
       have hcz34_1:wr.cell? ⟨gb301,1,none⟩=some (.slice A0_1 l0_1.length c0_1):=(kc BK301.out 1).trans rfl
       have hfz34_0:=kf BK301.out 0
       have hfz34_1:=kf BK301.out 1
       try go_wp2_with (first|((with_reducible refine gcl (f:=72) rfl ?_);refine goesL_ (some 19) rfl rfl Tryd.func72 (by kernel_rfl) rfl #[.agg #[.slice A0_0 l0_0.length c0_0,.slice A0_1 l0_1.length c0_1],.int .i64 x7_2,.int .i64 x9_1] rfl (by (try simp only [zA,zC,zN]);first|done|rfl|(simp only [zM,zL];rfl)) ?_;(with_reducible refine (spec_l4Next.calls _ _ l0_0 _ _ l0_1 x7_2 x9_1 t306 _ ?side1 ?side2 ?side3 ?side4 A9.out).mono ?_);(case side1=>repeat (first|exact (Kd.C_below HR0_0.out HB.out)|(with_reducible refine Kd.C_alloc ?_ _)|(with_reducible refine Kd.C_drewN ?_ _)|(with_reducible refine Kd.C_drew ?_)));(case side2=>exact HC0_0.out);(case side3=>repeat (first|exact (Kd.C_below HR0_1.out HB.out)|(with_reducible refine Kd.C_alloc ?_ _)|(with_reducible refine Kd.C_drewN ?_ _)|(with_reducible refine Kd.C_drew ?_)));(case side4=>exact HC0_1.out);rintro e w35 ⟨rfl,hb⟩;refine ⟨_,rfl,?_⟩;have n0_:=AsZ.mk (Kd.R_below (by (with_reducible repeat (first|apply Kd.R_alloc|apply Kd.R_drewN|apply Kd.R_drew));exact HO_6.out) hb);have n1_:=AsZ.mk (kb (g:=gb301) (o := .cells #[.slice A0_0 l0_0.length c0_0,.slice A0_1 l0_1.length c0_1] 26 (0,0)) (by (with_reducible repeat (first|refine kdN ?_ _|refine kd ?_|refine ka ?_ _));exact BK301.out) hb);have n2_:=AsZ.mk (kb (g:=gb302) (o := .cells #[.string a1_0,.int .i64 a1_1,.int .i64 a1_2,.string a1_3] 28 (0,0)) (by (with_reducible repeat (first|refine kdN ?_ _|refine kd ?_|refine ka ?_ _));exact BK302.out) hb);have n3_:=AsZ.mk (bwp (by repeat (first|(with_reducible first|exact HB.out|apply bwa|apply pbN|apply bw1|refine bws ?_ GE301.out|refine bws ?_ GE302.out)|exact HB.out)) hb);clear HO_6;clear BK301;clear BK302;clear HB;have HO_6:=n0_;have BK301:=n1_;have BK302:=n2_;have HB:=n3_;clear n0_ n1_ n2_ n3_;(try clear hb);(try clear hb2);(try clear hk);(try clear hi)))
       have n0_:=AsZ.mk (Kd.R_drew HO_6.out)
       have n1_:=AsZ.mk (kd BK301.out)
       have n2_:=AsZ.mk (kd BK302.out)
       have n3_:=AsZ.mk (bw1 HB.out)
       clear HO_6 BK301 BK302 HB
       have HO_6:=n0_
       have BK301:=n1_
       have BK302:=n2_
       have HB:=n3_
       clear n0_ n1_ n2_ n3_
       have p308:0≤(t306:Int):=zD (by first|(with_reducible assumption)|assumption)
       have q308:t306 < (l0_1.length:Int):=zD (by first|(with_reducible assumption)|assumption)
       obtain ⟨ad308,A308_4,c308_4,e308,hx308_0,hx308_1,hx308_2,hx308_3,hx308_4,hl308_4,hi308_4⟩:=at_T77 HR0_1.out t306 p308 q308
       have hw308_4:=hx308_4
       have hw308_3:=hx308_3
       have hw308_2:=hx308_2
       have hw308_1:=hx308_1
       have hw308_0:=hx308_0
       cases e308
       replace hx308_0:=(HB.out.cell (zB w _ hx308_0)).trans hx308_0
       replace hx308_1:=(HB.out.cell (zB w _ hx308_1)).trans hx308_1
       replace hx308_2:=(HB.out.cell (zB w _ hx308_2)).trans hx308_2
       replace hx308_3:=(HB.out.cell (zB w _ hx308_3)).trans hx308_3
       replace hx308_4:=(HB.out.cell (zB w _ hx308_4)).trans hx308_4
       have HR308_4:=AsZ.mk hi308_4
       have HC308_4:=AsZ.mk hl308_4
       clear hi308_4 hl308_4
       replace p308:=eq_true p308
       replace q308:=eq_true q308
       refine start_ (n:=9) (S:=fun w'=>w'.cell? ⟨gb301,0,none⟩=some (.slice A0_0 l0_0.length c0_0)∧w'.cell? ⟨gb301,1,none⟩=some (.slice (some ad308) l0_1.length c0_1)∧w'.cell? ⟨gb302,0,none⟩=some (.string a1_0)∧w'.cell? ⟨gb302,1,none⟩=some (.int .i64 a1_1)∧w'.cell? ⟨gb302,2,none⟩=some (.int .i64 a1_2)∧w'.cell? ⟨gb302,3,none⟩=some (.string a1_3)∧w'.cell? (ad308.add ((t306).toNat * 5))=some (.string ((rd_T77 l0_1 t306).f0.f0))∧w'.cell? ⟨(ad308.add ((t306).toNat * 5)).block,(ad308.add ((t306).toNat * 5)).off + 1,none⟩=some (.int .i64 ((rd_T77 l0_1 t306).f0.f1))∧w'.cell? ⟨(ad308.add ((t306).toNat * 5)).block,(ad308.add ((t306).toNat * 5)).off + 2,none⟩=some (.int .i64 ((rd_T77 l0_1 t306).f0.f2))∧w'.cell? ⟨(ad308.add ((t306).toNat * 5)).block,(ad308.add ((t306).toNat * 5)).off + 3,none⟩=some (.string ((rd_T77 l0_1 t306).f0.f3))∧w'.cell? ⟨(ad308.add ((t306).toNat * 5)).block,(ad308.add ((t306).toNat * 5)).off + 4,none⟩=some (.slice A308_4 ((rd_T77 l0_1 t306).f1).length c308_4)) (ds:=[]) (b_ 0 9) (by kernel_rfl) rfl rfl ⟨(kc BK301.out 0).trans rfl,(kc BK301.out 1).trans rfl,(kc BK302.out 0).trans rfl,(kc BK302.out 1).trans rfl,(kc BK302.out 2).trans rfl,(kc BK302.out 3).trans rfl,((HB.out.cell (zB w _ hw308_0)).trans hw308_0),((HB.out.cell (zB w _ hw308_1)).trans hw308_1),((HB.out.cell (zB w _ hw308_2)).trans hw308_2),((HB.out.cell (zB w _ hw308_3)).trans hw308_3),((HB.out.cell (zB w _ hw308_4)).trans hw308_4)⟩ (fun hHeld=>?_);refine with_tabW spec_l4Before.tab10 spec_l4Before.bits10 (fun HT_ HW_=>?_)
       generalize w35.drew=w36 at HO_6 BK301 BK302 HB HR308_4 hx308_0 hx308_1 hx308_2 hx308_3 hx308_4 hHeld ⊢
       refine pure_ (i:=0) (N:=some 24) (v:=?_) (a':=?_) (b_ 1 8) rfl rfl (anO HT_.out (by kernel_rfl)) (fun _ _ _ h=>h) (Or.inl ⟨by rfl,?_⟩) ?_ ?_
       rotate_left
       · intro w'
         go_simp
         with_reducible rfl
       rotate_left
       · simp only [Act.put,zS,zT,zU,i64_w,i32_w]
         rfl
       refine pure_ (i:=2) (N:=some 26) (v:=?_) (a':=?_) #[true,false,true,false,false,false,false,false,false] rfl rfl (anO HT_.out (by kernel_rfl)) (fun _ _ _ h=>h) (Or.inl ⟨by rfl,?_⟩) ?_ ?_
       rotate_left
       · intro w'
         go_simp
         with_reducible rfl
       rotate_left
       · simp only [Act.put,zS,zT,zU,i64_w,i32_w]
         rfl
       refine take_ (i:=1) (N:=some 25) (v:=?_) (a':=?_) (b_ 3 6) rfl rfl (tkO HT_.out HW_.out (by kernel_rfl)) (fun _ _ _ h=>h) (Or.inl ⟨by rfl,?_⟩) hHeld ?_ ?_
       rotate_left
       · rintro w' ⟨s0,s1,s2,s3,s4,s5,s6,s7,s8,s9,s10⟩
         go_simp
         with_reducible rfl
       rotate_left
       · simp only [Act.put,zS,zT,zU,i64_w,i32_w]
         rfl
       refine pure_ (i:=3) (N:=some 27) (v:=?_) (a':=?_) (b_ 4 5) rfl rfl (anO HT_.out (by kernel_rfl)) (fun _ _ _ h=>h) (Or.inl ⟨by rfl,?_⟩) ?_ ?_
       rotate_left
       · intro w'
         go_simp
         with_reducible rfl
       rotate_left
       · simp only [Act.put,zS,zT,zU,i64_w,i32_w]
         rfl
       refine pure_ (i:=4) (N:=some 28) (v:=?_) (a':=?_) (b_ 5 4) rfl rfl (anO HT_.out (by kernel_rfl)) (fun _ _ _ h=>h) (Or.inl ⟨by rfl,?_⟩) ?_ ?_
       rotate_left
       · intro w'
         go_simp
         with_reducible rfl
       rotate_left
       · simp only [Act.put,zS,zT,zU,i64_w,i32_w]
         rfl
       refine take_ (i:=5) (N:=some 29) (v:=?_) (a':=?_) (b_ 6 3) rfl rfl (tkO HT_.out HW_.out (by kernel_rfl)) (fun _ _ _ h=>h) (Or.inl ⟨by rfl,?_⟩) hHeld ?_ ?_
       rotate_left
       · rintro w' ⟨s0,s1,s2,s3,s4,s5,s6,s7,s8,s9,s10⟩
         go_simp
         with_reducible rfl
       rotate_left
       · simp only [Act.put,zS,zT,zU,i64_w,i32_w]
         rfl
       refine take_ (i:=6) (N:=some 30) (v:=?_) (a':=?_) (b_ 7 2) rfl rfl (tkO HT_.out HW_.out (by kernel_rfl)) (fun _ _ _ h=>h) (Or.inl ⟨by rfl,?_⟩) hHeld ?_ ?_
       rotate_left
       · rintro w' ⟨s0,s1,s2,s3,s4,s5,s6,s7,s8,s9,s10⟩
         go_simp
         with_reducible rfl
       rotate_left
       · simp only [Act.put,zS,zT,zU,i64_w,i32_w]
         rfl
       refine one_ (i:=7) (N:=some 31) (b_ 8 1) rfl rfl (one_of HT_.out (by kernel_rfl)) (by decide) (fun K hK=>?_)
       refine goes_ Tryd.func47 (by kernel_rfl) rfl #[.agg #[.string ((rd_T77 l0_1 t306).f0.f0),.int .i64 ((rd_T77 l0_1 t306).f0.f1),.int .i64 ((rd_T77 l0_1 t306).f0.f2),.string ((rd_T77 l0_1 t306).f0.f3)],.agg #[.string a1_0,.int .i64 a1_1,.int .i64 a1_2,.string a1_3]] (by rfl) rfl rfl (by (try simp only [zA,zC,zN]);first|done|rfl|(simp only [zM,zL];rfl)) ?_
       with_reducible refine (spec_l4Compare.calls k2 ((rd_T77 l0_1 t306).f0.f0) ((rd_T77 l0_1 t306).f0.f1) ((rd_T77 l0_1 t306).f0.f2) ((rd_T77 l0_1 t306).f0.f3) a1_0 a1_1 a1_2 a1_3 t309 _ A21.out).mono ?_
       rintro e w37 ⟨rfl,hb⟩
       refine ⟨_,rfl,?_⟩
       have n0_:=AsZ.mk (Kd.R_below (by (with_reducible repeat (first|apply Kd.R_alloc|apply Kd.R_drewN|apply Kd.R_drew));exact HO_6.out) hb)
       have n1_:=AsZ.mk (kb (g:=gb301) (o := .cells #[.slice A0_0 l0_0.length c0_0,.slice (some ad308) l0_1.length c0_1] 26 (0,0)) (by (with_reducible repeat (first|refine kdN ?_ _|refine kd ?_|refine ka ?_ _));exact BK301.out) hb)
       have n2_:=AsZ.mk (kb (g:=gb302) (o := .cells #[.string a1_0,.int .i64 a1_1,.int .i64 a1_2,.string a1_3] 28 (0,0)) (by (with_reducible repeat (first|refine kdN ?_ _|refine kd ?_|refine ka ?_ _));exact BK302.out) hb)
       have n3_:=AsZ.mk (bwp (by repeat (first|(with_reducible first|exact HB.out|apply bwa|apply pbN|apply bw1|refine bws ?_ GE301.out|refine bws ?_ GE302.out)|exact HB.out)) hb)
       clear HO_6 BK301 BK302 HB
       have HO_6:=n0_
       have BK301:=n1_
       have BK302:=n2_
       have HB:=n3_
       clear n0_ n1_ n2_ n3_
       (try clear hb)
       (try clear hb2)
       (try clear hk)
       (try clear hi)
       refine hK.out _ _ ⟨(kc BK301.out 0).trans rfl,(kc BK301.out 1).trans rfl,(kc BK302.out 0).trans rfl,(kc BK302.out 1).trans rfl,(kc BK302.out 2).trans rfl,(kc BK302.out 3).trans rfl,((HB.out.cell (zB w _ hw308_0)).trans hw308_0),((HB.out.cell (zB w _ hw308_1)).trans hw308_1),((HB.out.cell (zB w _ hw308_2)).trans hw308_2),((HB.out.cell (zB w _ hw308_3)).trans hw308_3),((HB.out.cell (zB w _ hw308_4)).trans hw308_4)⟩ (fun hHeld=>?_)
       clear hK K
       refine norm_ (a':=?_) ?_ ?_
       rotate_left
       · show Act.put _ (some 31) _=_
         simp only [Act.put,zS,zT,zU,i64_w,i32_w]
         rfl
       refine pure_ (i:=8) (N:=some 32) (v:=?_) (a':=?_) (b_ 9 0) rfl rfl (anO HT_.out (by kernel_rfl)) (fun _ _ _ h=>h) (Or.inl ⟨by rfl,?_⟩) ?_ ?_
       rotate_left
       · intro w'
         go_simp
         with_reducible rfl
       rotate_left
       · simp only [Act.put,zS,zT,zU,i64_w,i32_w]
         rfl
       refine dn_ (dnO HT_.out (by kernel_rfl)) ?_
       try go_wp2
       go_roundg k2
       case measure=>have:=HK1.out;have:=HK2.out;omega
       case rel=>exact ⟨(t306),(wrap64 (x8_2 + 1)),(by first|rfl|(simp;done)|(simp [*];done)),(by first|rfl|(simp;done)|(simp [*];done)),H',⟨by have:=HK1.out;have:=HK2.out;omega⟩,⟨by (with_reducible repeat (first|apply Kd.R_alloc|apply Kd.R_drewN|apply Kd.R_drew));exact HO_6.out⟩,⟨by (with_reducible repeat (first|refine kdN ?_ _|refine kd ?_|refine ka ?_ _));exact BK301.out⟩,⟨by (with_reducible repeat (first|refine kdN ?_ _|refine kd ?_|refine ka ?_ _));exact BK302.out⟩,⟨by repeat (first|(with_reducible first|exact HB.out|apply bwa|apply pbN|apply bw1|refine bws ?_ GE301.out|refine bws ?_ GE302.out)|exact HB.out)⟩⟩
     rw [if_pos c22] at H
     have c22b0:decide (0≤t309)=true:=zE c22
     clear c22
     by_cases c23:0≤x9_1
     rotate_left
     · rw [if_neg c23] at H
       exact absurd H (by simp)
     rw [if_pos c23] at H
     have c23b0:decide (0≤x9_1)=true:=zE c23
     clear c23
     by_cases c24:x9_1 < (x6_1.length:Int)
     rotate_left
     · rw [if_neg c24] at H
       exact absurd H (by simp)
     rw [if_pos c24] at H
     have c24b0:decide (x9_1 < (x6_1.length:Int))=true:=zE c24
     clear c24
     obtain ⟨y310,hy310⟩:∃ y_:List Int,y_=(x6_1.set (x9_1:Int).toNat x7_2):=⟨_,rfl⟩
     replace H:(spec_l4Before.l0 k2 y310 x7_2 (wrap64 (x8_2 + 1)) (wrap64 (x9_1 - 1)) l0_0 l0_1 a1_0 a1_1 a1_2 a1_3)=some (r1,r2):=by first|(rw [hy310];with_reducible exact H)|(have H2_:=(Option.bind_some _ _).symm.trans H;rw [hy310];with_reducible exact H2_)|(have H2_:=(Option.bind_some _ _).symm.trans H;with_reducible exact H2_)|with_reducible exact H|(rw [hy310];exact H)|exact H
     have Ny310:=AsZ.mk hy310
     clear hy310
     have H':=AsZ.mk H
     clear H
     have hnb26:=NB301_302.out
     have hnc26:=NB302_301.out
     have hcz27_0:wr.cell? ⟨gb301,0,none⟩=some (.slice A0_0 l0_0.length c0_0):=(kc BK301.out 0).trans rfl
     have hcz27_1:wr.cell? ⟨gb301,1,none⟩=some (.slice A0_1 l0_1.length c0_1):=(kc BK301.out 1).trans rfl
     have hfz27_0:=kf BK301.out 0
     have hfz27_1:=kf BK301.out 1
     try go_wp2_with (first|((with_reducible refine gcl (f:=72) rfl ?_);refine goesL_ (some 19) rfl rfl Tryd.func72 (by kernel_rfl) rfl #[.agg #[.slice A0_0 l0_0.length c0_0,.slice A0_1 l0_1.length c0_1],.int .i64 x7_2,.int .i64 x9_1] rfl (by (try simp only [zA,zC,zN]);first|done|rfl|(simp only [zM,zL];rfl)) ?_;(with_reducible refine (spec_l4Next.calls _ _ l0_0 _ _ l0_1 x7_2 x9_1 t306 _ ?side1 ?side2 ?side3 ?side4 A9.out).mono ?_);(case side1=>repeat (first|exact (Kd.C_below HR0_0.out HB.out)|(with_reducible refine Kd.C_alloc ?_ _)|(with_reducible refine Kd.C_drewN ?_ _)|(with_reducible refine Kd.C_drew ?_)));(case side2=>exact HC0_0.out);(case side3=>repeat (first|exact (Kd.C_below HR0_1.out HB.out)|(with_reducible refine Kd.C_alloc ?_ _)|(with_reducible refine Kd.C_drewN ?_ _)|(with_reducible refine Kd.C_drew ?_)));(case side4=>exact HC0_1.out);rintro e w28 ⟨rfl,hb⟩;refine ⟨_,rfl,?_⟩;have n0_:=AsZ.mk (Kd.R_below (by (with_reducible repeat (first|apply Kd.R_alloc|apply Kd.R_drewN|apply Kd.R_drew));exact HO_6.out) hb);have n1_:=AsZ.mk (kb (g:=gb301) (o := .cells #[.slice A0_0 l0_0.length c0_0,.slice A0_1 l0_1.length c0_1] 26 (0,0)) (by (with_reducible repeat (first|refine kdN ?_ _|refine kd ?_|refine ka ?_ _));exact BK301.out) hb);have n2_:=AsZ.mk (kb (g:=gb302) (o := .cells #[.string a1_0,.int .i64 a1_1,.int .i64 a1_2,.string a1_3] 28 (0,0)) (by (with_reducible repeat (first|refine kdN ?_ _|refine kd ?_|refine ka ?_ _));exact BK302.out) hb);have n3_:=AsZ.mk (bwp (by repeat (first|(with_reducible first|exact HB.out|apply bwa|apply pbN|apply bw1|refine bws ?_ GE301.out|refine bws ?_ GE302.out)|exact HB.out)) hb);clear HO_6;clear BK301;clear BK302;clear HB;have HO_6:=n0_;have BK301:=n1_;have BK302:=n2_;have HB:=n3_;clear n0_ n1_ n2_ n3_;(try clear hb);(try clear hb2);(try clear hk);(try clear hi)))
     have n0_:=AsZ.mk (Kd.R_drew HO_6.out)
     have n1_:=AsZ.mk (kd BK301.out)
     have n2_:=AsZ.mk (kd BK302.out)
     have n3_:=AsZ.mk (bw1 HB.out)
     clear HO_6 BK301 BK302 HB
     have HO_6:=n0_
     have BK301:=n1_
     have BK302:=n2_
     have HB:=n3_
     clear n0_ n1_ n2_ n3_
     have p308:0≤(t306:Int):=zD (by first|(with_reducible assumption)|assumption)
     have q308:t306 < (l0_1.length:Int):=zD (by first|(with_reducible assumption)|assumption)
     obtain ⟨ad308,A308_4,c308_4,e308,hx308_0,hx308_1,hx308_2,hx308_3,hx308_4,hl308_4,hi308_4⟩:=at_T77 HR0_1.out t306 p308 q308
     have hw308_4:=hx308_4
     have hw308_3:=hx308_3
     have hw308_2:=hx308_2
     have hw308_1:=hx308_1
     have hw308_0:=hx308_0
     cases e308
     replace hx308_0:=(HB.out.cell (zB w _ hx308_0)).trans hx308_0
     replace hx308_1:=(HB.out.cell (zB w _ hx308_1)).trans hx308_1
     replace hx308_2:=(HB.out.cell (zB w _ hx308_2)).trans hx308_2
     replace hx308_3:=(HB.out.cell (zB w _ hx308_3)).trans hx308_3
     replace hx308_4:=(HB.out.cell (zB w _ hx308_4)).trans hx308_4
     have HR308_4:=AsZ.mk hi308_4
     have HC308_4:=AsZ.mk hl308_4
     clear hi308_4 hl308_4
     replace p308:=eq_true p308
     replace q308:=eq_true q308
     refine start_ (n:=9) (S:=fun w'=>w'.cell? ⟨gb301,0,none⟩=some (.slice A0_0 l0_0.length c0_0)∧w'.cell? ⟨gb301,1,none⟩=some (.slice (some ad308) l0_1.length c0_1)∧w'.cell? ⟨gb302,0,none⟩=some (.string a1_0)∧w'.cell? ⟨gb302,1,none⟩=some (.int .i64 a1_1)∧w'.cell? ⟨gb302,2,none⟩=some (.int .i64 a1_2)∧w'.cell? ⟨gb302,3,none⟩=some (.string a1_3)∧w'.cell? (ad308.add ((t306).toNat * 5))=some (.string ((rd_T77 l0_1 t306).f0.f0))∧w'.cell? ⟨(ad308.add ((t306).toNat * 5)).block,(ad308.add ((t306).toNat * 5)).off + 1,none⟩=some (.int .i64 ((rd_T77 l0_1 t306).f0.f1))∧w'.cell? ⟨(ad308.add ((t306).toNat * 5)).block,(ad308.add ((t306).toNat * 5)).off + 2,none⟩=some (.int .i64 ((rd_T77 l0_1 t306).f0.f2))∧w'.cell? ⟨(ad308.add ((t306).toNat * 5)).block,(ad308.add ((t306).toNat * 5)).off + 3,none⟩=some (.string ((rd_T77 l0_1 t306).f0.f3))∧w'.cell? ⟨(ad308.add ((t306).toNat * 5)).block,(ad308.add ((t306).toNat * 5)).off + 4,none⟩=some (.slice A308_4 ((rd_T77 l0_1 t306).f1).length c308_4)) (ds:=[]) (b_ 0 9) (by kernel_rfl) rfl rfl ⟨(kc BK301.out 0).trans rfl,(kc BK301.out 1).trans rfl,(kc BK302.out 0).trans rfl,(kc BK302.out 1).trans rfl,(kc BK302.out 2).trans rfl,(kc BK302.out 3).trans rfl,((HB.out.cell (zB w _ hw308_0)).trans hw308_0),((HB.out.cell (zB w _ hw308_1)).trans hw308_1),((HB.out.cell (zB w _ hw308_2)).trans hw308_2),((HB.out.cell (zB w _ hw308_3)).trans hw308_3),((HB.out.cell (zB w _ hw308_4)).trans hw308_4)⟩ (fun hHeld=>?_);refine with_tabW spec_l4Before.tab10 spec_l4Before.bits10 (fun HT_ HW_=>?_)
     generalize w28.drew=w29 at HO_6 BK301 BK302 HB HR308_4 hx308_0 hx308_1 hx308_2 hx308_3 hx308_4 hHeld ⊢
     refine pure_ (i:=0) (N:=some 24) (v:=?_) (a':=?_) (b_ 1 8) rfl rfl (anO HT_.out (by kernel_rfl)) (fun _ _ _ h=>h) (Or.inl ⟨by rfl,?_⟩) ?_ ?_
     rotate_left
     · intro w'
       go_simp
       with_reducible rfl
     rotate_left
     · simp only [Act.put,zS,zT,zU,i64_w,i32_w]
       rfl
     refine pure_ (i:=2) (N:=some 26) (v:=?_) (a':=?_) #[true,false,true,false,false,false,false,false,false] rfl rfl (anO HT_.out (by kernel_rfl)) (fun _ _ _ h=>h) (Or.inl ⟨by rfl,?_⟩) ?_ ?_
     rotate_left
     · intro w'
       go_simp
       with_reducible rfl
     rotate_left
     · simp only [Act.put,zS,zT,zU,i64_w,i32_w]
       rfl
     refine take_ (i:=1) (N:=some 25) (v:=?_) (a':=?_) (b_ 3 6) rfl rfl (tkO HT_.out HW_.out (by kernel_rfl)) (fun _ _ _ h=>h) (Or.inl ⟨by rfl,?_⟩) hHeld ?_ ?_
     rotate_left
     · rintro w' ⟨s0,s1,s2,s3,s4,s5,s6,s7,s8,s9,s10⟩
       go_simp
       with_reducible rfl
     rotate_left
     · simp only [Act.put,zS,zT,zU,i64_w,i32_w]
       rfl
     refine pure_ (i:=3) (N:=some 27) (v:=?_) (a':=?_) (b_ 4 5) rfl rfl (anO HT_.out (by kernel_rfl)) (fun _ _ _ h=>h) (Or.inl ⟨by rfl,?_⟩) ?_ ?_
     rotate_left
     · intro w'
       go_simp
       with_reducible rfl
     rotate_left
     · simp only [Act.put,zS,zT,zU,i64_w,i32_w]
       rfl
     refine pure_ (i:=4) (N:=some 28) (v:=?_) (a':=?_) (b_ 5 4) rfl rfl (anO HT_.out (by kernel_rfl)) (fun _ _ _ h=>h) (Or.inl ⟨by rfl,?_⟩) ?_ ?_
     rotate_left
     · intro w'
       go_simp
       with_reducible rfl
     rotate_left
     · simp only [Act.put,zS,zT,zU,i64_w,i32_w]
       rfl
     refine take_ (i:=5) (N:=some 29) (v:=?_) (a':=?_) (b_ 6 3) rfl rfl (tkO HT_.out HW_.out (by kernel_rfl)) (fun _ _ _ h=>h) (Or.inl ⟨by rfl,?_⟩) hHeld ?_ ?_
     rotate_left
     · rintro w' ⟨s0,s1,s2,s3,s4,s5,s6,s7,s8,s9,s10⟩
       go_simp
       with_reducible rfl
     rotate_left
     · simp only [Act.put,zS,zT,zU,i64_w,i32_w]
       rfl
     refine take_ (i:=6) (N:=some 30) (v:=?_) (a':=?_) (b_ 7 2) rfl rfl (tkO HT_.out HW_.out (by kernel_rfl)) (fun _ _ _ h=>h) (Or.inl ⟨by rfl,?_⟩) hHeld ?_ ?_
     rotate_left
     · rintro w' ⟨s0,s1,s2,s3,s4,s5,s6,s7,s8,s9,s10⟩
       go_simp
       with_reducible rfl
     rotate_left
     · simp only [Act.put,zS,zT,zU,i64_w,i32_w]
       rfl
     refine one_ (i:=7) (N:=some 31) (b_ 8 1) rfl rfl (one_of HT_.out (by kernel_rfl)) (by decide) (fun K hK=>?_)
     refine goes_ Tryd.func47 (by kernel_rfl) rfl #[.agg #[.string ((rd_T77 l0_1 t306).f0.f0),.int .i64 ((rd_T77 l0_1 t306).f0.f1),.int .i64 ((rd_T77 l0_1 t306).f0.f2),.string ((rd_T77 l0_1 t306).f0.f3)],.agg #[.string a1_0,.int .i64 a1_1,.int .i64 a1_2,.string a1_3]] (by rfl) rfl rfl (by (try simp only [zA,zC,zN]);first|done|rfl|(simp only [zM,zL];rfl)) ?_
     with_reducible refine (spec_l4Compare.calls k2 ((rd_T77 l0_1 t306).f0.f0) ((rd_T77 l0_1 t306).f0.f1) ((rd_T77 l0_1 t306).f0.f2) ((rd_T77 l0_1 t306).f0.f3) a1_0 a1_1 a1_2 a1_3 t309 _ A21.out).mono ?_
     rintro e w30 ⟨rfl,hb⟩
     refine ⟨_,rfl,?_⟩
     have n0_:=AsZ.mk (Kd.R_below (by (with_reducible repeat (first|apply Kd.R_alloc|apply Kd.R_drewN|apply Kd.R_drew));exact HO_6.out) hb)
     have n1_:=AsZ.mk (kb (g:=gb301) (o := .cells #[.slice A0_0 l0_0.length c0_0,.slice (some ad308) l0_1.length c0_1] 26 (0,0)) (by (with_reducible repeat (first|refine kdN ?_ _|refine kd ?_|refine ka ?_ _));exact BK301.out) hb)
     have n2_:=AsZ.mk (kb (g:=gb302) (o := .cells #[.string a1_0,.int .i64 a1_1,.int .i64 a1_2,.string a1_3] 28 (0,0)) (by (with_reducible repeat (first|refine kdN ?_ _|refine kd ?_|refine ka ?_ _));exact BK302.out) hb)
     have n3_:=AsZ.mk (bwp (by repeat (first|(with_reducible first|exact HB.out|apply bwa|apply pbN|apply bw1|refine bws ?_ GE301.out|refine bws ?_ GE302.out)|exact HB.out)) hb)
     clear HO_6 BK301 BK302 HB
     have HO_6:=n0_
     have BK301:=n1_
     have BK302:=n2_
     have HB:=n3_
     clear n0_ n1_ n2_ n3_
     (try clear hb)
     (try clear hb2)
     (try clear hk)
     (try clear hi)
     refine hK.out _ _ ⟨(kc BK301.out 0).trans rfl,(kc BK301.out 1).trans rfl,(kc BK302.out 0).trans rfl,(kc BK302.out 1).trans rfl,(kc BK302.out 2).trans rfl,(kc BK302.out 3).trans rfl,((HB.out.cell (zB w _ hw308_0)).trans hw308_0),((HB.out.cell (zB w _ hw308_1)).trans hw308_1),((HB.out.cell (zB w _ hw308_2)).trans hw308_2),((HB.out.cell (zB w _ hw308_3)).trans hw308_3),((HB.out.cell (zB w _ hw308_4)).trans hw308_4)⟩ (fun hHeld=>?_)
     clear hK K
     refine norm_ (a':=?_) ?_ ?_
     rotate_left
     · show Act.put _ (some 31) _=_
       simp only [Act.put,zS,zT,zU,i64_w,i32_w]
       rfl
     refine pure_ (i:=8) (N:=some 32) (v:=?_) (a':=?_) (b_ 9 0) rfl rfl (anO HT_.out (by kernel_rfl)) (fun _ _ _ h=>h) (Or.inl ⟨by rfl,?_⟩) ?_ ?_
     rotate_left
     · intro w'
       go_simp
       with_reducible rfl
     rotate_left
     · simp only [Act.put,zS,zT,zU,i64_w,i32_w]
       rfl
     refine dn_ (dnO HT_.out (by kernel_rfl)) ?_
     have p25:0≤(x9_1:Int):=zD (by first|(with_reducible assumption)|assumption)
     have q25:(x9_1:Int) < ((x6_1.length:Int):Int):=zD (by first|(with_reducible assumption)|assumption)
     obtain ⟨go25,co25,eo25,gb25,gl25,cl25,HG25⟩:=Kd.R_form HO_6.out (by omega)
     (first|cases eo25|(injection eo25 with ea_ en_ ec_;(first|subst ea_|(injection ea_ with ea_;subst ea_));subst ec_;clear en_))
     have GB25:=AsZ.mk gb25
     have GG25:=AsZ.mk HG25
     clear gb25 gl25 HG25
     obtain ⟨hx25_0,hf25_0⟩:=Kd.R_celln 0 HO_6.out (x9_1:Int) p25 q25
     replace p25:=eq_true p25
     replace q25:=eq_true q25
     obtain ⟨hy31_,hz31_⟩:=Kd.R_celln 0 HO_6.out (x9_1:Int) (zD (by first|(with_reducible assumption)|assumption)) (zD (by first|(with_reducible assumption)|assumption))
     have HP31:=Kd.R_putg HO_6.out (x9_1:Int) x7_2
     try go_wp2_with (first|((with_reducible refine gate_store (t:=3) (p:=37) rfl ?_);refine store_event (t:=3) (p:=37) (v:=?vo_w32) (w1:=(w30.setCell ⟨go25,(x9_1:Int).toNat,none⟩ (.int .i64 x7_2))) ?hg ?ho ?hn ?hr ?_;(case ho=>rfl);(case hg=>rfl);(case hn=>rfl);(case hr=>first|(go_simp;done)|(go_simp;rfl));intro w32 hw;have hg:w30.grownBy w32 (some go25):=(by rw [hw];exact HP31.2);have hp_:Kd.R (Kd.int .i64) 3 w32 w.heap.size (fun _=>True) (.slice (some ⟨go25,0,none⟩) x6_1.length co25) y310:=(by rw [hw,Ny310.out];exact HP31.1);clear HP31;have n0_:=AsZ.mk (hp_);have n1_:=AsZ.mk (blk_grown (g:=gb301) (o := .cells #[.slice A0_0 l0_0.length c0_0,.slice (some ad308) l0_1.length c0_1] 26 (0,0)) (by (with_reducible repeat (first|refine kdN ?_ _|refine kd ?_|refine ka ?_ _));exact BK301.out) hg (Kd.R_ne HO_6.out BK301.out (by decide)));have n2_:=AsZ.mk (blk_grown (g:=gb302) (o := .cells #[.string a1_0,.int .i64 a1_1,.int .i64 a1_2,.string a1_3] 28 (0,0)) (by (with_reducible repeat (first|refine kdN ?_ _|refine kd ?_|refine ka ?_ _));exact BK302.out) hg (Kd.R_ne HO_6.out BK302.out (by decide)));have n3_:=AsZ.mk ((by rw [hw];exact bws (HB.out) GB25.out:Below w.heap.size w w32));clear HO_6;clear BK301;clear BK302;clear HB;have HO_6:=n0_;have BK301:=n1_;have BK302:=n2_;have HB:=n3_;clear n0_ n1_ n2_ n3_;clear hg hw hp_))
     go_roundg k2
     case measure=>have:=HK1.out;have:=HK2.out;omega
     case rel=>exact ⟨(y310),(x7_2),(wrap64 (x8_2 + 1)),(wrap64 (x9_1 - 1)),(by first|rfl|(simp;done)|(simp [*];done)),(by first|rfl|(simp;done)|(simp [*];done)),(by first|rfl|(simp;done)|(simp [*];done)),H',⟨by have:=HK1.out;have:=HK2.out;omega⟩,⟨by (with_reducible repeat (first|apply Kd.R_alloc|apply Kd.R_drewN|apply Kd.R_drew));exact HO_6.out⟩,⟨by (with_reducible repeat (first|refine kdN ?_ _|refine kd ?_|refine ka ?_ _));exact BK301.out⟩,⟨by (with_reducible repeat (first|refine kdN ?_ _|refine kd ?_|refine ka ?_ _));exact BK302.out⟩,⟨by repeat (first|(with_reducible first|exact HB.out|apply bwa|apply pbN|apply bw1|refine bws ?_ GE301.out|refine bws ?_ GE302.out)|exact HB.out)⟩⟩
/-! ### spec_l4First: function 46 -/
def spec_l4First.f (k:Nat) (l0_0:List Int) (l0_1:List (S77)) (a1_0:ByteArray) (a1_1:Int) (a1_2:Int) (a1_3:ByteArray):Option (Int × Int):=(spec_l4Before.f k l0_0 l0_1 a1_0 a1_1 a1_2 a1_3).bind fun bt313=>(if 0 < (bt313.1.length:Int) then ((spec_l4Next.f l0_0 l0_1 (rd bt313.1 0) 0).bind fun t318=>(some (t318,bt313.2))) else (none))
theorem spec_l4First.mono:∀ a0 a1 a2 a3 a4 a5 k,LeO (spec_l4First.f k a0 a1 a2 a3 a4 a5) (spec_l4First.f (k + 1) a0 a1 a2 a3 a4 a5):=by
  intro a0 a1 a2 a3 a4 a5 k
  unfold spec_l4First.f
  repeat' first
      |(with_reducible exact spec_l4Before.mono _ _ _ _ _ _ _)
      |(with_reducible exact LeO.refl _)
      |(with_reducible exact LeO.none _)
      |(with_reducible refine LeO.ite ?_ ?_)
      |(with_reducible refine LeO.bind ?_ (fun _=>?_))
      |exact spec_l4Before.mono _ _ _ _ _ _ _
      |exact LeO.none _
      |refine LeO.ite ?_ ?_
      |refine LeO.bind ?_ (fun _=>?_)
def spec_l4First.T2:Bool × List (List Nat × List Nat):=(true,[([],[]),([],[]),([1],[1]),([2],[2]),([0,3],[0,3]),([],[]),([4,4,0,1,2,3,4],[4]),([5,6,0,1,2,3,4,5,6],[5])])
def spec_l4First.B2:List Nat:=[0,0,2,6,15,0,31,127]
theorem spec_l4First.tab2:rtab .any (opsOf Tryd.f46 2)=spec_l4First.T2:=by kernel_rfl
theorem spec_l4First.bits2:waitsOk spec_l4First.T2.2 spec_l4First.B2=true:=by kernel_rfl
set_option maxHeartbeats 8000000 in
set_option maxRecDepth 100000 in
theorem spec_l4First.calls (k:Nat) (A0_0:Option Addr) (c0_0:Nat) (l0_0:List Int) (A0_1:Option Addr) (c0_1:Nat) (l0_1:List (S77)) (a1_0:ByteArray) (a1_1:Int) (a1_2:Int) (a1_3:ByteArray) (r1:Int) (r2:Int) (w:World) (hr0_0:Kd.C (Kd.int .i64) w A0_0 l0_0.length l0_0) (hc0_0:l0_0.length≤c0_0) (hr0_1:Kd.C k77 w A0_1 l0_1.length l0_1) (hc0_1:l0_1.length≤c0_1) (h:spec_l4First.f k l0_0 l0_1 a1_0 a1_1 a1_2 a1_3=some (r1,r2)) :
    Calls Tryd.prog 46 #[.agg #[.slice A0_0 l0_0.length c0_0,.slice A0_1 l0_1.length c0_1],.agg #[.string a1_0,.int .i64 a1_1,.int .i64 a1_2,.string a1_3]] w fun e w'=>e = .returned (.tuple #[.int .i64 r1,.int .i64 r2])∧Below w.heap.size w w':=by
 have hu26:=Tryd.underlying26
 have hu28:=Tryd.underlying28
 have HR0_0:=AsZ.mk hr0_0
 have HC0_0:=AsZ.mk hc0_0
 clear hr0_0 hc0_0
 have HR0_1:=AsZ.mk hr0_1
 have HC0_1:=AsZ.mk hc0_1
 clear hr0_1 hc0_1
 have HB:=AsZ.mk (Below.refl w.heap.size w)
 have H:((spec_l4Before.f k l0_0 l0_1 a1_0 a1_1 a1_2 a1_3).bind fun bt313=>(if 0 < (bt313.1.length:Int) then ((spec_l4Next.f l0_0 l0_1 (rd bt313.1 0) 0).bind fun t318=>(some (t318,bt313.2))) else (none)))=some (r1,r2):=h
 clear h
 replace H:=Option.bind_eq_some_iff.mp H
 obtain ⟨⟨t313,t316⟩,A30,H⟩:=H
 replace H:(if 0 < (t313.length:Int) then ((spec_l4Next.f l0_0 l0_1 (rd t313 0) 0).bind fun t318=>(some (t318,t316))) else (none))=some (r1,r2):=H
 have A3:=AsZ.mk A30
 clear A30
 by_cases c4:0 < (t313.length:Int)
 rotate_left
 · rw [if_neg c4] at H
   exact absurd H (by simp)
 rw [if_pos c4] at H
 have c4b0:decide (0 < (t313.length:Int))=true:=zE c4
 have c4b1:decide (0 < t313.length)=true:=zE (by omega)
 clear c4
 replace H:=Option.bind_eq_some_iff.mp H
 obtain ⟨t318,A50,H⟩:=H
 replace H:(some (t318,t316))=some (r1,r2):=H
 have A5:=AsZ.mk A50
 clear A50
 simp only [Option.some.injEq,Prod.mk.injEq] at H
 obtain ⟨rfl,rfl⟩:=H
 go_enter Tryd.func46,Tryd.ntmps46
 try go_wp2_with (first|((with_reducible refine gate_dst (N:=2) rfl ?_);refine box_event ?hg (N:=2) ?hd (cs:=#[.slice A0_0 l0_0.length c0_0,.slice A0_1 l0_1.length c0_1]) (t:=26) ?hr ?_;(case hd=>rfl);(case hg=>rfl);(case hr=>first|(go_simp;done)|(go_simp;rfl));intro gb311 hg w6 hbox hb;have n0_:=AsZ.mk (bwp (by repeat (first|(with_reducible first|exact HB.out|apply bwa|apply pbN|apply bw1)|exact HB.out)) hb);have n1_:=AsZ.mk (hbox);have n2_:=AsZ.mk ((by rw [hg];exact (bwz (by repeat (first|(with_reducible first|exact HB.out|apply bwa|apply pbN|apply bw1)|exact HB.out))):w.heap.size≤gb311));have n3_:=AsZ.mk ((by rw [hg];exact (bwz (by repeat (first|(with_reducible first|exact HB.out|apply bwa|apply pbN|apply bw1)|exact HB.out))):w.heap.size≤gb311));clear HB;have HB:=n0_;have BK311:=n1_;have GW311:=n2_;have GE311:=n3_;clear n0_ n1_ n2_ n3_;clear hb hbox hg)|((with_reducible refine gate_dst (N:=3) rfl ?_);refine box_event ?hg (N:=3) ?hd (cs:=#[.string a1_0,.int .i64 a1_1,.int .i64 a1_2,.string a1_3]) (t:=28) ?hr ?_;(case hd=>rfl);(case hg=>rfl);(case hr=>first|(go_simp;done)|(go_simp;rfl));intro gb312 hg w7 hbox hb;have n0_:=AsZ.mk (kb (g:=gb311) (o := .cells #[.slice A0_0 l0_0.length c0_0,.slice A0_1 l0_1.length c0_1] 26 (0,0)) (by (with_reducible repeat (first|refine kdN ?_ _|refine kd ?_|refine ka ?_ _));exact BK311.out) hb);have n1_:=AsZ.mk (bwp (by repeat (first|(with_reducible first|exact HB.out|apply bwa|apply pbN|apply bw1|refine bws ?_ GE311.out)|exact HB.out)) hb);have n2_:=AsZ.mk (hbox);have n3_:=AsZ.mk ((by rw [hg];exact (bwz (by repeat (first|(with_reducible first|exact HB.out|apply bwa|apply pbN|apply bw1|refine bws ?_ GE311.out)|exact HB.out))):w.heap.size≤gb312));have n4_:=AsZ.mk ((by rw [hg];exact (bwz (by repeat (first|(with_reducible first|exact HB.out|apply bwa|apply pbN|apply bw1|refine bws ?_ GE311.out)|exact HB.out))):w.heap.size≤gb312));have n5_:=AsZ.mk ((by rw [hg];exact Nat.ne_of_lt (blk_lt (g:=gb311) (o := .cells #[.slice A0_0 l0_0.length c0_0,.slice A0_1 l0_1.length c0_1] 26 (0,0)) (by (with_reducible repeat (first|refine kdN ?_ _|refine kd ?_|refine ka ?_ _));exact BK311.out)):gb311 ≠ gb312));have n6_:=AsZ.mk ((by rw [hg];exact Nat.ne_of_gt (blk_lt (g:=gb311) (o := .cells #[.slice A0_0 l0_0.length c0_0,.slice A0_1 l0_1.length c0_1] 26 (0,0)) (by (with_reducible repeat (first|refine kdN ?_ _|refine kd ?_|refine ka ?_ _));exact BK311.out)):gb312 ≠ gb311));clear BK311;clear HB;have BK311:=n0_;have HB:=n1_;have BK312:=n2_;have GW312:=n3_;have GE312:=n4_;have NB311_312:=n5_;have NB312_311:=n6_;clear n0_ n1_ n2_ n3_ n4_ n5_ n6_;clear hb hbox hg;have hnb8:=NB311_312.out;have hnc8:=NB312_311.out;have hcz9_0:w7.cell? ⟨gb311,0,none⟩=some (.slice A0_0 l0_0.length c0_0):=(kc BK311.out 0).trans rfl;have hcz9_1:w7.cell? ⟨gb311,1,none⟩=some (.slice A0_1 l0_1.length c0_1):=(kc BK311.out 1).trans rfl;have hfz9_0:=kf BK311.out 0;have hfz9_1:=kf BK311.out 1;have hcz10_0:w7.cell? ⟨gb312,0,none⟩=some (.string a1_0):=(kc BK312.out 0).trans rfl;have hcz10_1:w7.cell? ⟨gb312,1,none⟩=some (.int .i64 a1_1):=(kc BK312.out 1).trans rfl;have hcz10_2:w7.cell? ⟨gb312,2,none⟩=some (.int .i64 a1_2):=(kc BK312.out 2).trans rfl;have hcz10_3:w7.cell? ⟨gb312,3,none⟩=some (.string a1_3):=(kc BK312.out 3).trans rfl;have hfz10_0:=kf BK312.out 0;have hfz10_1:=kf BK312.out 1;have hfz10_2:=kf BK312.out 2;have hfz10_3:=kf BK312.out 3)|((with_reducible refine gcl (f:=87) rfl ?_);refine goesL_ (some 11) rfl rfl Tryd.func87 (by kernel_rfl) rfl #[.agg #[.slice A0_0 l0_0.length c0_0,.slice A0_1 l0_1.length c0_1],.agg #[.string a1_0,.int .i64 a1_1,.int .i64 a1_2,.string a1_3]] rfl (by (try simp only [zA,zC,zN]);first|done|rfl|(simp only [zM,zL];rfl)) ?_;(with_reducible refine (spec_l4Before.calls k _ _ l0_0 _ _ l0_1 a1_0 a1_1 a1_2 a1_3 t313 t316 _ ?side1 ?side2 ?side3 ?side4 A3.out).mono ?_);(case side1=>repeat (first|exact (Kd.C_below HR0_0.out HB.out)|(with_reducible refine Kd.C_alloc ?_ _)|(with_reducible refine Kd.C_drewN ?_ _)|(with_reducible refine Kd.C_drew ?_)));(case side2=>exact HC0_0.out);(case side3=>repeat (first|exact (Kd.C_below HR0_1.out HB.out)|(with_reducible refine Kd.C_alloc ?_ _)|(with_reducible refine Kd.C_drewN ?_ _)|(with_reducible refine Kd.C_drew ?_)));(case side4=>exact HC0_1.out);rintro e w11 ⟨v314,rfl,ho0,hb⟩;refine ⟨_,rfl,?_⟩;have n0_:=AsZ.mk (Kd.R_lower ho0 (bwz (by repeat (first|(with_reducible first|exact HB.out|apply bwa|apply pbN|apply bw1|refine bws ?_ GE311.out|refine bws ?_ GE312.out)|exact HB.out))));have n1_:=AsZ.mk (kb (g:=gb311) (o := .cells #[.slice A0_0 l0_0.length c0_0,.slice A0_1 l0_1.length c0_1] 26 (0,0)) (by (with_reducible repeat (first|refine kdN ?_ _|refine kd ?_|refine ka ?_ _));exact BK311.out) hb);have n2_:=AsZ.mk (kb (g:=gb312) (o := .cells #[.string a1_0,.int .i64 a1_1,.int .i64 a1_2,.string a1_3] 28 (0,0)) (by (with_reducible repeat (first|refine kdN ?_ _|refine kd ?_|refine ka ?_ _));exact BK312.out) hb);have n3_:=AsZ.mk (bwp (by repeat (first|(with_reducible first|exact HB.out|apply bwa|apply pbN|apply bw1|refine bws ?_ GE311.out|refine bws ?_ GE312.out)|exact HB.out)) hb);clear BK311;clear BK312;clear HB;have HO315:=n0_;have BK311:=n1_;have BK312:=n2_;have HB:=n3_;clear n0_ n1_ n2_ n3_;(try clear hb);(try clear hb2);(try clear hk);(try clear hi);(try clear ho0)))
 have n0_:=AsZ.mk (Kd.R_drew HO315.out)
 have n1_:=AsZ.mk (kd BK311.out)
 have n2_:=AsZ.mk (kd BK312.out)
 have n3_:=AsZ.mk (bw1 HB.out)
 clear HO315 BK311 BK312 HB
 have HO315:=n0_
 have BK311:=n1_
 have BK312:=n2_
 have HB:=n3_
 clear n0_ n1_ n2_ n3_
 obtain ⟨Ao13,co13,eo13⟩:=Kd.R_slice HO315.out
 (first|subst eo13|(injection eo13 with f1_ f2_ f3_;have f4_:=f1_.symm;have f5_:=f3_.symm;clear f1_ f2_ f3_;subst f4_;subst f5_))
 have p317:0≤(0:Int):=(by omega)
 have q317:0 < (t313.length:Int):=zD (by first|(with_reducible assumption)|assumption)
 obtain ⟨ad317,e317,hx317_0⟩:=Kd.at_int (Kd.R_reads' HO315.out).2.2 0 p317 q317
 cases e317
 have qi317:(0 < t313.length)=True:=eq_true (by omega)
 (try rw [show ((0:Int)).toNat=0 from rfl] at hx317_0)
 (try rw [Addr.add_zero'] at hx317_0)
 replace p317:=eq_true p317
 replace q317:=eq_true q317
 refine start_ (n:=8) (S:=fun w'=>w'.cell? ⟨gb311,0,none⟩=some (.slice A0_0 l0_0.length c0_0)∧w'.cell? ⟨gb311,1,none⟩=some (.slice A0_1 l0_1.length c0_1)∧w'.cell? ad317=some (.int .i64 (rd t313 0))) (ds:=[]) (b_ 0 8) (by kernel_rfl) rfl rfl ⟨(kc BK311.out 0).trans rfl,(kc BK311.out 1).trans rfl,hx317_0⟩ (fun hHeld=>?_);refine with_tabW spec_l4First.tab2 spec_l4First.bits2 (fun HT_ HW_=>?_)
 generalize w11.drew=w12 at HO315 BK311 BK312 HB hx317_0 hHeld ⊢
 refine pure_ (i:=1) (N:=some 15) (v:=?_) (a':=?_) #[false,true,false,false,false,false,false,false] rfl rfl (anO HT_.out (by kernel_rfl)) (fun _ _ _ h=>h) (Or.inl ⟨by rfl,?_⟩) ?_ ?_
 rotate_left
 · intro w'
   go_simp
   with_reducible rfl
 rotate_left
 · simp only [Act.put,zS,zT,zU,i64_w,i32_w]
   rfl
 refine pure_ (i:=2) (N:=some 16) (v:=?_) (a':=?_) #[false,true,true,false,false,false,false,false] rfl rfl (anO HT_.out (by kernel_rfl)) (fun _ _ _ h=>h) (Or.inl ⟨by rfl,?_⟩) ?_ ?_
 rotate_left
 · intro w'
   go_simp
   with_reducible rfl
 rotate_left
 · simp only [Act.put,zS,zT,zU,i64_w,i32_w]
   rfl
 refine pure_ (i:=5) (N:=some 19) (v:=?_) (a':=?_) #[false,true,true,false,false,true,false,false] rfl rfl (anO HT_.out (by kernel_rfl)) (fun _ _ _ h=>h) (Or.inl ⟨by rfl,?_⟩) ?_ ?_
 rotate_left
 · intro w'
   go_simp
   with_reducible rfl
 rotate_left
 · simp only [Act.put,zS,zT,zU,i64_w,i32_w]
   rfl
 refine take_ (i:=0) (N:=some 14) (v:=?_) (a':=?_) #[true,true,true,false,false,true,false,false] rfl rfl (tkO HT_.out HW_.out (by kernel_rfl)) (fun _ _ _ h=>h) (Or.inl ⟨by rfl,?_⟩) hHeld ?_ ?_
 rotate_left
 · rintro w' ⟨s0,s1,s2⟩
   go_simp
   with_reducible rfl
 rotate_left
 · simp only [Act.put,zS,zT,zU,i64_w,i32_w]
   rfl
 refine take_ (i:=3) (N:=some 17) (v:=?_) (a':=?_) #[true,true,true,true,false,true,false,false] rfl rfl (tkO HT_.out HW_.out (by kernel_rfl)) (fun _ _ _ h=>h) (Or.inl ⟨by rfl,?_⟩) hHeld ?_ ?_
 rotate_left
 · rintro w' ⟨s0,s1,s2⟩
   go_simp
   with_reducible rfl
 rotate_left
 · simp only [Act.put,zS,zT,zU,i64_w,i32_w]
   rfl
 refine one_ (i:=4) (N:=some 18) (b_ 6 2) rfl rfl (one_of HT_.out (by kernel_rfl)) (by decide) (fun K hK=>?_)
 refine goes_ Tryd.func72 (by kernel_rfl) rfl #[.agg #[.slice A0_0 l0_0.length c0_0,.slice A0_1 l0_1.length c0_1],.int .i64 (rd t313 0),.int .i64 0] (by rfl) rfl rfl (by (try simp only [zA,zC,zN]);first|done|rfl|(simp only [zM,zL];rfl)) ?_
 with_reducible refine (spec_l4Next.calls _ _ l0_0 _ _ l0_1 (rd t313 0) 0 t318 _ ?side1 ?side2 ?side3 ?side4 A5.out).mono ?_
 (case side1=>repeat (first|exact (Kd.C_below HR0_0.out HB.out)|(with_reducible refine Kd.C_alloc ?_ _)|(with_reducible refine Kd.C_drewN ?_ _)|(with_reducible refine Kd.C_drew ?_)))
 (case side2=>exact HC0_0.out)
 (case side3=>repeat (first|exact (Kd.C_below HR0_1.out HB.out)|(with_reducible refine Kd.C_alloc ?_ _)|(with_reducible refine Kd.C_drewN ?_ _)|(with_reducible refine Kd.C_drew ?_)))
 (case side4=>exact HC0_1.out)
 rintro e w14 ⟨rfl,hb⟩
 have HS2_:=(hb.cell (zB _ _ (hHeld.2.2))).trans (hHeld.2.2)
 refine ⟨_,rfl,?_⟩
 have n0_:=AsZ.mk (Kd.R_below (by (with_reducible repeat (first|apply Kd.R_alloc|apply Kd.R_drewN|apply Kd.R_drew));exact HO315.out) hb)
 have n1_:=AsZ.mk (kb (g:=gb311) (o := .cells #[.slice A0_0 l0_0.length c0_0,.slice A0_1 l0_1.length c0_1] 26 (0,0)) (by (with_reducible repeat (first|refine kdN ?_ _|refine kd ?_|refine ka ?_ _));exact BK311.out) hb)
 have n2_:=AsZ.mk (kb (g:=gb312) (o := .cells #[.string a1_0,.int .i64 a1_1,.int .i64 a1_2,.string a1_3] 28 (0,0)) (by (with_reducible repeat (first|refine kdN ?_ _|refine kd ?_|refine ka ?_ _));exact BK312.out) hb)
 have n3_:=AsZ.mk (bwp (by repeat (first|(with_reducible first|exact HB.out|apply bwa|apply pbN|apply bw1|refine bws ?_ GE311.out|refine bws ?_ GE312.out)|exact HB.out)) hb)
 clear HO315 BK311 BK312 HB
 have HO315:=n0_
 have BK311:=n1_
 have BK312:=n2_
 have HB:=n3_
 clear n0_ n1_ n2_ n3_
 (try clear hb)
 (try clear hb2)
 (try clear hk)
 (try clear hi)
 refine hK.out _ _ ⟨(kc BK311.out 0).trans rfl,(kc BK311.out 1).trans rfl,HS2_⟩ (fun hHeld=>?_)
 clear hK K
 refine norm_ (a':=?_) ?_ ?_
 rotate_left
 · show Act.put _ (some 18) _=_
   simp only [Act.put,zS,zT,zU,i64_w,i32_w]
   rfl
 refine pure_ (i:=6) (N:=some 4) (v:=?_) (a':=?_) (b_ 7 1) rfl rfl (anO HT_.out (by kernel_rfl)) (fun _ _ _ h=>h) (Or.inl ⟨by rfl,?_⟩) ?_ ?_
 rotate_left
 · intro w'
   go_simp
   with_reducible rfl
 rotate_left
 · simp only [Act.put,zS,zT,zU,i64_w,i32_w]
   rfl
 refine pure_ (i:=7) (N:=some 5) (v:=?_) (a':=?_) (b_ 8 0) rfl rfl (anO HT_.out (by kernel_rfl)) (fun _ _ _ h=>h) (Or.inl ⟨by rfl,?_⟩) ?_ ?_
 rotate_left
 · intro w'
   go_simp
   with_reducible rfl
 rotate_left
 · simp only [Act.put,zS,zT,zU,i64_w,i32_w]
   rfl
 refine dn_ (dnO HT_.out (by kernel_rfl)) ?_
 try go_wp2
 go_ret2
 exact ⟨by first|rfl|(simp [errW_none,errW_some]<;>rfl)|(simp [*,errW_none,errW_some]<;>rfl),by repeat (first|(with_reducible first|exact HB.out|apply bwa|apply pbN|apply bw1|refine bws ?_ GE311.out|refine bws ?_ GE312.out)|exact HB.out)⟩
end Go.Proofs.YtffjlpphcjfdgaaDoor.MFnExactFindSkip
