-- Written by a program of this session out of the translation. Not trusted: Lean checks it.
import Derived.Test.YtffjlpphcjfdgaaDoorMFnExactFindSkipx0
import Derived.Test.YtffjlpphcjfdgaaDoorMFnExactFindSkipx7
namespace Go.Proofs.YtffjlpphcjfdgaaDoor.MFnExactFindSkip
-- short
-- shrunk
-- TAB
-- RD
open Go.Proofs.YtffjlpphcjfdgaaDoor Go.RowKit Go.Proofs.YtffjlpphcjfdgaaDoorW.PrintWords Go.Proofs.YtffjlpphcjfdgaaDoorW.PrintLast Go.Proofs.YtffjlpphcjfdgaaDoorW.PrintMore Go.Proofs.YtffjlpphcjfdgaaDoorX
attribute [local go_sem] max2_int min2_int max_two min_two max_three min_three max_four min_four str_gtr str_leq str_geq cell_twice
set_option linter.unusedVariables false
set_option linter.unusedSimpArgs false
/-! ### impl_FindSkip: function 35 -/
def impl_FindSkip.j0:Nat→Bool→ByteArray→Int→Int→ByteArray→Option (ByteArray × Int × Int × ByteArray × Bool)
  |0,_,_,_,_,_=>none
  |k + 1,x26,x244000,x244001,x244002,x244003=>if x26=true then (some ((⟨#[]⟩:ByteArray),0,0,(⟨#[]⟩:ByteArray),false)) else (some (x244000,x244001,x244002,x244003,true))
def impl_FindSkip.f (k:Nat) (l0_0:List Int) (l0_1:List (S77)) (a1:ByteArray) (a2:Int):Option (ByteArray × Int × Int × ByteArray × Bool):=(impl_SeekSkip.f k l0_0 l0_1 a1 a2).bind fun bt237=>(if bt237.2.2.2.2.2=true then (impl_FindSkip.j0 k (bt237.1.toList != a1.toList) bt237.1 bt237.2.1 bt237.2.2.1 bt237.2.2.2.1) else (impl_FindSkip.j0 k true bt237.1 bt237.2.1 bt237.2.2.1 bt237.2.2.2.1))
theorem impl_FindSkip.mono_l:∀ k,(∀ y0 y1 y2 y3 y4,LeO (impl_FindSkip.j0 k y0 y1 y2 y3 y4) (impl_FindSkip.j0 (k + 1) y0 y1 y2 y3 y4))
  |0=>fun _ _ _ _ _ r h=>by simp [impl_FindSkip.j0] at h
  |k + 1=>by
    have ih0:=impl_FindSkip.mono_l k
    · intro y0 y1 y2 y3 y4
      unfold impl_FindSkip.j0
      repeat' first
      |(with_reducible exact ih0 _ _ _ _ _)
      |(with_reducible exact impl_SeekSkip.mono _ _ _ _ _)
      |(with_reducible exact LeO.refl _)
      |(with_reducible exact LeO.none _)
      |(with_reducible refine LeO.ite ?_ ?_)
      |(with_reducible refine LeO.bind ?_ (fun _=>?_))
      |exact ih0 _ _ _ _ _
      |exact impl_SeekSkip.mono _ _ _ _ _
      |exact LeO.none _
      |refine LeO.ite ?_ ?_
      |refine LeO.bind ?_ (fun _=>?_)
theorem impl_FindSkip.mono:∀ a0 a1 a2 a3 k,LeO (impl_FindSkip.f k a0 a1 a2 a3) (impl_FindSkip.f (k + 1) a0 a1 a2 a3):=by
  intro a0 a1 a2 a3 k
  have ih0:=impl_FindSkip.mono_l k
  unfold impl_FindSkip.f
  repeat' first
      |(with_reducible exact ih0 _ _ _ _ _)
      |(with_reducible exact impl_SeekSkip.mono _ _ _ _ _)
      |(with_reducible exact LeO.refl _)
      |(with_reducible exact LeO.none _)
      |(with_reducible refine LeO.ite ?_ ?_)
      |(with_reducible refine LeO.bind ?_ (fun _=>?_))
      |exact ih0 _ _ _ _ _
      |exact impl_SeekSkip.mono _ _ _ _ _
      |exact LeO.none _
      |refine LeO.ite ?_ ?_
      |refine LeO.bind ?_ (fun _=>?_)
set_option maxHeartbeats 8000000 in
set_option maxRecDepth 100000 in
theorem impl_FindSkip.calls (k:Nat) (A0_0:Option Addr) (c0_0:Nat) (l0_0:List Int) (A0_1:Option Addr) (c0_1:Nat) (l0_1:List (S77)) (a1:ByteArray) (a2:Int) (r1:ByteArray) (r2:Int) (r3:Int) (r4:ByteArray) (r5:Bool) (w:World) (hr0_0:Kd.C (Kd.int .i64) w A0_0 l0_0.length l0_0) (hc0_0:l0_0.length≤c0_0) (hr0_1:Kd.C k77 w A0_1 l0_1.length l0_1) (hc0_1:l0_1.length≤c0_1) (hT:Tab w) (h:impl_FindSkip.f k l0_0 l0_1 a1 a2=some (r1,r2,r3,r4,r5)) :
    Calls Tryd.prog 35 #[.agg #[.slice A0_0 l0_0.length c0_0,.slice A0_1 l0_1.length c0_1],.string a1,.int .i64 a2] w fun e w'=>e = .returned (.tuple #[.agg #[.string r1,.int .i64 r2,.int .i64 r3,.string r4],.bool r5])∧Below w.heap.size w w':=by
 have HT:=AsZ.mk hT
 clear hT
 have hu26:=Tryd.underlying26
 have hu28:=Tryd.underlying28
 have HR0_0:=AsZ.mk hr0_0
 have HC0_0:=AsZ.mk hc0_0
 clear hr0_0 hc0_0
 have HR0_1:=AsZ.mk hr0_1
 have HC0_1:=AsZ.mk hc0_1
 clear hr0_1 hc0_1
 have HB:=AsZ.mk (Below.refl w.heap.size w)
 have H:((impl_SeekSkip.f k l0_0 l0_1 a1 a2).bind fun bt237=>(if bt237.2.2.2.2.2=true then (impl_FindSkip.j0 k (bt237.1.toList != a1.toList) bt237.1 bt237.2.1 bt237.2.2.1 bt237.2.2.2.1) else (impl_FindSkip.j0 k true bt237.1 bt237.2.1 bt237.2.2.1 bt237.2.2.2.1)))=some (r1,r2,r3,r4,r5):=h
 clear h
 replace H:=Option.bind_eq_some_iff.mp H
 obtain ⟨⟨t237,t238,t239,t240,t241,t242⟩,A40,H⟩:=H
 replace H:(if t242=true then (impl_FindSkip.j0 k (t237.toList != a1.toList) t237 t238 t239 t240) else (impl_FindSkip.j0 k true t237 t238 t239 t240))=some (r1,r2,r3,r4,r5):=H
 have A4:=AsZ.mk A40
 clear A40
 have HC5:=AsZ.mk H
 clear H
 go_enter Tryd.func35,Tryd.ntmps35
 go_upto_region 2 with (first|((with_reducible refine gate_dst (N:=3) rfl ?_);refine box_event ?hg (N:=3) ?hd (cs:=#[.slice A0_0 l0_0.length c0_0,.slice A0_1 l0_1.length c0_1]) (t:=26) ?hr ?_;(case hd=>rfl);(case hg=>rfl);(case hr=>first|(go_simp;done)|(go_simp;rfl));intro gb235 hg w6 hbox hb;have n0_:=AsZ.mk (bwp (by repeat (first|(with_reducible first|exact HB.out|apply bwa|apply pbN|apply bw1)|exact HB.out)) hb);have n1_:=AsZ.mk (hbox);have n2_:=AsZ.mk ((by rw [hg];exact (bwz (by repeat (first|(with_reducible first|exact HB.out|apply bwa|apply pbN|apply bw1)|exact HB.out))):w.heap.size≤gb235));have n3_:=AsZ.mk ((by rw [hg];exact (bwz (by repeat (first|(with_reducible first|exact HB.out|apply bwa|apply pbN|apply bw1)|exact HB.out))):w.heap.size≤gb235));clear HB;have HB:=n0_;have BK235:=n1_;have GW235:=n2_;have GE235:=n3_;clear n0_ n1_ n2_ n3_;clear hb hbox hg)|((with_reducible refine gate_dst (N:=6) rfl ?_);refine box_event ?hg (N:=6) ?hd (cs:=#[.string (⟨#[]⟩:ByteArray),.int .i64 0,.int .i64 0,.string (⟨#[]⟩:ByteArray)]) (t:=28) ?hr ?_;(case hd=>rfl);(case hg=>rfl);(case hr=>first|(go_simp;done)|(go_simp;rfl));intro gb236 hg w7 hbox hb;have n0_:=AsZ.mk (kb (g:=gb235) (o := .cells #[.slice A0_0 l0_0.length c0_0,.slice A0_1 l0_1.length c0_1] 26 (0,0)) (by (with_reducible repeat (first|refine kdN ?_ _|refine kd ?_|refine ka ?_ _));exact BK235.out) hb);have n1_:=AsZ.mk (bwp (by repeat (first|(with_reducible first|exact HB.out|apply bwa|apply pbN|apply bw1|refine bws ?_ GE235.out)|exact HB.out)) hb);have n2_:=AsZ.mk (hbox);have n3_:=AsZ.mk ((by rw [hg];exact (bwz (by repeat (first|(with_reducible first|exact HB.out|apply bwa|apply pbN|apply bw1|refine bws ?_ GE235.out)|exact HB.out))):w.heap.size≤gb236));have n4_:=AsZ.mk ((by rw [hg];exact (bwz (by repeat (first|(with_reducible first|exact HB.out|apply bwa|apply pbN|apply bw1|refine bws ?_ GE235.out)|exact HB.out))):w.heap.size≤gb236));have n5_:=AsZ.mk ((by rw [hg];exact Nat.ne_of_lt (blk_lt (g:=gb235) (o := .cells #[.slice A0_0 l0_0.length c0_0,.slice A0_1 l0_1.length c0_1] 26 (0,0)) (by (with_reducible repeat (first|refine kdN ?_ _|refine kd ?_|refine ka ?_ _));exact BK235.out)):gb235 ≠ gb236));have n6_:=AsZ.mk ((by rw [hg];exact Nat.ne_of_gt (blk_lt (g:=gb235) (o := .cells #[.slice A0_0 l0_0.length c0_0,.slice A0_1 l0_1.length c0_1] 26 (0,0)) (by (with_reducible repeat (first|refine kdN ?_ _|refine kd ?_|refine ka ?_ _));exact BK235.out)):gb236 ≠ gb235));clear BK235;clear HB;have BK235:=n0_;have HB:=n1_;have BK236:=n2_;have GW236:=n3_;have GE236:=n4_;have NB235_236:=n5_;have NB236_235:=n6_;clear n0_ n1_ n2_ n3_ n4_ n5_ n6_;clear hb hbox hg;have hnb8:=NB235_236.out;have hnc8:=NB236_235.out;have hcz9_0:w7.cell? ⟨gb235,0,none⟩=some (.slice A0_0 l0_0.length c0_0):=(kc BK235.out 0).trans rfl;have hcz9_1:w7.cell? ⟨gb235,1,none⟩=some (.slice A0_1 l0_1.length c0_1):=(kc BK235.out 1).trans rfl;have hfz9_0:=kf BK235.out 0;have hfz9_1:=kf BK235.out 1)|((with_reducible refine gcl (f:=32) rfl ?_);refine goesL_ (some 15) rfl rfl Tryd.func32 (by kernel_rfl) rfl #[.agg #[.slice A0_0 l0_0.length c0_0,.slice A0_1 l0_1.length c0_1],.string a1,.int .i64 a2] rfl (by (try simp only [zA,zC,zN]);first|done|rfl|(simp only [zM,zL];rfl)) ?_;(with_reducible refine (impl_SeekSkip.calls k _ _ l0_0 _ _ l0_1 a1 a2 t237 t238 t239 t240 t241 t242 _ ?side1 ?side2 ?side3 ?side4 ?sideT A4.out).mono ?_);(case sideT=>exact tab_below HT.out (by repeat (first|(with_reducible first|exact HB.out|apply bwa|apply pbN|apply bw1|refine bws ?_ (AsZ.out (by assumption)))|exact HB.out)));(case side1=>repeat (first|exact (Kd.C_below HR0_0.out HB.out)|(with_reducible refine Kd.C_alloc ?_ _)|(with_reducible refine Kd.C_drewN ?_ _)|(with_reducible refine Kd.C_drew ?_)));(case side2=>exact HC0_0.out);(case side3=>repeat (first|exact (Kd.C_below HR0_1.out HB.out)|(with_reducible refine Kd.C_alloc ?_ _)|(with_reducible refine Kd.C_drewN ?_ _)|(with_reducible refine Kd.C_drew ?_)));(case side4=>exact HC0_1.out);rintro e w10 ⟨rfl,hb⟩;refine ⟨_,rfl,?_⟩;have n0_:=AsZ.mk (kb (g:=gb235) (o := .cells #[.slice A0_0 l0_0.length c0_0,.slice A0_1 l0_1.length c0_1] 26 (0,0)) (by (with_reducible repeat (first|refine kdN ?_ _|refine kd ?_|refine ka ?_ _));exact BK235.out) hb);have n1_:=AsZ.mk (kb (g:=gb236) (o := .cells #[.string (⟨#[]⟩:ByteArray),.int .i64 0,.int .i64 0,.string (⟨#[]⟩:ByteArray)] 28 (0,0)) (by (with_reducible repeat (first|refine kdN ?_ _|refine kd ?_|refine ka ?_ _));exact BK236.out) hb);have n2_:=AsZ.mk (bwp (by repeat (first|(with_reducible first|exact HB.out|apply bwa|apply pbN|apply bw1|refine bws ?_ GE235.out|refine bws ?_ GE236.out)|exact HB.out)) hb);clear BK235;clear BK236;clear HB;have BK235:=n0_;have BK236:=n1_;have HB:=n2_;clear n0_ n1_ n2_;(try clear hb);(try clear hb2);(try clear hk);(try clear hi))|((with_reducible refine gate_dst (N:=8) rfl ?_);refine box_event ?hg (N:=8) ?hd (cs:=#[.string (⟨#[]⟩:ByteArray),.int .i64 0,.int .i64 0,.string (⟨#[]⟩:ByteArray)]) (t:=28) ?hr ?_;(case hd=>rfl);(case hg=>rfl);(case hr=>first|(go_simp;done)|(go_simp;rfl));intro gb243 hg w11 hbox hb;have n0_:=AsZ.mk (kb (g:=gb235) (o := .cells #[.slice A0_0 l0_0.length c0_0,.slice A0_1 l0_1.length c0_1] 26 (0,0)) (by (with_reducible repeat (first|refine kdN ?_ _|refine kd ?_|refine ka ?_ _));exact BK235.out) hb);have n1_:=AsZ.mk (kb (g:=gb236) (o := .cells #[.string (⟨#[]⟩:ByteArray),.int .i64 0,.int .i64 0,.string (⟨#[]⟩:ByteArray)] 28 (0,0)) (by (with_reducible repeat (first|refine kdN ?_ _|refine kd ?_|refine ka ?_ _));exact BK236.out) hb);have n2_:=AsZ.mk (bwp (by repeat (first|(with_reducible first|exact HB.out|apply bwa|apply pbN|apply bw1|refine bws ?_ GE235.out|refine bws ?_ GE236.out)|exact HB.out)) hb);have n3_:=AsZ.mk (hbox);have n4_:=AsZ.mk ((by rw [hg];exact (bwz (by repeat (first|(with_reducible first|exact HB.out|apply bwa|apply pbN|apply bw1|refine bws ?_ GE235.out|refine bws ?_ GE236.out)|exact HB.out))):w.heap.size≤gb243));have n5_:=AsZ.mk ((by rw [hg];exact (bwz (by repeat (first|(with_reducible first|exact HB.out|apply bwa|apply pbN|apply bw1|refine bws ?_ GE235.out|refine bws ?_ GE236.out)|exact HB.out))):w.heap.size≤gb243));have n6_:=AsZ.mk ((by rw [hg];exact Nat.ne_of_lt (blk_lt (g:=gb235) (o := .cells #[.slice A0_0 l0_0.length c0_0,.slice A0_1 l0_1.length c0_1] 26 (0,0)) (by (with_reducible repeat (first|refine kdN ?_ _|refine kd ?_|refine ka ?_ _));exact BK235.out)):gb235 ≠ gb243));have n7_:=AsZ.mk ((by rw [hg];exact Nat.ne_of_gt (blk_lt (g:=gb235) (o := .cells #[.slice A0_0 l0_0.length c0_0,.slice A0_1 l0_1.length c0_1] 26 (0,0)) (by (with_reducible repeat (first|refine kdN ?_ _|refine kd ?_|refine ka ?_ _));exact BK235.out)):gb243 ≠ gb235));have n8_:=AsZ.mk ((by rw [hg];exact Nat.ne_of_lt (blk_lt (g:=gb236) (o := .cells #[.string (⟨#[]⟩:ByteArray),.int .i64 0,.int .i64 0,.string (⟨#[]⟩:ByteArray)] 28 (0,0)) (by (with_reducible repeat (first|refine kdN ?_ _|refine kd ?_|refine ka ?_ _));exact BK236.out)):gb236 ≠ gb243));have n9_:=AsZ.mk ((by rw [hg];exact Nat.ne_of_gt (blk_lt (g:=gb236) (o := .cells #[.string (⟨#[]⟩:ByteArray),.int .i64 0,.int .i64 0,.string (⟨#[]⟩:ByteArray)] 28 (0,0)) (by (with_reducible repeat (first|refine kdN ?_ _|refine kd ?_|refine ka ?_ _));exact BK236.out)):gb243 ≠ gb236));clear BK235;clear BK236;clear HB;have BK235:=n0_;have BK236:=n1_;have HB:=n2_;have BK243:=n3_;have GW243:=n4_;have GE243:=n5_;have NB235_243:=n6_;have NB243_235:=n7_;have NB236_243:=n8_;have NB243_236:=n9_;clear n0_ n1_ n2_ n3_ n4_ n5_ n6_ n7_ n8_ n9_;clear hb hbox hg;have hnb12:=NB243_235.out;have hnc12:=NB235_243.out;have hnb13:=NB243_236.out;have hnc13:=NB236_243.out;have hcz14_0:w11.cell? ⟨gb243,0,none⟩=some (.string (⟨#[]⟩:ByteArray)):=(kc BK243.out 0).trans rfl;have hcz14_1:w11.cell? ⟨gb243,1,none⟩=some (.int .i64 0):=(kc BK243.out 1).trans rfl;have hcz14_2:w11.cell? ⟨gb243,2,none⟩=some (.int .i64 0):=(kc BK243.out 2).trans rfl;have hcz14_3:w11.cell? ⟨gb243,3,none⟩=some (.string (⟨#[]⟩:ByteArray)):=(kc BK243.out 3).trans rfl;have hfz14_0:=kf BK243.out 0;have hfz14_1:=kf BK243.out 1;have hfz14_2:=kf BK243.out 2;have hfz14_3:=kf BK243.out 3))
 (try simp only [Act.put,zS,zT,zU])
 go_cut [26] (fun v26 wc => ∃ (kq:Nat) (x26_4:Bool),v26 = .bool x26_4∧AsZ (impl_FindSkip.j0 kq x26_4 t237 t238 t239 t240=some (r1,r2,r3,r4,r5))∧AsZ (kq≤k)∧AsZ (wc.heap[gb235]? = some (.cells #[(.slice A0_0 l0_0.length c0_0),(.slice A0_1 l0_1.length c0_1)] 26 (0,0)))∧AsZ (wc.heap[gb236]? = some (.cells #[.string (⟨#[]⟩:ByteArray),.int .i64 0,.int .i64 0,.string (⟨#[]⟩:ByteArray)] 28 (0,0)))∧AsZ (wc.heap[gb243]? = some (.cells #[.string t237,.int .i64 t238,.int .i64 t239,.string t240] 28 (0,0)))∧AsZ (Below w.heap.size w wc))
 case first =>
  have H:=HC5.out
  clear HC5
  by_cases c15:t242=true
  rotate_left
  · replace c15:=Bool.eq_false_iff.mpr c15
    subst c15
    have H1:(impl_FindSkip.j0 k true t237 t238 t239 t240)=some (r1,r2,r3,r4,r5):=by rw [if_neg (show ¬ (false=true) by decide)] at H;exact H
    clear H
    have H:=H1
    clear H1
    have H':=AsZ.mk H
    clear H
    go_wp2
    go_meet
    case rel=>exact ⟨_,(true),(by first|rfl|(simp;done)|(simp [*];done)),H',⟨by first|omega|exact Nat.le_refl _⟩,⟨by (with_reducible repeat (first|refine kdN ?_ _|refine kd ?_|refine ka ?_ _));refine blk_far ?_ NB235_243.out _;(with_reducible repeat (first|refine kdN ?_ _|refine kd ?_|refine ka ?_ _));refine blk_far ?_ NB235_243.out _;(with_reducible repeat (first|refine kdN ?_ _|refine kd ?_|refine ka ?_ _));refine blk_far ?_ NB235_243.out _;(with_reducible repeat (first|refine kdN ?_ _|refine kd ?_|refine ka ?_ _));refine blk_far ?_ NB235_243.out _;(with_reducible repeat (first|refine kdN ?_ _|refine kd ?_|refine ka ?_ _));exact BK235.out⟩,⟨by (with_reducible repeat (first|refine kdN ?_ _|refine kd ?_|refine ka ?_ _));refine blk_far ?_ NB236_243.out _;(with_reducible repeat (first|refine kdN ?_ _|refine kd ?_|refine ka ?_ _));refine blk_far ?_ NB236_243.out _;(with_reducible repeat (first|refine kdN ?_ _|refine kd ?_|refine ka ?_ _));refine blk_far ?_ NB236_243.out _;(with_reducible repeat (first|refine kdN ?_ _|refine kd ?_|refine ka ?_ _));refine blk_far ?_ NB236_243.out _;(with_reducible repeat (first|refine kdN ?_ _|refine kd ?_|refine ka ?_ _));exact BK236.out⟩,⟨by (with_reducible repeat (first|refine kdN ?_ _|refine kd ?_|refine ka ?_ _));refine blk_put (cs:=#[.string t237,.int .i64 t238,.int .i64 t239,.string (⟨#[]⟩:ByteArray)]) ?_ 3 _ rfl;(with_reducible repeat (first|refine kdN ?_ _|refine kd ?_|refine ka ?_ _));refine blk_put (cs:=#[.string t237,.int .i64 t238,.int .i64 0,.string (⟨#[]⟩:ByteArray)]) ?_ 2 _ rfl;(with_reducible repeat (first|refine kdN ?_ _|refine kd ?_|refine ka ?_ _));refine blk_put (cs:=#[.string t237,.int .i64 0,.int .i64 0,.string (⟨#[]⟩:ByteArray)]) ?_ 1 _ rfl;(with_reducible repeat (first|refine kdN ?_ _|refine kd ?_|refine ka ?_ _));refine blk_put (cs:=#[.string (⟨#[]⟩:ByteArray),.int .i64 0,.int .i64 0,.string (⟨#[]⟩:ByteArray)]) ?_ 0 _ rfl;(with_reducible repeat (first|refine kdN ?_ _|refine kd ?_|refine ka ?_ _));exact BK243.out⟩,⟨by repeat (first|(with_reducible first|exact HB.out|apply bwa|apply pbN|apply bw1|refine bws ?_ GE235.out|refine bws ?_ GE236.out|refine bws ?_ GE243.out)|exact HB.out)⟩⟩
  subst c15
  have H1:(impl_FindSkip.j0 k (t237.toList != a1.toList) t237 t238 t239 t240)=some (r1,r2,r3,r4,r5):=by rw [if_pos rfl] at H;exact H
  clear H
  have H:=H1
  clear H1
  have H':=AsZ.mk H
  clear H
  have hnb16:=NB243_235.out
  have hnc16:=NB235_243.out
  have hnb17:=NB243_236.out
  have hnc17:=NB236_243.out
  have hcz18_0:w11.cell? ⟨gb243,0,none⟩=some (.string (⟨#[]⟩:ByteArray)):=(kc BK243.out 0).trans rfl
  have hcz18_1:w11.cell? ⟨gb243,1,none⟩=some (.int .i64 0):=(kc BK243.out 1).trans rfl
  have hcz18_2:w11.cell? ⟨gb243,2,none⟩=some (.int .i64 0):=(kc BK243.out 2).trans rfl
  have hcz18_3:w11.cell? ⟨gb243,3,none⟩=some (.string (⟨#[]⟩:ByteArray)):=(kc BK243.out 3).trans rfl
  have hfz18_0:=kf BK243.out 0
  have hfz18_1:=kf BK243.out 1
  have hfz18_2:=kf BK243.out 2
  have hfz18_3:=kf BK243.out 3
  go_wp2
  go_meet
  case rel=>exact ⟨_,((t237.toList != a1.toList)),(by first|rfl|(simp;done)|(simp [*];done)),H',⟨by first|omega|exact Nat.le_refl _⟩,⟨by (with_reducible repeat (first|refine kdN ?_ _|refine kd ?_|refine ka ?_ _));refine blk_far ?_ NB235_243.out _;(with_reducible repeat (first|refine kdN ?_ _|refine kd ?_|refine ka ?_ _));refine blk_far ?_ NB235_243.out _;(with_reducible repeat (first|refine kdN ?_ _|refine kd ?_|refine ka ?_ _));refine blk_far ?_ NB235_243.out _;(with_reducible repeat (first|refine kdN ?_ _|refine kd ?_|refine ka ?_ _));refine blk_far ?_ NB235_243.out _;(with_reducible repeat (first|refine kdN ?_ _|refine kd ?_|refine ka ?_ _));exact BK235.out⟩,⟨by (with_reducible repeat (first|refine kdN ?_ _|refine kd ?_|refine ka ?_ _));refine blk_far ?_ NB236_243.out _;(with_reducible repeat (first|refine kdN ?_ _|refine kd ?_|refine ka ?_ _));refine blk_far ?_ NB236_243.out _;(with_reducible repeat (first|refine kdN ?_ _|refine kd ?_|refine ka ?_ _));refine blk_far ?_ NB236_243.out _;(with_reducible repeat (first|refine kdN ?_ _|refine kd ?_|refine ka ?_ _));refine blk_far ?_ NB236_243.out _;(with_reducible repeat (first|refine kdN ?_ _|refine kd ?_|refine ka ?_ _));exact BK236.out⟩,⟨by (with_reducible repeat (first|refine kdN ?_ _|refine kd ?_|refine ka ?_ _));refine blk_put (cs:=#[.string t237,.int .i64 t238,.int .i64 t239,.string (⟨#[]⟩:ByteArray)]) ?_ 3 _ rfl;(with_reducible repeat (first|refine kdN ?_ _|refine kd ?_|refine ka ?_ _));refine blk_put (cs:=#[.string t237,.int .i64 t238,.int .i64 0,.string (⟨#[]⟩:ByteArray)]) ?_ 2 _ rfl;(with_reducible repeat (first|refine kdN ?_ _|refine kd ?_|refine ka ?_ _));refine blk_put (cs:=#[.string t237,.int .i64 0,.int .i64 0,.string (⟨#[]⟩:ByteArray)]) ?_ 1 _ rfl;(with_reducible repeat (first|refine kdN ?_ _|refine kd ?_|refine ka ?_ _));refine blk_put (cs:=#[.string (⟨#[]⟩:ByteArray),.int .i64 0,.int .i64 0,.string (⟨#[]⟩:ByteArray)]) ?_ 0 _ rfl;(with_reducible repeat (first|refine kdN ?_ _|refine kd ?_|refine ka ?_ _));exact BK243.out⟩,⟨by repeat (first|(with_reducible first|exact HB.out|apply bwa|apply pbN|apply bw1|refine bws ?_ GE235.out|refine bws ?_ GE236.out|refine bws ?_ GE243.out)|exact HB.out)⟩⟩
 case rest =>
  clear HC5
  try clear c1
  try clear p2
  try clear c3
  try clear c8
  try clear c12
  try clear c13
  try clear c15
  try clear c16
  try clear c17
  try clear hcz14_0
  try clear hcz14_1
  try clear hcz14_2
  try clear hcz14_3
  try clear hcz18_0
  try clear hcz18_1
  try clear hcz18_2
  try clear hcz18_3
  try clear hcz9_0
  try clear hcz9_1
  try clear hfz14_0
  try clear hfz14_1
  try clear hfz14_2
  try clear hfz14_3
  try clear hfz18_0
  try clear hfz18_1
  try clear hfz18_2
  try clear hfz18_3
  try clear hfz9_0
  try clear hfz9_1
  obtain ⟨kq,x26_4,rfl,HA,HJ4,BK235,BK236,BK243,HB⟩:=hcut
  cases kq with
  |zero=>exact absurd HA.out (by simp [impl_FindSkip.j0])
  |succ kj4 =>
   have H:=HA.out
   clear HA
   simp only [impl_FindSkip.j0] at H
   by_cases c19:x26_4=true
   · subst c19
     have H1:(some ((⟨#[]⟩:ByteArray),0,0,(⟨#[]⟩:ByteArray),false))=some (r1,r2,r3,r4,r5):=by rw [if_pos rfl] at H;exact H
     clear H
     have H:=H1
     clear H1
     simp only [Option.some.injEq,Prod.mk.injEq] at H
     obtain ⟨rfl,rfl,rfl,rfl,rfl⟩:=H
     have hnb20:=NB236_235.out
     have hnc20:=NB235_236.out
     have hnb21:=NB236_243.out
     have hnc21:=NB243_236.out
     have hcz22_0:wc.cell? ⟨gb236,0,none⟩=some (.string (⟨#[]⟩:ByteArray)):=(kc BK236.out 0).trans rfl
     have hcz22_1:wc.cell? ⟨gb236,1,none⟩=some (.int .i64 0):=(kc BK236.out 1).trans rfl
     have hcz22_2:wc.cell? ⟨gb236,2,none⟩=some (.int .i64 0):=(kc BK236.out 2).trans rfl
     have hcz22_3:wc.cell? ⟨gb236,3,none⟩=some (.string (⟨#[]⟩:ByteArray)):=(kc BK236.out 3).trans rfl
     have hfz22_0:=kf BK236.out 0
     have hfz22_1:=kf BK236.out 1
     have hfz22_2:=kf BK236.out 2
     have hfz22_3:=kf BK236.out 3
     go_wp2
     refine bodyPost_ret (results_ct rfl _ _ gb236 28 #[.string (⟨#[]⟩:ByteArray),.int .i64 0,.int .i64 0,.string (⟨#[]⟩:ByteArray)] (0,0) _ rfl (by (with_reducible repeat (first|refine kdN ?_ _|refine kd ?_|refine ka ?_ _));refine blk_put (cs:=#[.string (⟨#[]⟩:ByteArray),.int .i64 0,.int .i64 0,.string (⟨#[]⟩:ByteArray)]) ?_ 3 _ rfl;(with_reducible repeat (first|refine kdN ?_ _|refine kd ?_|refine ka ?_ _));refine blk_put (cs:=#[.string (⟨#[]⟩:ByteArray),.int .i64 0,.int .i64 0,.string (⟨#[]⟩:ByteArray)]) ?_ 2 _ rfl;(with_reducible repeat (first|refine kdN ?_ _|refine kd ?_|refine ka ?_ _));refine blk_put (cs:=#[.string (⟨#[]⟩:ByteArray),.int .i64 0,.int .i64 0,.string (⟨#[]⟩:ByteArray)]) ?_ 1 _ rfl;(with_reducible repeat (first|refine kdN ?_ _|refine kd ?_|refine ka ?_ _));refine blk_put (cs:=#[.string (⟨#[]⟩:ByteArray),.int .i64 0,.int .i64 0,.string (⟨#[]⟩:ByteArray)]) ?_ 0 _ rfl;(with_reducible repeat (first|refine kdN ?_ _|refine kd ?_|refine ka ?_ _));exact BK236.out) Tryd.underlying28 rfl (by kernel_rfl)) rfl ?_
     exact ⟨by first|rfl|(simp [errW_none,errW_some]<;>rfl)|(simp [*,errW_none,errW_some]<;>rfl),by repeat (first|(with_reducible first|exact HB.out|apply bwa|apply pbN|apply bw1|refine bws ?_ GE235.out|refine bws ?_ GE236.out|refine bws ?_ GE243.out)|exact HB.out)⟩
   replace c19:=Bool.eq_false_iff.mpr c19
   subst c19
   have H1:(some (t237,t238,t239,t240,true))=some (r1,r2,r3,r4,r5):=by rw [if_neg (show ¬ (false=true) by decide)] at H;exact H
   clear H
   have H:=H1
   clear H1
   simp only [Option.some.injEq,Prod.mk.injEq] at H
   obtain ⟨rfl,rfl,rfl,rfl,rfl⟩:=H
   have hnb23:=NB243_235.out
   have hnc23:=NB235_243.out
   have hnb24:=NB243_236.out
   have hnc24:=NB236_243.out
   have hcz25_0:wc.cell? ⟨gb243,0,none⟩=some (.string t237):=(kc BK243.out 0).trans rfl
   have hcz25_1:wc.cell? ⟨gb243,1,none⟩=some (.int .i64 t238):=(kc BK243.out 1).trans rfl
   have hcz25_2:wc.cell? ⟨gb243,2,none⟩=some (.int .i64 t239):=(kc BK243.out 2).trans rfl
   have hcz25_3:wc.cell? ⟨gb243,3,none⟩=some (.string t240):=(kc BK243.out 3).trans rfl
   have hfz25_0:=kf BK243.out 0
   have hfz25_1:=kf BK243.out 1
   have hfz25_2:=kf BK243.out 2
   have hfz25_3:=kf BK243.out 3
   have hnb26:=NB236_235.out
   have hnc26:=NB235_236.out
   have hcz27_0:wc.cell? ⟨gb236,0,none⟩=some (.string (⟨#[]⟩:ByteArray)):=(kc BK236.out 0).trans rfl
   have hcz27_1:wc.cell? ⟨gb236,1,none⟩=some (.int .i64 0):=(kc BK236.out 1).trans rfl
   have hcz27_2:wc.cell? ⟨gb236,2,none⟩=some (.int .i64 0):=(kc BK236.out 2).trans rfl
   have hcz27_3:wc.cell? ⟨gb236,3,none⟩=some (.string (⟨#[]⟩:ByteArray)):=(kc BK236.out 3).trans rfl
   have hfz27_0:=kf BK236.out 0
   have hfz27_1:=kf BK236.out 1
   have hfz27_2:=kf BK236.out 2
   have hfz27_3:=kf BK236.out 3
   go_wp2
   refine bodyPost_ret (results_ct rfl _ _ gb236 28 #[.string t237,.int .i64 t238,.int .i64 t239,.string t240] (0,0) _ rfl (by (with_reducible repeat (first|refine kdN ?_ _|refine kd ?_|refine ka ?_ _));refine blk_put (cs:=#[.string t237,.int .i64 t238,.int .i64 t239,.string (⟨#[]⟩:ByteArray)]) ?_ 3 _ rfl;(with_reducible repeat (first|refine kdN ?_ _|refine kd ?_|refine ka ?_ _));refine blk_put (cs:=#[.string t237,.int .i64 t238,.int .i64 0,.string (⟨#[]⟩:ByteArray)]) ?_ 2 _ rfl;(with_reducible repeat (first|refine kdN ?_ _|refine kd ?_|refine ka ?_ _));refine blk_put (cs:=#[.string t237,.int .i64 0,.int .i64 0,.string (⟨#[]⟩:ByteArray)]) ?_ 1 _ rfl;(with_reducible repeat (first|refine kdN ?_ _|refine kd ?_|refine ka ?_ _));refine blk_put (cs:=#[.string (⟨#[]⟩:ByteArray),.int .i64 0,.int .i64 0,.string (⟨#[]⟩:ByteArray)]) ?_ 0 _ rfl;(with_reducible repeat (first|refine kdN ?_ _|refine kd ?_|refine ka ?_ _));exact BK236.out) Tryd.underlying28 rfl (by kernel_rfl)) rfl ?_
   exact ⟨by first|rfl|(simp [errW_none,errW_some]<;>rfl)|(simp [*,errW_none,errW_some]<;>rfl),by repeat (first|(with_reducible first|exact HB.out|apply bwa|apply pbN|apply bw1|refine bws ?_ GE235.out|refine bws ?_ GE236.out|refine bws ?_ GE243.out)|exact HB.out)⟩
/-! ### spec_l1In: function 59 -/
def spec_l1In.f (a0:Int) (a1:Int) (a2:Int):Option (Bool):=if a0 ≥ a1 then (some (decide (a0≤a2))) else (some false)
set_option maxHeartbeats 8000000 in
set_option maxRecDepth 100000 in
theorem spec_l1In.calls (a0:Int) (a1:Int) (a2:Int) (r:Bool) (w:World) (h:spec_l1In.f a0 a1 a2=some r) :
    Calls Tryd.prog 59 #[.int .i64 a0,.int .i64 a1,.int .i64 a2] w fun e w'=>e = .returned (.bool r)∧Drawn0 w w':=by
 have H:(if a0 ≥ a1 then (some (decide (a0≤a2))) else (some false))=some r:=h
 clear h
 by_cases c4:a0 ≥ a1
 · rw [if_pos c4] at H
   have c4b0:decide (a1≤a0)=true:=zE c4
   clear c4
   obtain rfl:=zI H
   go_enter Tryd.func59,Tryd.ntmps59
   go_wp2
   go_ret
   exact ⟨by first|rfl|(simp;done)|(simp [*];done),by repeat (first|exact Drawn0.refl _|apply Drawn0.step)⟩
 rw [if_neg c4] at H
 have c4b0:decide (a1≤a0)=false:=decide_eq_false c4
 clear c4
 obtain rfl:=zI H
 go_enter Tryd.func59,Tryd.ntmps59
 go_wp2
 go_ret
 exact ⟨by first|rfl|(simp;done)|(simp [*];done),by repeat (first|exact Drawn0.refl _|apply Drawn0.step)⟩
/-! ### spec_l4Key: function 53 -/
def spec_l4Key.f (a0:ByteArray):Option (Bool):=(spec_l1In.f (a0.size:Int) 1 16).bind fun t244=>(some t244)
set_option maxHeartbeats 8000000 in
set_option maxRecDepth 100000 in
theorem spec_l4Key.calls (a0:ByteArray) (r:Bool) (w:World) (h:spec_l4Key.f a0=some r) :
    Calls Tryd.prog 53 #[.string a0] w fun e w'=>e = .returned (.bool r)∧Drawn0 w w':=by
 have H:((spec_l1In.f (a0.size:Int) 1 16).bind fun t244=>(some t244))=some r:=h
 clear h
 replace H:=Option.bind_eq_some_iff.mp H
 obtain ⟨t244,A20,H⟩:=H
 replace H:(some t244)=some r:=H
 have A2:=AsZ.mk A20
 clear A20
 obtain rfl:=zI H
 go_enter Tryd.func53,Tryd.ntmps53
 go_wp2_with (first|((with_reducible refine gcl (f:=59) rfl ?_);refine goesL_ (some 5) rfl rfl Tryd.func59 (by kernel_rfl) rfl #[.int .i64 (a0.size:Int),.int .i64 1,.int .i64 16] rfl (by (try simp only [zA,zC,zN]);first|done|rfl|(simp only [zM,zL];rfl)) ?_;(with_reducible refine (spec_l1In.calls (a0.size:Int) 1 16 t244 _ A2.out).mono ?_);rintro e w' ⟨rfl,⟨nd,rfl⟩⟩;refine ⟨_,rfl,?_⟩))
 go_ret
 exact ⟨by first|rfl|(simp;done)|(simp [*];done),by repeat (first|exact Drawn0.refl _|apply Drawn0.step)⟩
/-! ### spec_l4Seq: function 54 -/
def spec_l4Seq.f (a0:Int):Option (Bool):=(spec_l1In.f a0 0 1000000000).bind fun t245=>(some t245)
set_option maxHeartbeats 8000000 in
set_option maxRecDepth 100000 in
theorem spec_l4Seq.calls (a0:Int) (r:Bool) (w:World) (h:spec_l4Seq.f a0=some r) :
    Calls Tryd.prog 54 #[.int .i64 a0] w fun e w'=>e = .returned (.bool r)∧Drawn0 w w':=by
 have H:((spec_l1In.f a0 0 1000000000).bind fun t245=>(some t245))=some r:=h
 clear h
 replace H:=Option.bind_eq_some_iff.mp H
 obtain ⟨t245,A20,H⟩:=H
 replace H:(some t245)=some r:=H
 have A2:=AsZ.mk A20
 clear A20
 obtain rfl:=zI H
 go_enter Tryd.func54,Tryd.ntmps54
 go_wp2_with (first|((with_reducible refine gcl (f:=59) rfl ?_);refine goesL_ (some 4) rfl rfl Tryd.func59 (by kernel_rfl) rfl #[.int .i64 a0,.int .i64 0,.int .i64 1000000000] rfl (by (try simp only [zA,zC,zN]);first|done|rfl|(simp only [zM,zL];rfl)) ?_;(with_reducible refine (spec_l1In.calls a0 0 1000000000 t245 _ A2.out).mono ?_);rintro e w' ⟨rfl,⟨nd,rfl⟩⟩;refine ⟨_,rfl,?_⟩))
 go_ret
 exact ⟨by first|rfl|(simp;done)|(simp [*];done),by repeat (first|exact Drawn0.refl _|apply Drawn0.step)⟩
/-! ### spec_GoodItem: function 45 -/
def spec_GoodItem.f (a0_0:ByteArray) (a0_1:Int) (a0_2:Int) (a0_3:ByteArray):Option (Bool):=(spec_l4Key.f a0_0).bind fun t247=>(if t247=true then ((spec_l4Seq.f a0_1).bind fun t248=>(if t248=true then ((spec_l1In.f a0_2 0 1).bind fun t249=>(if t249=true then (if (a0_3.size:Int)≤40 then (if a0_2=1 then (some true) else (some (a0_3.toList == ([]:List UInt8)))) else (some false)) else (some false))) else (some false))) else (some false))
set_option maxHeartbeats 8000000 in
set_option maxRecDepth 100000 in
theorem spec_GoodItem.calls (a0_0:ByteArray) (a0_1:Int) (a0_2:Int) (a0_3:ByteArray) (r:Bool) (w:World) (h:spec_GoodItem.f a0_0 a0_1 a0_2 a0_3=some r) :
    Calls Tryd.prog 45 #[.agg #[.string a0_0,.int .i64 a0_1,.int .i64 a0_2,.string a0_3]] w fun e w'=>e = .returned (.bool r)∧Below w.heap.size w w':=by
 have hu28:=Tryd.underlying28
 have HB:=AsZ.mk (Below.refl w.heap.size w)
 have H:((spec_l4Key.f a0_0).bind fun t247=>(if t247=true then ((spec_l4Seq.f a0_1).bind fun t248=>(if t248=true then ((spec_l1In.f a0_2 0 1).bind fun t249=>(if t249=true then (if (a0_3.size:Int)≤40 then (if a0_2=1 then (some true) else (some (a0_3.toList == ([]:List UInt8)))) else (some false)) else (some false))) else (some false))) else (some false)))=some r:=h
 clear h
 replace H:=Option.bind_eq_some_iff.mp H
 obtain ⟨t247,A20,H⟩:=H
 replace H:(if t247=true then ((spec_l4Seq.f a0_1).bind fun t248=>(if t248=true then ((spec_l1In.f a0_2 0 1).bind fun t249=>(if t249=true then (if (a0_3.size:Int)≤40 then (if a0_2=1 then (some true) else (some (a0_3.toList == ([]:List UInt8)))) else (some false)) else (some false))) else (some false))) else (some false))=some r:=H
 have A2:=AsZ.mk A20
 clear A20
 by_cases c3:t247=true
 rotate_left
 · replace c3:=Bool.eq_false_iff.mpr c3
   subst c3
   have H1:(some false)=some r:=by rw [if_neg (show ¬ (false=true) by decide)] at H;exact H
   clear H
   have H:=H1
   clear H1
   obtain rfl:=zI H
   go_enter Tryd.func45,Tryd.ntmps45
   go_wp2_with (first|((with_reducible refine gate_dst (N:=1) rfl ?_);(try (refine gate_guard (by rfl) ?_;dsimp only));refine box_event ?hg (N:=1) ?hd (cs:=#[.string a0_0,.int .i64 a0_1,.int .i64 a0_2,.string a0_3]) (t:=28) ?hr ?_;(case hd=>rfl);(case hg=>rfl);(case hr=>first|(go_simp;done)|(go_simp;rfl));intro gb246 hg w20 hbox hb;have n0_:=AsZ.mk (bwp (by repeat (first|(with_reducible first|exact HB.out|apply bwa|apply pbN|apply bw1)|exact HB.out)) hb);have n1_:=AsZ.mk (hbox);have n2_:=AsZ.mk ((by rw [hg];exact (bwz (by repeat (first|(with_reducible first|exact HB.out|apply bwa|apply pbN|apply bw1)|exact HB.out))):w.heap.size≤gb246));have n3_:=AsZ.mk ((by rw [hg];exact (bwz (by repeat (first|(with_reducible first|exact HB.out|apply bwa|apply pbN|apply bw1)|exact HB.out))):w.heap.size≤gb246));clear HB;have HB:=n0_;have BK246:=n1_;have GW246:=n2_;have GE246:=n3_;clear n0_ n1_ n2_ n3_;clear hb hbox hg;have hcz21_0:w20.cell? ⟨gb246,0,none⟩=some (.string a0_0):=(kc BK246.out 0).trans rfl;have hcz21_1:w20.cell? ⟨gb246,1,none⟩=some (.int .i64 a0_1):=(kc BK246.out 1).trans rfl;have hcz21_2:w20.cell? ⟨gb246,2,none⟩=some (.int .i64 a0_2):=(kc BK246.out 2).trans rfl;have hcz21_3:w20.cell? ⟨gb246,3,none⟩=some (.string a0_3):=(kc BK246.out 3).trans rfl;have hfz21_0:=kf BK246.out 0;have hfz21_1:=kf BK246.out 1;have hfz21_2:=kf BK246.out 2;have hfz21_3:=kf BK246.out 3)|((with_reducible refine gcl (f:=53) rfl ?_);refine goesL_ (some 5) rfl rfl Tryd.func53 (by kernel_rfl) rfl #[.string a0_0] rfl (by (try simp only [zA,zC,zN]);first|done|rfl|(simp only [zM,zL];rfl)) ?_;(with_reducible refine (spec_l4Key.calls a0_0 false _ A2.out).mono ?_);rintro e w' ⟨rfl,⟨nd,rfl⟩⟩;refine ⟨_,rfl,?_⟩))
   go_ret
   exact ⟨by first|rfl|(simp [errW_none,errW_some]<;>rfl)|(simp [*,errW_none,errW_some]<;>rfl),by repeat (first|(with_reducible first|exact HB.out|apply bwa|apply pbN|apply bw1|refine bws ?_ GE246.out)|exact HB.out)⟩
 subst c3
 have H1:((spec_l4Seq.f a0_1).bind fun t248=>(if t248=true then ((spec_l1In.f a0_2 0 1).bind fun t249=>(if t249=true then (if (a0_3.size:Int)≤40 then (if a0_2=1 then (some true) else (some (a0_3.toList == ([]:List UInt8)))) else (some false)) else (some false))) else (some false)))=some r:=by rw [if_pos rfl] at H;exact H
 clear H
 have H:=H1
 clear H1
 replace H:=Option.bind_eq_some_iff.mp H
 obtain ⟨t248,A40,H⟩:=H
 replace H:(if t248=true then ((spec_l1In.f a0_2 0 1).bind fun t249=>(if t249=true then (if (a0_3.size:Int)≤40 then (if a0_2=1 then (some true) else (some (a0_3.toList == ([]:List UInt8)))) else (some false)) else (some false))) else (some false))=some r:=H
 have A4:=AsZ.mk A40
 clear A40
 by_cases c5:t248=true
 rotate_left
 · replace c5:=Bool.eq_false_iff.mpr c5
   subst c5
   have H1:(some false)=some r:=by rw [if_neg (show ¬ (false=true) by decide)] at H;exact H
   clear H
   have H:=H1
   clear H1
   obtain rfl:=zI H
   go_enter Tryd.func45,Tryd.ntmps45
   go_wp2_with (first|((with_reducible refine gate_dst (N:=1) rfl ?_);(try (refine gate_guard (by rfl) ?_;dsimp only));refine box_event ?hg (N:=1) ?hd (cs:=#[.string a0_0,.int .i64 a0_1,.int .i64 a0_2,.string a0_3]) (t:=28) ?hr ?_;(case hd=>rfl);(case hg=>rfl);(case hr=>first|(go_simp;done)|(go_simp;rfl));intro gb246 hg w18 hbox hb;have n0_:=AsZ.mk (bwp (by repeat (first|(with_reducible first|exact HB.out|apply bwa|apply pbN|apply bw1)|exact HB.out)) hb);have n1_:=AsZ.mk (hbox);have n2_:=AsZ.mk ((by rw [hg];exact (bwz (by repeat (first|(with_reducible first|exact HB.out|apply bwa|apply pbN|apply bw1)|exact HB.out))):w.heap.size≤gb246));have n3_:=AsZ.mk ((by rw [hg];exact (bwz (by repeat (first|(with_reducible first|exact HB.out|apply bwa|apply pbN|apply bw1)|exact HB.out))):w.heap.size≤gb246));clear HB;have HB:=n0_;have BK246:=n1_;have GW246:=n2_;have GE246:=n3_;clear n0_ n1_ n2_ n3_;clear hb hbox hg;have hcz19_0:w18.cell? ⟨gb246,0,none⟩=some (.string a0_0):=(kc BK246.out 0).trans rfl;have hcz19_1:w18.cell? ⟨gb246,1,none⟩=some (.int .i64 a0_1):=(kc BK246.out 1).trans rfl;have hcz19_2:w18.cell? ⟨gb246,2,none⟩=some (.int .i64 a0_2):=(kc BK246.out 2).trans rfl;have hcz19_3:w18.cell? ⟨gb246,3,none⟩=some (.string a0_3):=(kc BK246.out 3).trans rfl;have hfz19_0:=kf BK246.out 0;have hfz19_1:=kf BK246.out 1;have hfz19_2:=kf BK246.out 2;have hfz19_3:=kf BK246.out 3)|((with_reducible refine gcl (f:=53) rfl ?_);refine goesL_ (some 5) rfl rfl Tryd.func53 (by kernel_rfl) rfl #[.string a0_0] rfl (by (try simp only [zA,zC,zN]);first|done|rfl|(simp only [zM,zL];rfl)) ?_;(with_reducible refine (spec_l4Key.calls a0_0 true _ A2.out).mono ?_);rintro e w' ⟨rfl,⟨nd,rfl⟩⟩;refine ⟨_,rfl,?_⟩)|(go_at_call 54;(with_reducible refine (spec_l4Seq.calls a0_1 false _ A4.out).mono ?_);rintro e w' ⟨rfl,⟨nd,rfl⟩⟩))
   go_ret
   exact ⟨by first|rfl|(simp [errW_none,errW_some]<;>rfl)|(simp [*,errW_none,errW_some]<;>rfl),by repeat (first|(with_reducible first|exact HB.out|apply bwa|apply pbN|apply bw1|refine bws ?_ GE246.out)|exact HB.out)⟩
 subst c5
 have H1:((spec_l1In.f a0_2 0 1).bind fun t249=>(if t249=true then (if (a0_3.size:Int)≤40 then (if a0_2=1 then (some true) else (some (a0_3.toList == ([]:List UInt8)))) else (some false)) else (some false)))=some r:=by rw [if_pos rfl] at H;exact H
 clear H
 have H:=H1
 clear H1
 replace H:=Option.bind_eq_some_iff.mp H
 obtain ⟨t249,A60,H⟩:=H
 replace H:(if t249=true then (if (a0_3.size:Int)≤40 then (if a0_2=1 then (some true) else (some (a0_3.toList == ([]:List UInt8)))) else (some false)) else (some false))=some r:=H
 have A6:=AsZ.mk A60
 clear A60
 by_cases c7:t249=true
 rotate_left
 · replace c7:=Bool.eq_false_iff.mpr c7
   subst c7
   have H1:(some false)=some r:=by rw [if_neg (show ¬ (false=true) by decide)] at H;exact H
   clear H
   have H:=H1
   clear H1
   obtain rfl:=zI H
   go_enter Tryd.func45,Tryd.ntmps45
   go_wp2_with (first|((with_reducible refine gate_dst (N:=1) rfl ?_);(try (refine gate_guard (by rfl) ?_;dsimp only));refine box_event ?hg (N:=1) ?hd (cs:=#[.string a0_0,.int .i64 a0_1,.int .i64 a0_2,.string a0_3]) (t:=28) ?hr ?_;(case hd=>rfl);(case hg=>rfl);(case hr=>first|(go_simp;done)|(go_simp;rfl));intro gb246 hg w16 hbox hb;have n0_:=AsZ.mk (bwp (by repeat (first|(with_reducible first|exact HB.out|apply bwa|apply pbN|apply bw1)|exact HB.out)) hb);have n1_:=AsZ.mk (hbox);have n2_:=AsZ.mk ((by rw [hg];exact (bwz (by repeat (first|(with_reducible first|exact HB.out|apply bwa|apply pbN|apply bw1)|exact HB.out))):w.heap.size≤gb246));have n3_:=AsZ.mk ((by rw [hg];exact (bwz (by repeat (first|(with_reducible first|exact HB.out|apply bwa|apply pbN|apply bw1)|exact HB.out))):w.heap.size≤gb246));clear HB;have HB:=n0_;have BK246:=n1_;have GW246:=n2_;have GE246:=n3_;clear n0_ n1_ n2_ n3_;clear hb hbox hg;have hcz17_0:w16.cell? ⟨gb246,0,none⟩=some (.string a0_0):=(kc BK246.out 0).trans rfl;have hcz17_1:w16.cell? ⟨gb246,1,none⟩=some (.int .i64 a0_1):=(kc BK246.out 1).trans rfl;have hcz17_2:w16.cell? ⟨gb246,2,none⟩=some (.int .i64 a0_2):=(kc BK246.out 2).trans rfl;have hcz17_3:w16.cell? ⟨gb246,3,none⟩=some (.string a0_3):=(kc BK246.out 3).trans rfl;have hfz17_0:=kf BK246.out 0;have hfz17_1:=kf BK246.out 1;have hfz17_2:=kf BK246.out 2;have hfz17_3:=kf BK246.out 3)|((with_reducible refine gcl (f:=53) rfl ?_);refine goesL_ (some 5) rfl rfl Tryd.func53 (by kernel_rfl) rfl #[.string a0_0] rfl (by (try simp only [zA,zC,zN]);first|done|rfl|(simp only [zM,zL];rfl)) ?_;(with_reducible refine (spec_l4Key.calls a0_0 true _ A2.out).mono ?_);rintro e w' ⟨rfl,⟨nd,rfl⟩⟩;refine ⟨_,rfl,?_⟩)|(go_at_call 54;(with_reducible refine (spec_l4Seq.calls a0_1 true _ A4.out).mono ?_);rintro e w' ⟨rfl,⟨nd,rfl⟩⟩)|(go_at_call 59;(with_reducible refine (spec_l1In.calls a0_2 0 1 false _ A6.out).mono ?_);rintro e w' ⟨rfl,⟨nd,rfl⟩⟩))
   go_ret
   exact ⟨by first|rfl|(simp [errW_none,errW_some]<;>rfl)|(simp [*,errW_none,errW_some]<;>rfl),by repeat (first|(with_reducible first|exact HB.out|apply bwa|apply pbN|apply bw1|refine bws ?_ GE246.out)|exact HB.out)⟩
 subst c7
 have H1:(if (a0_3.size:Int)≤40 then (if a0_2=1 then (some true) else (some (a0_3.toList == ([]:List UInt8)))) else (some false))=some r:=by rw [if_pos rfl] at H;exact H
 clear H
 have H:=H1
 clear H1
 by_cases c8:(a0_3.size:Int)≤40
 rotate_left
 · rw [if_neg c8] at H
   have c8b0:decide ((a0_3.size:Int)≤40)=false:=decide_eq_false c8
   have c8b1:decide (a0_3.size≤40)=false:=decide_eq_false (by omega)
   clear c8
   obtain rfl:=zI H
   go_enter Tryd.func45,Tryd.ntmps45
   go_wp2_with (first|((with_reducible refine gate_dst (N:=1) rfl ?_);(try (refine gate_guard (by rfl) ?_;dsimp only));refine box_event ?hg (N:=1) ?hd (cs:=#[.string a0_0,.int .i64 a0_1,.int .i64 a0_2,.string a0_3]) (t:=28) ?hr ?_;(case hd=>rfl);(case hg=>rfl);(case hr=>first|(go_simp;done)|(go_simp;rfl));intro gb246 hg w14 hbox hb;have n0_:=AsZ.mk (bwp (by repeat (first|(with_reducible first|exact HB.out|apply bwa|apply pbN|apply bw1)|exact HB.out)) hb);have n1_:=AsZ.mk (hbox);have n2_:=AsZ.mk ((by rw [hg];exact (bwz (by repeat (first|(with_reducible first|exact HB.out|apply bwa|apply pbN|apply bw1)|exact HB.out))):w.heap.size≤gb246));have n3_:=AsZ.mk ((by rw [hg];exact (bwz (by repeat (first|(with_reducible first|exact HB.out|apply bwa|apply pbN|apply bw1)|exact HB.out))):w.heap.size≤gb246));clear HB;have HB:=n0_;have BK246:=n1_;have GW246:=n2_;have GE246:=n3_;clear n0_ n1_ n2_ n3_;clear hb hbox hg;have hcz15_0:w14.cell? ⟨gb246,0,none⟩=some (.string a0_0):=(kc BK246.out 0).trans rfl;have hcz15_1:w14.cell? ⟨gb246,1,none⟩=some (.int .i64 a0_1):=(kc BK246.out 1).trans rfl;have hcz15_2:w14.cell? ⟨gb246,2,none⟩=some (.int .i64 a0_2):=(kc BK246.out 2).trans rfl;have hcz15_3:w14.cell? ⟨gb246,3,none⟩=some (.string a0_3):=(kc BK246.out 3).trans rfl;have hfz15_0:=kf BK246.out 0;have hfz15_1:=kf BK246.out 1;have hfz15_2:=kf BK246.out 2;have hfz15_3:=kf BK246.out 3)|((with_reducible refine gcl (f:=53) rfl ?_);refine goesL_ (some 5) rfl rfl Tryd.func53 (by kernel_rfl) rfl #[.string a0_0] rfl (by (try simp only [zA,zC,zN]);first|done|rfl|(simp only [zM,zL];rfl)) ?_;(with_reducible refine (spec_l4Key.calls a0_0 true _ A2.out).mono ?_);rintro e w' ⟨rfl,⟨nd,rfl⟩⟩;refine ⟨_,rfl,?_⟩)|(go_at_call 54;(with_reducible refine (spec_l4Seq.calls a0_1 true _ A4.out).mono ?_);rintro e w' ⟨rfl,⟨nd,rfl⟩⟩)|(go_at_call 59;(with_reducible refine (spec_l1In.calls a0_2 0 1 true _ A6.out).mono ?_);rintro e w' ⟨rfl,⟨nd,rfl⟩⟩))
   go_ret
   exact ⟨by first|rfl|(simp [errW_none,errW_some]<;>rfl)|(simp [*,errW_none,errW_some]<;>rfl),by repeat (first|(with_reducible first|exact HB.out|apply bwa|apply pbN|apply bw1|refine bws ?_ GE246.out)|exact HB.out)⟩
 rw [if_pos c8] at H
 have c8b0:decide ((a0_3.size:Int)≤40)=true:=zE c8
 have c8b1:decide (a0_3.size≤40)=true:=zE (by omega)
 clear c8
 by_cases c9:a0_2=1
 rotate_left
 · rw [if_neg c9] at H
   have c9b0:(a0_2 == 1)=false:=beq_eq_false_iff_ne.mpr c9
   have c9b1:(a0_2 != 1)=true:=bne_iff_ne.mpr c9
   obtain rfl:=zI H
   go_enter Tryd.func45,Tryd.ntmps45
   go_wp2_with (first|((with_reducible refine gate_dst (N:=1) rfl ?_);(try (refine gate_guard (by rfl) ?_;dsimp only));refine box_event ?hg (N:=1) ?hd (cs:=#[.string a0_0,.int .i64 a0_1,.int .i64 a0_2,.string a0_3]) (t:=28) ?hr ?_;(case hd=>rfl);(case hg=>rfl);(case hr=>first|(go_simp;done)|(go_simp;rfl));intro gb246 hg w12 hbox hb;have n0_:=AsZ.mk (bwp (by repeat (first|(with_reducible first|exact HB.out|apply bwa|apply pbN|apply bw1)|exact HB.out)) hb);have n1_:=AsZ.mk (hbox);have n2_:=AsZ.mk ((by rw [hg];exact (bwz (by repeat (first|(with_reducible first|exact HB.out|apply bwa|apply pbN|apply bw1)|exact HB.out))):w.heap.size≤gb246));have n3_:=AsZ.mk ((by rw [hg];exact (bwz (by repeat (first|(with_reducible first|exact HB.out|apply bwa|apply pbN|apply bw1)|exact HB.out))):w.heap.size≤gb246));clear HB;have HB:=n0_;have BK246:=n1_;have GW246:=n2_;have GE246:=n3_;clear n0_ n1_ n2_ n3_;clear hb hbox hg;have hcz13_0:w12.cell? ⟨gb246,0,none⟩=some (.string a0_0):=(kc BK246.out 0).trans rfl;have hcz13_1:w12.cell? ⟨gb246,1,none⟩=some (.int .i64 a0_1):=(kc BK246.out 1).trans rfl;have hcz13_2:w12.cell? ⟨gb246,2,none⟩=some (.int .i64 a0_2):=(kc BK246.out 2).trans rfl;have hcz13_3:w12.cell? ⟨gb246,3,none⟩=some (.string a0_3):=(kc BK246.out 3).trans rfl;have hfz13_0:=kf BK246.out 0;have hfz13_1:=kf BK246.out 1;have hfz13_2:=kf BK246.out 2;have hfz13_3:=kf BK246.out 3)|((with_reducible refine gcl (f:=53) rfl ?_);refine goesL_ (some 5) rfl rfl Tryd.func53 (by kernel_rfl) rfl #[.string a0_0] rfl (by (try simp only [zA,zC,zN]);first|done|rfl|(simp only [zM,zL];rfl)) ?_;(with_reducible refine (spec_l4Key.calls a0_0 true _ A2.out).mono ?_);rintro e w' ⟨rfl,⟨nd,rfl⟩⟩;refine ⟨_,rfl,?_⟩)|(go_at_call 54;(with_reducible refine (spec_l4Seq.calls a0_1 true _ A4.out).mono ?_);rintro e w' ⟨rfl,⟨nd,rfl⟩⟩)|(go_at_call 59;(with_reducible refine (spec_l1In.calls a0_2 0 1 true _ A6.out).mono ?_);rintro e w' ⟨rfl,⟨nd,rfl⟩⟩))
   go_ret
   exact ⟨by first|rfl|(simp [errW_none,errW_some]<;>rfl)|(simp [*,errW_none,errW_some]<;>rfl),by repeat (first|(with_reducible first|exact HB.out|apply bwa|apply pbN|apply bw1|refine bws ?_ GE246.out)|exact HB.out)⟩
 rw [if_pos c9] at H
 have c9b0:(a0_2 == 1)=true:=beq_iff_eq.mpr c9
 have c9b1:(a0_2 != 1)=false:=bne_eq_false_iff_eq.mpr c9
 clear c9
 obtain rfl:=zI H
 go_enter Tryd.func45,Tryd.ntmps45
 go_wp2_with (first|((with_reducible refine gate_dst (N:=1) rfl ?_);(try (refine gate_guard (by rfl) ?_;dsimp only));refine box_event ?hg (N:=1) ?hd (cs:=#[.string a0_0,.int .i64 a0_1,.int .i64 a0_2,.string a0_3]) (t:=28) ?hr ?_;(case hd=>rfl);(case hg=>rfl);(case hr=>first|(go_simp;done)|(go_simp;rfl));intro gb246 hg w10 hbox hb;have n0_:=AsZ.mk (bwp (by repeat (first|(with_reducible first|exact HB.out|apply bwa|apply pbN|apply bw1)|exact HB.out)) hb);have n1_:=AsZ.mk (hbox);have n2_:=AsZ.mk ((by rw [hg];exact (bwz (by repeat (first|(with_reducible first|exact HB.out|apply bwa|apply pbN|apply bw1)|exact HB.out))):w.heap.size≤gb246));have n3_:=AsZ.mk ((by rw [hg];exact (bwz (by repeat (first|(with_reducible first|exact HB.out|apply bwa|apply pbN|apply bw1)|exact HB.out))):w.heap.size≤gb246));clear HB;have HB:=n0_;have BK246:=n1_;have GW246:=n2_;have GE246:=n3_;clear n0_ n1_ n2_ n3_;clear hb hbox hg;have hcz11_0:w10.cell? ⟨gb246,0,none⟩=some (.string a0_0):=(kc BK246.out 0).trans rfl;have hcz11_1:w10.cell? ⟨gb246,1,none⟩=some (.int .i64 a0_1):=(kc BK246.out 1).trans rfl;have hcz11_2:w10.cell? ⟨gb246,2,none⟩=some (.int .i64 a0_2):=(kc BK246.out 2).trans rfl;have hcz11_3:w10.cell? ⟨gb246,3,none⟩=some (.string a0_3):=(kc BK246.out 3).trans rfl;have hfz11_0:=kf BK246.out 0;have hfz11_1:=kf BK246.out 1;have hfz11_2:=kf BK246.out 2;have hfz11_3:=kf BK246.out 3)|((with_reducible refine gcl (f:=53) rfl ?_);refine goesL_ (some 5) rfl rfl Tryd.func53 (by kernel_rfl) rfl #[.string a0_0] rfl (by (try simp only [zA,zC,zN]);first|done|rfl|(simp only [zM,zL];rfl)) ?_;(with_reducible refine (spec_l4Key.calls a0_0 true _ A2.out).mono ?_);rintro e w' ⟨rfl,⟨nd,rfl⟩⟩;refine ⟨_,rfl,?_⟩)|(go_at_call 54;(with_reducible refine (spec_l4Seq.calls a0_1 true _ A4.out).mono ?_);rintro e w' ⟨rfl,⟨nd,rfl⟩⟩)|(go_at_call 59;(with_reducible refine (spec_l1In.calls a0_2 0 1 true _ A6.out).mono ?_);rintro e w' ⟨rfl,⟨nd,rfl⟩⟩))
 go_ret
 exact ⟨by first|rfl|(simp [errW_none,errW_some]<;>rfl)|(simp [*,errW_none,errW_some]<;>rfl),by repeat (first|(with_reducible first|exact HB.out|apply bwa|apply pbN|apply bw1|refine bws ?_ GE246.out)|exact HB.out)⟩
/-! ### spec_l4Compare: function 47 -/
mutual
def spec_l4Compare.j0:Nat→Bool→ByteArray→Int→Int→ByteArray→ByteArray→Int→Int→ByteArray→Option (Int)
  |0,_,_,_,_,_,_,_,_,_=>none
  |k + 1,x5,x251000,x251001,x251002,x251003,x252000,x252001,x252002,x252003=>if x5=true then (some (-1)) else (if x251000.toList=x252000.toList then (spec_l4Compare.j1 k (x251001 == x252001)) else (spec_l4Compare.j1 k false))
def spec_l4Compare.j1:Nat→Bool→Option (Int)
  |0,_=>none
  |k + 1,x25=>if x25=true then (some 0) else (some 1)
end
def spec_l4Compare.f (k:Nat) (a0_0:ByteArray) (a0_1:Int) (a0_2:Int) (a0_3:ByteArray) (a1_0:ByteArray) (a1_1:Int) (a1_2:Int) (a1_3:ByteArray):Option (Int):=if (Op.bytesLess a0_0.toList a1_0.toList)=true then (spec_l4Compare.j0 k true a0_0 a0_1 a0_2 a0_3 a1_0 a1_1 a1_2 a1_3) else (if a0_0.toList=a1_0.toList then (spec_l4Compare.j0 k (decide (a0_1 > a1_1)) a0_0 a0_1 a0_2 a0_3 a1_0 a1_1 a1_2 a1_3) else (spec_l4Compare.j0 k false a0_0 a0_1 a0_2 a0_3 a1_0 a1_1 a1_2 a1_3))
theorem spec_l4Compare.mono_l:∀ k,(∀ y0 y1 y2 y3 y4 y5 y6 y7 y8,LeO (spec_l4Compare.j0 k y0 y1 y2 y3 y4 y5 y6 y7 y8) (spec_l4Compare.j0 (k + 1) y0 y1 y2 y3 y4 y5 y6 y7 y8))∧(∀ y0,LeO (spec_l4Compare.j1 k y0) (spec_l4Compare.j1 (k + 1) y0))
  |0=>⟨fun _ _ _ _ _ _ _ _ _ r h=>by simp [spec_l4Compare.j0] at h,fun _ r h=>by simp [spec_l4Compare.j1] at h⟩
  |k + 1=>by
    obtain ⟨ih0,ih1⟩:=spec_l4Compare.mono_l k
    refine ⟨?_,?_⟩
    · intro y0 y1 y2 y3 y4 y5 y6 y7 y8
      unfold spec_l4Compare.j0
      repeat' first
      |(with_reducible exact ih0 _ _ _ _ _ _ _ _ _)
      |(with_reducible exact ih1 _)
      |(with_reducible exact LeO.refl _)
      |(with_reducible exact LeO.none _)
      |(with_reducible refine LeO.ite ?_ ?_)
      |(with_reducible refine LeO.bind ?_ (fun _=>?_))
      |exact ih0 _ _ _ _ _ _ _ _ _
      |exact ih1 _
      |exact LeO.none _
      |refine LeO.ite ?_ ?_
      |refine LeO.bind ?_ (fun _=>?_)
    · intro y0
      unfold spec_l4Compare.j1
      repeat' first
      |(with_reducible exact ih0 _ _ _ _ _ _ _ _ _)
      |(with_reducible exact ih1 _)
      |(with_reducible exact LeO.refl _)
      |(with_reducible exact LeO.none _)
      |(with_reducible refine LeO.ite ?_ ?_)
      |(with_reducible refine LeO.bind ?_ (fun _=>?_))
      |exact ih0 _ _ _ _ _ _ _ _ _
      |exact ih1 _
      |exact LeO.none _
      |refine LeO.ite ?_ ?_
      |refine LeO.bind ?_ (fun _=>?_)
theorem spec_l4Compare.mono:∀ a0 a1 a2 a3 a4 a5 a6 a7 k,LeO (spec_l4Compare.f k a0 a1 a2 a3 a4 a5 a6 a7) (spec_l4Compare.f (k + 1) a0 a1 a2 a3 a4 a5 a6 a7):=by
  intro a0 a1 a2 a3 a4 a5 a6 a7 k
  obtain ⟨ih0,ih1⟩:=spec_l4Compare.mono_l k
  unfold spec_l4Compare.f
  repeat' first
      |(with_reducible exact ih0 _ _ _ _ _ _ _ _ _)
      |(with_reducible exact ih1 _)
      |(with_reducible exact LeO.refl _)
      |(with_reducible exact LeO.none _)
      |(with_reducible refine LeO.ite ?_ ?_)
      |(with_reducible refine LeO.bind ?_ (fun _=>?_))
      |exact ih0 _ _ _ _ _ _ _ _ _
      |exact ih1 _
      |exact LeO.none _
      |refine LeO.ite ?_ ?_
      |refine LeO.bind ?_ (fun _=>?_)
set_option maxHeartbeats 8000000 in
set_option maxRecDepth 100000 in
theorem spec_l4Compare.calls (k:Nat) (a0_0:ByteArray) (a0_1:Int) (a0_2:Int) (a0_3:ByteArray) (a1_0:ByteArray) (a1_1:Int) (a1_2:Int) (a1_3:ByteArray) (r:Int) (w:World) (h:spec_l4Compare.f k a0_0 a0_1 a0_2 a0_3 a1_0 a1_1 a1_2 a1_3=some r) :
    Calls Tryd.prog 47 #[.agg #[.string a0_0,.int .i64 a0_1,.int .i64 a0_2,.string a0_3],.agg #[.string a1_0,.int .i64 a1_1,.int .i64 a1_2,.string a1_3]] w fun e w'=>e = .returned (.int .i64 r)∧Below w.heap.size w w':=by
 have hu28:=Tryd.underlying28
 have HB:=AsZ.mk (Below.refl w.heap.size w)
 have H:(if (Op.bytesLess a0_0.toList a1_0.toList)=true then (spec_l4Compare.j0 k true a0_0 a0_1 a0_2 a0_3 a1_0 a1_1 a1_2 a1_3) else (if a0_0.toList=a1_0.toList then (spec_l4Compare.j0 k (decide (a0_1 > a1_1)) a0_0 a0_1 a0_2 a0_3 a1_0 a1_1 a1_2 a1_3) else (spec_l4Compare.j0 k false a0_0 a0_1 a0_2 a0_3 a1_0 a1_1 a1_2 a1_3)))=some r:=h
 clear h
 have HC3:=AsZ.mk H
 clear H
 go_enter Tryd.func47,Tryd.ntmps47
 go_upto_region 1 with (first|((with_reducible refine gate_dst (N:=2) rfl ?_);refine box_event ?hg (N:=2) ?hd (cs:=#[.string a0_0,.int .i64 a0_1,.int .i64 a0_2,.string a0_3]) (t:=28) ?hr ?_;(case hd=>rfl);(case hg=>rfl);(case hr=>first|(go_simp;done)|(go_simp;rfl));intro gb250 hg w4 hbox hb;have n0_:=AsZ.mk (bwp (by repeat (first|(with_reducible first|exact HB.out|apply bwa|apply pbN|apply bw1)|exact HB.out)) hb);have n1_:=AsZ.mk (hbox);have n2_:=AsZ.mk ((by rw [hg];exact (bwz (by repeat (first|(with_reducible first|exact HB.out|apply bwa|apply pbN|apply bw1)|exact HB.out))):w.heap.size≤gb250));have n3_:=AsZ.mk ((by rw [hg];exact (bwz (by repeat (first|(with_reducible first|exact HB.out|apply bwa|apply pbN|apply bw1)|exact HB.out))):w.heap.size≤gb250));clear HB;have HB:=n0_;have BK250:=n1_;have GW250:=n2_;have GE250:=n3_;clear n0_ n1_ n2_ n3_;clear hb hbox hg)|((with_reducible refine gate_dst (N:=3) rfl ?_);refine box_event ?hg (N:=3) ?hd (cs:=#[.string a1_0,.int .i64 a1_1,.int .i64 a1_2,.string a1_3]) (t:=28) ?hr ?_;(case hd=>rfl);(case hg=>rfl);(case hr=>first|(go_simp;done)|(go_simp;rfl));intro gb251 hg w5 hbox hb;have n0_:=AsZ.mk (kb (g:=gb250) (o := .cells #[.string a0_0,.int .i64 a0_1,.int .i64 a0_2,.string a0_3] 28 (0,0)) (by (with_reducible repeat (first|refine kdN ?_ _|refine kd ?_|refine ka ?_ _));exact BK250.out) hb);have n1_:=AsZ.mk (bwp (by repeat (first|(with_reducible first|exact HB.out|apply bwa|apply pbN|apply bw1|refine bws ?_ GE250.out)|exact HB.out)) hb);have n2_:=AsZ.mk (hbox);have n3_:=AsZ.mk ((by rw [hg];exact (bwz (by repeat (first|(with_reducible first|exact HB.out|apply bwa|apply pbN|apply bw1|refine bws ?_ GE250.out)|exact HB.out))):w.heap.size≤gb251));have n4_:=AsZ.mk ((by rw [hg];exact (bwz (by repeat (first|(with_reducible first|exact HB.out|apply bwa|apply pbN|apply bw1|refine bws ?_ GE250.out)|exact HB.out))):w.heap.size≤gb251));have n5_:=AsZ.mk ((by rw [hg];exact Nat.ne_of_lt (blk_lt (g:=gb250) (o := .cells #[.string a0_0,.int .i64 a0_1,.int .i64 a0_2,.string a0_3] 28 (0,0)) (by (with_reducible repeat (first|refine kdN ?_ _|refine kd ?_|refine ka ?_ _));exact BK250.out)):gb250 ≠ gb251));have n6_:=AsZ.mk ((by rw [hg];exact Nat.ne_of_gt (blk_lt (g:=gb250) (o := .cells #[.string a0_0,.int .i64 a0_1,.int .i64 a0_2,.string a0_3] 28 (0,0)) (by (with_reducible repeat (first|refine kdN ?_ _|refine kd ?_|refine ka ?_ _));exact BK250.out)):gb251 ≠ gb250));clear BK250;clear HB;have BK250:=n0_;have HB:=n1_;have BK251:=n2_;have GW251:=n3_;have GE251:=n4_;have NB250_251:=n5_;have NB251_250:=n6_;clear n0_ n1_ n2_ n3_ n4_ n5_ n6_;clear hb hbox hg))
 (try simp only [Act.put,zS,zT,zU])
 go_cut [5] (fun v5 wc => ∃ (kq:Nat) (x5_2:Bool),v5 = .bool x5_2∧AsZ (spec_l4Compare.j0 kq x5_2 a0_0 a0_1 a0_2 a0_3 a1_0 a1_1 a1_2 a1_3=some r)∧AsZ (kq≤k)∧AsZ (wc.heap[gb250]? = some (.cells #[.string a0_0,.int .i64 a0_1,.int .i64 a0_2,.string a0_3] 28 (0,0)))∧AsZ (wc.heap[gb251]? = some (.cells #[.string a1_0,.int .i64 a1_1,.int .i64 a1_2,.string a1_3] 28 (0,0)))∧AsZ (Below w.heap.size w wc))
 case first =>
  have H:=HC3.out
  clear HC3
  by_cases c6:(Op.bytesLess a0_0.toList a1_0.toList)=true
  · rw [if_pos c6] at H
    have c6b0:(Op.bytesLess a0_0.toList a1_0.toList)=true:=c6
    clear c6
    (first|rw [c6b0]|(simp only [i64_w,i32_w];rw [c6b0])|rw [c6b1]|skip)
    have H':=AsZ.mk H
    clear H
    have hnb7:=NB250_251.out
    have hnc7:=NB251_250.out
    have hcz8_0:w5.cell? ⟨gb250,0,none⟩=some (.string a0_0):=(kc BK250.out 0).trans rfl
    have hcz8_1:w5.cell? ⟨gb250,1,none⟩=some (.int .i64 a0_1):=(kc BK250.out 1).trans rfl
    have hcz8_2:w5.cell? ⟨gb250,2,none⟩=some (.int .i64 a0_2):=(kc BK250.out 2).trans rfl
    have hcz8_3:w5.cell? ⟨gb250,3,none⟩=some (.string a0_3):=(kc BK250.out 3).trans rfl
    have hfz8_0:=kf BK250.out 0
    have hfz8_1:=kf BK250.out 1
    have hfz8_2:=kf BK250.out 2
    have hfz8_3:=kf BK250.out 3
    have hcz9_0:w5.cell? ⟨gb251,0,none⟩=some (.string a1_0):=(kc BK251.out 0).trans rfl
    have hcz9_1:w5.cell? ⟨gb251,1,none⟩=some (.int .i64 a1_1):=(kc BK251.out 1).trans rfl
    have hcz9_2:w5.cell? ⟨gb251,2,none⟩=some (.int .i64 a1_2):=(kc BK251.out 2).trans rfl
    have hcz9_3:w5.cell? ⟨gb251,3,none⟩=some (.string a1_3):=(kc BK251.out 3).trans rfl
    have hfz9_0:=kf BK251.out 0
    have hfz9_1:=kf BK251.out 1
    have hfz9_2:=kf BK251.out 2
    have hfz9_3:=kf BK251.out 3
    go_wp2
    go_meet
    case rel=>exact ⟨_,(true),(by first|rfl|(simp;done)|(simp [*];done)),H',⟨by first|omega|exact Nat.le_refl _⟩,⟨by (with_reducible repeat (first|refine kdN ?_ _|refine kd ?_|refine ka ?_ _));exact BK250.out⟩,⟨by (with_reducible repeat (first|refine kdN ?_ _|refine kd ?_|refine ka ?_ _));exact BK251.out⟩,⟨by repeat (first|(with_reducible first|exact HB.out|apply bwa|apply pbN|apply bw1|refine bws ?_ GE250.out|refine bws ?_ GE251.out)|exact HB.out)⟩⟩
  rw [if_neg c6] at H
  have c6b0:(Op.bytesLess a0_0.toList a1_0.toList)=false:=by simpa using c6
  clear c6
  (first|rw [c6b0]|(simp only [i64_w,i32_w];rw [c6b0])|rw [c6b1]|skip)
  by_cases c10:a0_0.toList=a1_0.toList
  rotate_left
  · rw [if_neg c10] at H
    have c10b0:(a0_0.toList == a1_0.toList)=false:=beq_eq_false_iff_ne.mpr c10
    have c10b1:(a0_0.toList != a1_0.toList)=true:=bne_iff_ne.mpr c10
    have H':=AsZ.mk H
    clear H
    have hnb14:=NB250_251.out
    have hnc14:=NB251_250.out
    have hcz15_0:w5.cell? ⟨gb250,0,none⟩=some (.string a0_0):=(kc BK250.out 0).trans rfl
    have hcz15_1:w5.cell? ⟨gb250,1,none⟩=some (.int .i64 a0_1):=(kc BK250.out 1).trans rfl
    have hcz15_2:w5.cell? ⟨gb250,2,none⟩=some (.int .i64 a0_2):=(kc BK250.out 2).trans rfl
    have hcz15_3:w5.cell? ⟨gb250,3,none⟩=some (.string a0_3):=(kc BK250.out 3).trans rfl
    have hfz15_0:=kf BK250.out 0
    have hfz15_1:=kf BK250.out 1
    have hfz15_2:=kf BK250.out 2
    have hfz15_3:=kf BK250.out 3
    have hcz16_0:w5.cell? ⟨gb251,0,none⟩=some (.string a1_0):=(kc BK251.out 0).trans rfl
    have hcz16_1:w5.cell? ⟨gb251,1,none⟩=some (.int .i64 a1_1):=(kc BK251.out 1).trans rfl
    have hcz16_2:w5.cell? ⟨gb251,2,none⟩=some (.int .i64 a1_2):=(kc BK251.out 2).trans rfl
    have hcz16_3:w5.cell? ⟨gb251,3,none⟩=some (.string a1_3):=(kc BK251.out 3).trans rfl
    have hfz16_0:=kf BK251.out 0
    have hfz16_1:=kf BK251.out 1
    have hfz16_2:=kf BK251.out 2
    have hfz16_3:=kf BK251.out 3
    go_wp2
    go_meet
    case rel=>exact ⟨_,(false),(by first|rfl|(simp;done)|(simp [*];done)),H',⟨by first|omega|exact Nat.le_refl _⟩,⟨by (with_reducible repeat (first|refine kdN ?_ _|refine kd ?_|refine ka ?_ _));exact BK250.out⟩,⟨by (with_reducible repeat (first|refine kdN ?_ _|refine kd ?_|refine ka ?_ _));exact BK251.out⟩,⟨by repeat (first|(with_reducible first|exact HB.out|apply bwa|apply pbN|apply bw1|refine bws ?_ GE250.out|refine bws ?_ GE251.out)|exact HB.out)⟩⟩
  rw [if_pos c10] at H
  have c10b0:(a0_0.toList == a1_0.toList)=true:=beq_iff_eq.mpr c10
  have c10b1:(a0_0.toList != a1_0.toList)=false:=bne_eq_false_iff_eq.mpr c10
  clear c10
  have H':=AsZ.mk H
  clear H
  have hnb11:=NB250_251.out
  have hnc11:=NB251_250.out
  have hcz12_0:w5.cell? ⟨gb250,0,none⟩=some (.string a0_0):=(kc BK250.out 0).trans rfl
  have hcz12_1:w5.cell? ⟨gb250,1,none⟩=some (.int .i64 a0_1):=(kc BK250.out 1).trans rfl
  have hcz12_2:w5.cell? ⟨gb250,2,none⟩=some (.int .i64 a0_2):=(kc BK250.out 2).trans rfl
  have hcz12_3:w5.cell? ⟨gb250,3,none⟩=some (.string a0_3):=(kc BK250.out 3).trans rfl
  have hfz12_0:=kf BK250.out 0
  have hfz12_1:=kf BK250.out 1
  have hfz12_2:=kf BK250.out 2
  have hfz12_3:=kf BK250.out 3
  have hcz13_0:w5.cell? ⟨gb251,0,none⟩=some (.string a1_0):=(kc BK251.out 0).trans rfl
  have hcz13_1:w5.cell? ⟨gb251,1,none⟩=some (.int .i64 a1_1):=(kc BK251.out 1).trans rfl
  have hcz13_2:w5.cell? ⟨gb251,2,none⟩=some (.int .i64 a1_2):=(kc BK251.out 2).trans rfl
  have hcz13_3:w5.cell? ⟨gb251,3,none⟩=some (.string a1_3):=(kc BK251.out 3).trans rfl
  have hfz13_0:=kf BK251.out 0
  have hfz13_1:=kf BK251.out 1
  have hfz13_2:=kf BK251.out 2
  have hfz13_3:=kf BK251.out 3
  go_wp2
  go_meet
  case rel=>exact ⟨_,(decide (a0_1 > a1_1)),(by first|rfl|(simp;done)|(simp [*];done)),H',⟨by first|omega|exact Nat.le_refl _⟩,⟨by (with_reducible repeat (first|refine kdN ?_ _|refine kd ?_|refine ka ?_ _));exact BK250.out⟩,⟨by (with_reducible repeat (first|refine kdN ?_ _|refine kd ?_|refine ka ?_ _));exact BK251.out⟩,⟨by repeat (first|(with_reducible first|exact HB.out|apply bwa|apply pbN|apply bw1|refine bws ?_ GE250.out|refine bws ?_ GE251.out)|exact HB.out)⟩⟩
 case rest =>
  clear HC3
  try clear c1
  try clear p2
  try clear c4
  try clear c6
  try clear c6b0
  try clear c6b1
  try clear c7
  try clear c10
  try clear c10b0
  try clear c10b1
  try clear c11
  try clear c14
  try clear hcz12_0
  try clear hcz12_1
  try clear hcz12_2
  try clear hcz12_3
  try clear hcz13_0
  try clear hcz13_1
  try clear hcz13_2
  try clear hcz13_3
  try clear hcz15_0
  try clear hcz15_1
  try clear hcz15_2
  try clear hcz15_3
  try clear hcz16_0
  try clear hcz16_1
  try clear hcz16_2
  try clear hcz16_3
  try clear hcz8_0
  try clear hcz8_1
  try clear hcz8_2
  try clear hcz8_3
  try clear hcz9_0
  try clear hcz9_1
  try clear hcz9_2
  try clear hcz9_3
  try clear hfz12_0
  try clear hfz12_1
  try clear hfz12_2
  try clear hfz12_3
  try clear hfz13_0
  try clear hfz13_1
  try clear hfz13_2
  try clear hfz13_3
  try clear hfz15_0
  try clear hfz15_1
  try clear hfz15_2
  try clear hfz15_3
  try clear hfz16_0
  try clear hfz16_1
  try clear hfz16_2
  try clear hfz16_3
  try clear hfz8_0
  try clear hfz8_1
  try clear hfz8_2
  try clear hfz8_3
  try clear hfz9_0
  try clear hfz9_1
  try clear hfz9_2
  try clear hfz9_3
  obtain ⟨kq,x5_2,rfl,HA,HJ2,BK250,BK251,HB⟩:=hcut
  cases kq with
  |zero=>exact absurd HA.out (by simp [spec_l4Compare.j0])
  |succ kj2 =>
   have H:=HA.out
   clear HA
   simp only [spec_l4Compare.j0] at H
   by_cases c17:x5_2=true
   · subst c17
     have H1:(some (-1))=some r:=by rw [if_pos rfl] at H;exact H
     clear H
     have H:=H1
     clear H1
     obtain rfl:=zI H
     go_wp2
     go_ret
     exact ⟨by first|rfl|(simp [errW_none,errW_some]<;>rfl)|(simp [*,errW_none,errW_some]<;>rfl),by repeat (first|(with_reducible first|exact HB.out|apply bwa|apply pbN|apply bw1|refine bws ?_ GE250.out|refine bws ?_ GE251.out)|exact HB.out)⟩
   replace c17:=Bool.eq_false_iff.mpr c17
   subst c17
   have H1:(if a0_0.toList=a1_0.toList then (spec_l4Compare.j1 kj2 (a0_1 == a1_1)) else (spec_l4Compare.j1 kj2 false))=some r:=by rw [if_neg (show ¬ (false=true) by decide)] at H;exact H
   clear H
   have H:=H1
   clear H1
   have HC18:=AsZ.mk H
   clear H
   go_upto_region 3 with (fail)
   go_cut [25] (fun v25 wc => ∃ (kq:Nat) (x25_17:Bool),v25 = .bool x25_17∧AsZ (spec_l4Compare.j1 kq x25_17=some r)∧AsZ (kq≤kj2)∧AsZ (wc.heap[gb250]? = some (.cells #[.string a0_0,.int .i64 a0_1,.int .i64 a0_2,.string a0_3] 28 (0,0)))∧AsZ (wc.heap[gb251]? = some (.cells #[.string a1_0,.int .i64 a1_1,.int .i64 a1_2,.string a1_3] 28 (0,0)))∧AsZ (Below w.heap.size w wc))
   case first =>
    have H:=HC18.out
    clear HC18
    by_cases c19:a0_0.toList=a1_0.toList
    rotate_left
    · rw [if_neg c19] at H
      have c19b0:(a0_0.toList == a1_0.toList)=false:=beq_eq_false_iff_ne.mpr c19
      have c19b1:(a0_0.toList != a1_0.toList)=true:=bne_iff_ne.mpr c19
      (first|rw [c19b0]|(simp only [i64_w,i32_w];rw [c19b0])|rw [c19b1]|skip)
      have H':=AsZ.mk H
      clear H
      have hnb23:=NB250_251.out
      have hnc23:=NB251_250.out
      have hcz24_0:wc.cell? ⟨gb250,0,none⟩=some (.string a0_0):=(kc BK250.out 0).trans rfl
      have hcz24_1:wc.cell? ⟨gb250,1,none⟩=some (.int .i64 a0_1):=(kc BK250.out 1).trans rfl
      have hcz24_2:wc.cell? ⟨gb250,2,none⟩=some (.int .i64 a0_2):=(kc BK250.out 2).trans rfl
      have hcz24_3:wc.cell? ⟨gb250,3,none⟩=some (.string a0_3):=(kc BK250.out 3).trans rfl
      have hfz24_0:=kf BK250.out 0
      have hfz24_1:=kf BK250.out 1
      have hfz24_2:=kf BK250.out 2
      have hfz24_3:=kf BK250.out 3
      have hcz25_0:wc.cell? ⟨gb251,0,none⟩=some (.string a1_0):=(kc BK251.out 0).trans rfl
      have hcz25_1:wc.cell? ⟨gb251,1,none⟩=some (.int .i64 a1_1):=(kc BK251.out 1).trans rfl
      have hcz25_2:wc.cell? ⟨gb251,2,none⟩=some (.int .i64 a1_2):=(kc BK251.out 2).trans rfl
      have hcz25_3:wc.cell? ⟨gb251,3,none⟩=some (.string a1_3):=(kc BK251.out 3).trans rfl
      have hfz25_0:=kf BK251.out 0
      have hfz25_1:=kf BK251.out 1
      have hfz25_2:=kf BK251.out 2
      have hfz25_3:=kf BK251.out 3
      go_wp2
      go_meet
      case rel=>exact ⟨_,(false),(by first|rfl|(simp;done)|(simp [*];done)),H',⟨by have:=HJ2.out;first|omega|exact Nat.le_refl _⟩,⟨by (with_reducible repeat (first|refine kdN ?_ _|refine kd ?_|refine ka ?_ _));exact BK250.out⟩,⟨by (with_reducible repeat (first|refine kdN ?_ _|refine kd ?_|refine ka ?_ _));exact BK251.out⟩,⟨by repeat (first|(with_reducible first|exact HB.out|apply bwa|apply pbN|apply bw1|refine bws ?_ GE250.out|refine bws ?_ GE251.out)|exact HB.out)⟩⟩
    rw [if_pos c19] at H
    have c19b0:(a0_0.toList == a1_0.toList)=true:=beq_iff_eq.mpr c19
    have c19b1:(a0_0.toList != a1_0.toList)=false:=bne_eq_false_iff_eq.mpr c19
    clear c19
    (first|rw [c19b0]|(simp only [i64_w,i32_w];rw [c19b0])|rw [c19b1]|skip)
    have H':=AsZ.mk H
    clear H
    have hnb20:=NB250_251.out
    have hnc20:=NB251_250.out
    have hcz21_0:wc.cell? ⟨gb250,0,none⟩=some (.string a0_0):=(kc BK250.out 0).trans rfl
    have hcz21_1:wc.cell? ⟨gb250,1,none⟩=some (.int .i64 a0_1):=(kc BK250.out 1).trans rfl
    have hcz21_2:wc.cell? ⟨gb250,2,none⟩=some (.int .i64 a0_2):=(kc BK250.out 2).trans rfl
    have hcz21_3:wc.cell? ⟨gb250,3,none⟩=some (.string a0_3):=(kc BK250.out 3).trans rfl
    have hfz21_0:=kf BK250.out 0
    have hfz21_1:=kf BK250.out 1
    have hfz21_2:=kf BK250.out 2
    have hfz21_3:=kf BK250.out 3
    have hcz22_0:wc.cell? ⟨gb251,0,none⟩=some (.string a1_0):=(kc BK251.out 0).trans rfl
    have hcz22_1:wc.cell? ⟨gb251,1,none⟩=some (.int .i64 a1_1):=(kc BK251.out 1).trans rfl
    have hcz22_2:wc.cell? ⟨gb251,2,none⟩=some (.int .i64 a1_2):=(kc BK251.out 2).trans rfl
    have hcz22_3:wc.cell? ⟨gb251,3,none⟩=some (.string a1_3):=(kc BK251.out 3).trans rfl
    have hfz22_0:=kf BK251.out 0
    have hfz22_1:=kf BK251.out 1
    have hfz22_2:=kf BK251.out 2
    have hfz22_3:=kf BK251.out 3
    go_wp2
    go_meet
    case rel=>exact ⟨_,((a0_1 == a1_1)),(by first|rfl|(simp;done)|(simp [*];done)),H',⟨by have:=HJ2.out;first|omega|exact Nat.le_refl _⟩,⟨by (with_reducible repeat (first|refine kdN ?_ _|refine kd ?_|refine ka ?_ _));exact BK250.out⟩,⟨by (with_reducible repeat (first|refine kdN ?_ _|refine kd ?_|refine ka ?_ _));exact BK251.out⟩,⟨by repeat (first|(with_reducible first|exact HB.out|apply bwa|apply pbN|apply bw1|refine bws ?_ GE250.out|refine bws ?_ GE251.out)|exact HB.out)⟩⟩
   case rest =>
    clear HC18
    try clear c1
    try clear c2
    try clear p2
    try clear c4
    try clear c6
    try clear c6b0
    try clear c6b1
    try clear c7
    try clear c10
    try clear c10b0
    try clear c10b1
    try clear c11
    try clear c14
    try clear c17
    try clear c19
    try clear c19b0
    try clear c19b1
    try clear c20
    try clear c23
    try clear hcz12_0
    try clear hcz12_1
    try clear hcz12_2
    try clear hcz12_3
    try clear hcz13_0
    try clear hcz13_1
    try clear hcz13_2
    try clear hcz13_3
    try clear hcz15_0
    try clear hcz15_1
    try clear hcz15_2
    try clear hcz15_3
    try clear hcz16_0
    try clear hcz16_1
    try clear hcz16_2
    try clear hcz16_3
    try clear hcz21_0
    try clear hcz21_1
    try clear hcz21_2
    try clear hcz21_3
    try clear hcz22_0
    try clear hcz22_1
    try clear hcz22_2
    try clear hcz22_3
    try clear hcz24_0
    try clear hcz24_1
    try clear hcz24_2
    try clear hcz24_3
    try clear hcz25_0
    try clear hcz25_1
    try clear hcz25_2
    try clear hcz25_3
    try clear hcz8_0
    try clear hcz8_1
    try clear hcz8_2
    try clear hcz8_3
    try clear hcz9_0
    try clear hcz9_1
    try clear hcz9_2
    try clear hcz9_3
    try clear hfz12_0
    try clear hfz12_1
    try clear hfz12_2
    try clear hfz12_3
    try clear hfz13_0
    try clear hfz13_1
    try clear hfz13_2
    try clear hfz13_3
    try clear hfz15_0
    try clear hfz15_1
    try clear hfz15_2
    try clear hfz15_3
    try clear hfz16_0
    try clear hfz16_1
    try clear hfz16_2
    try clear hfz16_3
    try clear hfz21_0
    try clear hfz21_1
    try clear hfz21_2
    try clear hfz21_3
    try clear hfz22_0
    try clear hfz22_1
    try clear hfz22_2
    try clear hfz22_3
    try clear hfz24_0
    try clear hfz24_1
    try clear hfz24_2
    try clear hfz24_3
    try clear hfz25_0
    try clear hfz25_1
    try clear hfz25_2
    try clear hfz25_3
    try clear hfz8_0
    try clear hfz8_1
    try clear hfz8_2
    try clear hfz8_3
    try clear hfz9_0
    try clear hfz9_1
    try clear hfz9_2
    try clear hfz9_3
    try clear p2
    obtain ⟨kq,x25_17,rfl,HA,HJ17,BK250,BK251,HB⟩:=hcut
    cases kq with
    |zero=>exact absurd HA.out (by simp [spec_l4Compare.j1])
    |succ kj17 =>
     have H:=HA.out
     clear HA
     simp only [spec_l4Compare.j1] at H
     by_cases c26:x25_17=true
     · subst c26
       have H1:(some 0)=some r:=by rw [if_pos rfl] at H;exact H
       clear H
       have H:=H1
       clear H1
       obtain rfl:=zI H
       go_wp2
       go_ret
       exact ⟨by first|rfl|(simp [errW_none,errW_some]<;>rfl)|(simp [*,errW_none,errW_some]<;>rfl),by repeat (first|(with_reducible first|exact HB.out|apply bwa|apply pbN|apply bw1|refine bws ?_ GE250.out|refine bws ?_ GE251.out)|exact HB.out)⟩
     replace c26:=Bool.eq_false_iff.mpr c26
     subst c26
     have H1:(some 1)=some r:=by rw [if_neg (show ¬ (false=true) by decide)] at H;exact H
     clear H
     have H:=H1
     clear H1
     obtain rfl:=zI H
     go_wp2
     go_ret
     exact ⟨by first|rfl|(simp [errW_none,errW_some]<;>rfl)|(simp [*,errW_none,errW_some]<;>rfl),by repeat (first|(with_reducible first|exact HB.out|apply bwa|apply pbN|apply bw1|refine bws ?_ GE250.out|refine bws ?_ GE251.out)|exact HB.out)⟩
end Go.Proofs.YtffjlpphcjfdgaaDoor.MFnExactFindSkip
