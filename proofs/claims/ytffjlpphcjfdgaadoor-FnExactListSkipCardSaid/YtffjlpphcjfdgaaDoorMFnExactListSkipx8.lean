-- Written by a program of this session out of the translation. Not trusted: Lean checks it.
import Derived.Test.YtffjlpphcjfdgaaDoorDFnExactListSkipx8
namespace Go.Proofs.YtffjlpphcjfdgaaDoor.MFnExactListSkip
-- short
-- shrunk
-- TAB
-- RD
open Go.Proofs.YtffjlpphcjfdgaaDoor Go.RowKit Go.Proofs.YtffjlpphcjfdgaaDoorW.PrintWords Go.Proofs.YtffjlpphcjfdgaaDoorW.PrintLast Go.Proofs.YtffjlpphcjfdgaaDoorW.PrintMore Go.Proofs.YtffjlpphcjfdgaaDoorX
attribute [local go_sem] max2_int min2_int max_two min_two max_three min_three max_four min_four str_gtr str_leq str_geq cell_twice
set_option linter.unusedVariables false
set_option linter.unusedSimpArgs false
set_option maxHeartbeats 8000000 in
set_option maxRecDepth 100000 in
theorem spec_GoodSkip.calls (k:Nat) (A0_0:Option Addr) (c0_0:Nat) (l0_0:List Int) (A0_1:Option Addr) (c0_1:Nat) (l0_1:List (S77)) (r:Bool) (w:World) (hr0_0:Kd.C (Kd.int .i64) w A0_0 l0_0.length l0_0) (hc0_0:l0_0.length≤c0_0) (hr0_1:Kd.C k77 w A0_1 l0_1.length l0_1) (hc0_1:l0_1.length≤c0_1) (h:spec_GoodSkip.f k l0_0 l0_1=some r) :
    Calls Tryd.prog 30 #[.agg #[.slice A0_0 l0_0.length c0_0,.slice A0_1 l0_1.length c0_1]] w fun e w'=>e = .returned (.bool r)∧Below w.heap.size w w':=by
 have hu26:=Tryd.underlying26
 have hu77:=Tryd.underlying77
 have hu28:=Tryd.underlying28
 have HR0_0:=AsZ.mk hr0_0
 have HC0_0:=AsZ.mk hc0_0
 clear hr0_0 hc0_0
 have HR0_1:=AsZ.mk hr0_1
 have HC0_1:=AsZ.mk hc0_1
 clear hr0_1 hc0_1
 have HB:=AsZ.mk (Below.refl w.heap.size w)
 have H:(if (l0_0.length:Int)=5 then (spec_GoodSkip.j0 k (decide ((l0_1.length:Int) > 60)) l0_0 l0_1) else (spec_GoodSkip.j0 k true l0_0 l0_1))=some r:=h
 clear h
 have HC2:=AsZ.mk H
 clear H
 go_enter Tryd.func30,Tryd.ntmps30
 go_upto_region 1 with (first|((with_reducible refine gate_dst (N:=1) rfl ?_);(try (refine gate_guard (by rfl) ?_;dsimp only));refine box_event ?hg (N:=1) ?hd (cs:=#[.slice A0_0 l0_0.length c0_0,.slice A0_1 l0_1.length c0_1]) (t:=26) ?hr ?_;(case hd=>rfl);(case hg=>rfl);(case hr=>first|(go_simp;done)|(go_simp;rfl));intro gb201 hg w3 hbox hb;have n0_:=AsZ.mk (bwp (by repeat (first|(with_reducible first|exact HB.out|apply bwa|apply pbN|apply bw1)|exact HB.out)) hb);have n1_:=AsZ.mk (hbox);have n2_:=AsZ.mk ((by rw [hg];exact (bwz (by repeat (first|(with_reducible first|exact HB.out|apply bwa|apply pbN|apply bw1)|exact HB.out))):w.heap.size≤gb201));have n3_:=AsZ.mk ((by rw [hg];exact (bwz (by repeat (first|(with_reducible first|exact HB.out|apply bwa|apply pbN|apply bw1)|exact HB.out))):w.heap.size≤gb201));clear HB;have HB:=n0_;have BK201:=n1_;have GW201:=n2_;have GE201:=n3_;clear n0_ n1_ n2_ n3_;clear hb hbox hg))
 (try simp only [Act.put,zS,zT,zU])
 go_cut [23] (fun v23 wc => ∃ (kq:Nat) (x23_1:Bool),v23 = .bool x23_1∧AsZ (spec_GoodSkip.j0 kq x23_1 l0_0 l0_1=some r)∧AsZ (kq≤k)∧AsZ (wc.heap[gb201]? = some (.cells #[(.slice A0_0 l0_0.length c0_0),(.slice A0_1 l0_1.length c0_1)] 26 (0,0)))∧AsZ (Below w.heap.size w wc))
 case first =>
  have H:=HC2.out
  clear HC2
  by_cases c4:(l0_0.length:Int)=5
  rotate_left
  · rw [if_neg c4] at H
    have c4b0:((l0_0.length:Int) == 5)=false:=beq_eq_false_iff_ne.mpr c4
    have c4b1:((l0_0.length:Int) != 5)=true:=bne_iff_ne.mpr c4
    (first|rw [c4b0]|(simp only [i64_w,i32_w];rw [c4b0])|rw [c4b1]|skip)
    have H':=AsZ.mk H
    clear H
    have hcz6_0:w3.cell? ⟨gb201,0,none⟩=some (.slice A0_0 l0_0.length c0_0):=(kc BK201.out 0).trans rfl
    have hcz6_1:w3.cell? ⟨gb201,1,none⟩=some (.slice A0_1 l0_1.length c0_1):=(kc BK201.out 1).trans rfl
    have hfz6_0:=kf BK201.out 0
    have hfz6_1:=kf BK201.out 1
    go_wp2
    go_meet
    case rel=>exact ⟨_,(true),(by first|rfl|(simp;done)|(simp [*];done)),H',⟨by first|omega|exact Nat.le_refl _⟩,⟨by (with_reducible repeat (first|refine kdN ?_ _|refine kd ?_|refine ka ?_ _));exact BK201.out⟩,⟨by repeat (first|(with_reducible first|exact HB.out|apply bwa|apply pbN|apply bw1|refine bws ?_ GE201.out)|exact HB.out)⟩⟩
  rw [if_pos c4] at H
  have c4b0:((l0_0.length:Int) == 5)=true:=beq_iff_eq.mpr c4
  have c4b1:((l0_0.length:Int) != 5)=false:=bne_eq_false_iff_eq.mpr c4
  clear c4
  (first|rw [c4b0]|(simp only [i64_w,i32_w];rw [c4b0])|rw [c4b1]|skip)
  have H':=AsZ.mk H
  clear H
  have hcz5_0:w3.cell? ⟨gb201,0,none⟩=some (.slice A0_0 l0_0.length c0_0):=(kc BK201.out 0).trans rfl
  have hcz5_1:w3.cell? ⟨gb201,1,none⟩=some (.slice A0_1 l0_1.length c0_1):=(kc BK201.out 1).trans rfl
  have hfz5_0:=kf BK201.out 0
  have hfz5_1:=kf BK201.out 1
  go_wp2
  go_meet
  case rel=>exact ⟨_,(decide ((l0_1.length:Int) > 60)),(by first|rfl|(simp;done)|(simp [*];done)),H',⟨by first|omega|exact Nat.le_refl _⟩,⟨by (with_reducible repeat (first|refine kdN ?_ _|refine kd ?_|refine ka ?_ _));exact BK201.out⟩,⟨by repeat (first|(with_reducible first|exact HB.out|apply bwa|apply pbN|apply bw1|refine bws ?_ GE201.out)|exact HB.out)⟩⟩
 case rest =>
  clear HC2
  try clear p2
  try clear c3
  try clear c4
  try clear c4b0
  try clear c4b1
  try clear hcz5_0
  try clear hcz5_1
  try clear hcz6_0
  try clear hcz6_1
  try clear hfz5_0
  try clear hfz5_1
  try clear hfz6_0
  try clear hfz6_1
  obtain ⟨kq,x23_1,rfl,HA,HJ1,BK201,HB⟩:=hcut
  cases kq with
  |zero=>exact absurd HA.out (by simp [spec_GoodSkip.j0])
  |succ kj1 =>
   have H:=HA.out
   clear HA
   simp only [spec_GoodSkip.j0] at H
   by_cases c7:x23_1=true
   · subst c7
     have H1:(some false)=some r:=by rw [if_pos rfl] at H;exact H
     clear H
     have H:=H1
     clear H1
     obtain rfl:=zI H
     go_wp2
     go_ret
     exact ⟨by first|rfl|(simp [errW_none,errW_some]<;>rfl)|(simp [*,errW_none,errW_some]<;>rfl),by repeat (first|(with_reducible first|exact HB.out|apply bwa|apply pbN|apply bw1|refine bws ?_ GE201.out)|exact HB.out)⟩
   replace c7:=Bool.eq_false_iff.mpr c7
   subst c7
   have H1:((spec_l2Table.f kj1).bind fun t202=>(if 5≤35184372088832 then (spec_GoodSkip.l0 kj1 t202 (List.replicate 5 0) l0_1 (l0_1.length:Int) 0 l0_0 l0_1) else (none)))=some r:=by rw [if_neg (show ¬ (false=true) by decide)] at H;exact H
   clear H
   have H:=H1
   clear H1
   replace H:=Option.bind_eq_some_iff.mp H
   obtain ⟨t202,A80,H⟩:=H
   replace H:(if 5≤35184372088832 then (spec_GoodSkip.l0 kj1 t202 (List.replicate 5 0) l0_1 (l0_1.length:Int) 0 l0_0 l0_1) else (none))=some r:=H
   have A8:=AsZ.mk A80
   clear A80
   by_cases c9:5≤35184372088832
   rotate_left
   · rw [if_neg c9] at H
     exact absurd H (by simp)
   rw [if_pos c9] at H
   have c9b0:=eq_true c9
   have c9b1:decide (5≤35184372088832)=true:=zE c9
   clear c9
   obtain ⟨y205,hy205⟩:∃ y_:List Int,y_=(List.replicate 5 0):=⟨_,rfl⟩
   replace H:(spec_GoodSkip.l0 kj1 t202 y205 l0_1 (l0_1.length:Int) 0 l0_0 l0_1)=some r:=by first|(rw [hy205];with_reducible exact H)|(have H2_:=(Option.bind_some _ _).symm.trans H;rw [hy205];with_reducible exact H2_)|(have H2_:=(Option.bind_some _ _).symm.trans H;with_reducible exact H2_)|with_reducible exact H|(rw [hy205];exact H)|exact H
   have Ny205:=AsZ.mk hy205
   clear hy205
   have H':=AsZ.mk H
   clear H
   go_wp2_with (first|((with_reducible refine gcl (f:=56) rfl ?_);refine goesL_ (some 24) rfl rfl Tryd.func56 (by kernel_rfl) rfl #[] rfl (by (try simp only [zA,zC,zN]);first|done|rfl|(simp only [zM,zL];rfl)) ?_;(with_reducible refine (spec_l2Table.calls kj1  t202 _ A8.out).mono ?_);rintro e w10 ⟨v203,rfl,ho0,hb⟩;refine ⟨_,rfl,?_⟩;have n0_:=AsZ.mk (Kd.R_lower ho0 (bwz (by repeat (first|(with_reducible first|exact HB.out|apply bwa|apply pbN|apply bw1|refine bws ?_ GE201.out)|exact HB.out))));have n1_:=AsZ.mk (kb (g:=gb201) (o := .cells #[.slice A0_0 l0_0.length c0_0,.slice A0_1 l0_1.length c0_1] 26 (0,0)) (by (with_reducible repeat (first|refine kdN ?_ _|refine kd ?_|refine ka ?_ _));exact BK201.out) hb);have n2_:=AsZ.mk (bwp (by repeat (first|(with_reducible first|exact HB.out|apply bwa|apply pbN|apply bw1|refine bws ?_ GE201.out)|exact HB.out)) hb);clear BK201;clear HB;have HO204:=n0_;have BK201:=n1_;have HB:=n2_;clear n0_ n1_ n2_;(try clear hb);(try clear hb2);(try clear hk);(try clear hi);(try clear ho0))|((with_reducible refine gate_dst (N:=25) rfl ?_);(try (refine gate_guard (by rfl) ?_;dsimp only));refine Kd.R_make (Kd.int .i64) _ 3 rfl (N:=25) rfl 23 _ _ rfl 5 rfl rfl Tryd.underlying23 (.int .i64 0) 8 info3 rfl (by decide) (by omega) 0 (ok:=fun _=>True) (okp:=fun _=>True) rfl (fun _ hk=>hk) trivial (by omega) (by omega) (Below.refl _ _) (Nat.le_refl _) ?_;intro v206 w11 ho12 hb hg_ hnew_;clear hg_ hnew_;(first|rw [← Ny205.out] at ho12|(simp only [Int.reduceToNat] at ho12;rw [← Ny205.out] at ho12));have n0_:=AsZ.mk (Kd.R_below (by (with_reducible repeat (first|apply Kd.R_alloc|apply Kd.R_drewN|apply Kd.R_drew));exact HO204.out) hb);have n1_:=AsZ.mk (Kd.R_lower ho12 (bwz (by repeat (first|(with_reducible first|exact HB.out|apply bwa|apply pbN|apply bw1|refine bws ?_ GE201.out)|exact HB.out))));have n2_:=AsZ.mk (kb (g:=gb201) (o := .cells #[.slice A0_0 l0_0.length c0_0,.slice A0_1 l0_1.length c0_1] 26 (0,0)) (by (with_reducible repeat (first|refine kdN ?_ _|refine kd ?_|refine ka ?_ _));exact BK201.out) hb);have n3_:=AsZ.mk (bwp (by repeat (first|(with_reducible first|exact HB.out|apply bwa|apply pbN|apply bw1|refine bws ?_ GE201.out)|exact HB.out)) hb);clear HO204;clear BK201;clear HB;have HO204:=n0_;have HO207:=n1_;have BK201:=n2_;have HB:=n3_;clear n0_ n1_ n2_ n3_;clear hb ho12;have hcz13_0:w11.cell? ⟨gb201,0,none⟩=some (.slice A0_0 l0_0.length c0_0):=(kc BK201.out 0).trans rfl;have hcz13_1:w11.cell? ⟨gb201,1,none⟩=some (.slice A0_1 l0_1.length c0_1):=(kc BK201.out 1).trans rfl;have hfz13_0:=kf BK201.out 0;have hfz13_1:=kf BK201.out 1))
   go_loopg [29] kj1 (fun kq v29 w' => ∃ (x4_2:List Int) (x29_2:Int),v29 = .int .i64 x29_2∧AsZ (spec_GoodSkip.l0 kq t202 x4_2 l0_1 (l0_1.length:Int) x29_2 l0_0 l0_1=some r)∧AsZ (kq≤kj1)∧AsZ (Kd.R (Kd.int .u32) 106 w' w.heap.size (fun _=>True) v203 t202)∧AsZ (Kd.R (Kd.int .i64) 3 w' w.heap.size (fun _=>True) v206 x4_2)∧AsZ (w'.heap[gb201]? = some (.cells #[(.slice A0_0 l0_0.length c0_0),(.slice A0_1 l0_1.length c0_1)] 26 (0,0)))∧AsZ (Below w.heap.size w w'))
   case atStart=>exact ⟨(y205),(0),(by first|rfl|(simp;done)|(simp [*];done)),H',⟨Nat.le_refl _⟩,⟨by (with_reducible repeat (first|apply Kd.R_alloc|apply Kd.R_drewN|apply Kd.R_drew));exact HO204.out⟩,⟨by (with_reducible repeat (first|apply Kd.R_alloc|apply Kd.R_drewN|apply Kd.R_drew));exact HO207.out⟩,⟨by (with_reducible repeat (first|refine kdN ?_ _|refine kd ?_|refine ka ?_ _));exact BK201.out⟩,⟨by repeat (first|(with_reducible first|exact HB.out|apply bwa|apply pbN|apply bw1|refine bws ?_ GE201.out)|exact HB.out)⟩⟩
   case round =>
    clear H'
    try clear p2
    try clear c3
    try clear c4
    try clear c4b0
    try clear c4b1
    try clear c5
    try clear c7
    try clear c9
    try clear c9b0
    try clear c9b1
    try clear hcz13_0
    try clear hcz13_1
    try clear hcz5_0
    try clear hcz5_1
    try clear hcz6_0
    try clear hcz6_1
    try clear hfz13_0
    try clear hfz13_1
    try clear hfz5_0
    try clear hfz5_1
    try clear hfz6_0
    try clear hfz6_1
    try clear p2
    obtain ⟨x4_2,x29_2,rfl,HA,HK2,HO_3,HO_4,BK201,HB⟩:=hrel
    cases gk with
    |zero=>exact absurd HA.out (by simp [spec_GoodSkip.l0])
    |succ k2 =>
     have H:=HA.out
     clear HA
     simp only [spec_GoodSkip.l0] at H
     by_cases c14:x29_2 < (l0_1.length:Int)
     · rw [if_pos c14] at H
       have c14b0:decide (x29_2 < (l0_1.length:Int))=true:=zE c14
       clear c14
       by_cases c15:0≤x29_2
       rotate_left
       · rw [if_neg c15] at H
         exact absurd H (by simp)
       rw [if_pos c15] at H
       have c15b0:decide (0≤x29_2)=true:=zE c15
       clear c15
       by_cases c16:x29_2 < (l0_1.length:Int)
       rotate_left
       · rw [if_neg c16] at H
         exact absurd H (by simp)
       rw [if_pos c16] at H
       have c16b0:decide (x29_2 < (l0_1.length:Int))=true:=zE c16
       clear c16
       have HC17:=AsZ.mk H
       clear H
       have p208:0≤(x29_2:Int):=zD (by first|(with_reducible assumption)|assumption)
       have q208:x29_2 < (l0_1.length:Int):=zD (by first|(with_reducible assumption)|assumption)
       obtain ⟨ad208,A208_4,c208_4,e208,hx208_0,hx208_1,hx208_2,hx208_3,hx208_4,hl208_4,hi208_4⟩:=at_T77 HR0_1.out x29_2 p208 q208
       cases e208
       replace hx208_0:=(HB.out.cell (zB w _ hx208_0)).trans hx208_0
       replace hx208_1:=(HB.out.cell (zB w _ hx208_1)).trans hx208_1
       replace hx208_2:=(HB.out.cell (zB w _ hx208_2)).trans hx208_2
       replace hx208_3:=(HB.out.cell (zB w _ hx208_3)).trans hx208_3
       replace hx208_4:=(HB.out.cell (zB w _ hx208_4)).trans hx208_4
       have HR208_4:=AsZ.mk hi208_4
       have HC208_4:=AsZ.mk hl208_4
       clear hi208_4 hl208_4
       replace p208:=eq_true p208
       replace q208:=eq_true q208
       go_upto_region 8 with (first|((with_reducible refine gate_dst (N:=6) rfl ?_);(try (refine gate_guard (by rfl) ?_;dsimp only));refine box_event ?hg (N:=6) ?hd (cs:=#[.string (⟨#[]⟩:ByteArray),.int .i64 0,.int .i64 0,.string (⟨#[]⟩:ByteArray),.slice none 0 0]) (t:=77) ?hr ?_;(case hd=>rfl);(case hg=>rfl);(case hr=>first|(go_simp;done)|(go_simp;rfl));intro gb209 hg w18 hbox hb;have n0_:=AsZ.mk (Kd.R_below (by (with_reducible repeat (first|apply Kd.R_alloc|apply Kd.R_drewN|apply Kd.R_drew));exact HO_3.out) hb);have n1_:=AsZ.mk (Kd.R_below (by (with_reducible repeat (first|apply Kd.R_alloc|apply Kd.R_drewN|apply Kd.R_drew));exact HO_4.out) hb);have n2_:=AsZ.mk (kb (g:=gb201) (o := .cells #[.slice A0_0 l0_0.length c0_0,.slice (some ad208) l0_1.length c0_1] 26 (0,0)) (by (with_reducible repeat (first|refine kdN ?_ _|refine kd ?_|refine ka ?_ _));exact BK201.out) hb);have n3_:=AsZ.mk (bwp (by repeat (first|(with_reducible first|exact HB.out|apply bwa|apply pbN|apply bw1|refine bws ?_ GE201.out)|exact HB.out)) hb);have n4_:=AsZ.mk (hbox);have n5_:=AsZ.mk ((by rw [hg];exact (bwz (by repeat (first|(with_reducible first|exact HB.out|apply bwa|apply pbN|apply bw1|refine bws ?_ GE201.out)|exact HB.out))):w.heap.size≤gb209));have n6_:=AsZ.mk ((by rw [hg];exact (bwz (by repeat (first|(with_reducible first|exact HB.out|apply bwa|apply pbN|apply bw1|refine bws ?_ GE201.out)|exact HB.out))):w.heap.size≤gb209));have n7_:=AsZ.mk ((by rw [hg];exact Nat.ne_of_lt (blk_lt (g:=gb201) (o := .cells #[.slice A0_0 l0_0.length c0_0,.slice (some ad208) l0_1.length c0_1] 26 (0,0)) (by (with_reducible repeat (first|refine kdN ?_ _|refine kd ?_|refine ka ?_ _));exact BK201.out)):gb201 ≠ gb209));have n8_:=AsZ.mk ((by rw [hg];exact Nat.ne_of_gt (blk_lt (g:=gb201) (o := .cells #[.slice A0_0 l0_0.length c0_0,.slice (some ad208) l0_1.length c0_1] 26 (0,0)) (by (with_reducible repeat (first|refine kdN ?_ _|refine kd ?_|refine ka ?_ _));exact BK201.out)):gb209 ≠ gb201));clear HO_3;clear HO_4;clear BK201;clear HB;have HO_3:=n0_;have HO_4:=n1_;have BK201:=n2_;have HB:=n3_;have BK209:=n4_;have GW209:=n5_;have GE209:=n6_;have NB201_209:=n7_;have NB209_201:=n8_;clear n0_ n1_ n2_ n3_ n4_ n5_ n6_ n7_ n8_;clear hb hbox hg;have hnb19:=NB209_201.out;have hnc19:=NB201_209.out;have hcz20_0:w18.cell? ⟨gb209,0,none⟩=some (.string (⟨#[]⟩:ByteArray)):=(kc BK209.out 0).trans rfl;have hcz20_1:w18.cell? ⟨gb209,1,none⟩=some (.int .i64 0):=(kc BK209.out 1).trans rfl;have hcz20_2:w18.cell? ⟨gb209,2,none⟩=some (.int .i64 0):=(kc BK209.out 2).trans rfl;have hcz20_3:w18.cell? ⟨gb209,3,none⟩=some (.string (⟨#[]⟩:ByteArray)):=(kc BK209.out 3).trans rfl;have hcz20_4:w18.cell? ⟨gb209,4,none⟩=some (.slice none 0 0):=(kc BK209.out 4).trans rfl;have hfz20_0:=kf BK209.out 0;have hfz20_1:=kf BK209.out 1;have hfz20_2:=kf BK209.out 2;have hfz20_3:=kf BK209.out 3;have hfz20_4:=kf BK209.out 4))
       (try simp only [Act.put,zS,zT,zU])
       go_cut [51] (fun v51 wc => ∃ (kq:Nat) (x51_16:Bool),v51 = .bool x51_16∧AsZ (spec_GoodSkip.j2 kq t202 x4_2 x29_2 l0_1 (l0_1.length:Int) x29_2 x51_16 l0_0 l0_1 ((rd_T77 l0_1 x29_2).f0.f0) ((rd_T77 l0_1 x29_2).f0.f1) ((rd_T77 l0_1 x29_2).f0.f2) ((rd_T77 l0_1 x29_2).f0.f3) ((rd_T77 l0_1 x29_2).f1)=some r)∧AsZ (kq≤k2)∧AsZ (Kd.R (Kd.int .u32) 106 wc w.heap.size (fun _=>True) v203 t202)∧AsZ (Kd.R (Kd.int .i64) 3 wc w.heap.size (fun _=>True) v206 x4_2)∧AsZ (wc.heap[gb201]? = some (.cells #[(.slice A0_0 l0_0.length c0_0),(.slice (some ad208) l0_1.length c0_1)] 26 (0,0)))∧AsZ (wc.heap[gb209]? = some (.cells #[.string ((rd_T77 l0_1 x29_2).f0.f0),.int .i64 ((rd_T77 l0_1 x29_2).f0.f1),.int .i64 ((rd_T77 l0_1 x29_2).f0.f2),.string ((rd_T77 l0_1 x29_2).f0.f3),(.slice A208_4 ((rd_T77 l0_1 x29_2).f1).length c208_4)] 77 (0,0)))∧AsZ (Below w.heap.size w wc))
       case first =>
        have H:=HC17.out
        clear HC17
        replace H:=Option.bind_eq_some_iff.mp H
        obtain ⟨t210,A210,H⟩:=H
        replace H:(if t210=true then ((spec_l4Tower.f k2 t202 ((rd_T77 l0_1 x29_2).f0.f0) ((rd_T77 l0_1 x29_2).f0.f1)).bind fun t211=>(spec_GoodSkip.j2 k2 t202 x4_2 x29_2 l0_1 (l0_1.length:Int) x29_2 ((((rd_T77 l0_1 x29_2).f1).length:Int) != t211) l0_0 l0_1 ((rd_T77 l0_1 x29_2).f0.f0) ((rd_T77 l0_1 x29_2).f0.f1) ((rd_T77 l0_1 x29_2).f0.f2) ((rd_T77 l0_1 x29_2).f0.f3) ((rd_T77 l0_1 x29_2).f1))) else (spec_GoodSkip.j2 k2 t202 x4_2 x29_2 l0_1 (l0_1.length:Int) x29_2 true l0_0 l0_1 ((rd_T77 l0_1 x29_2).f0.f0) ((rd_T77 l0_1 x29_2).f0.f1) ((rd_T77 l0_1 x29_2).f0.f2) ((rd_T77 l0_1 x29_2).f0.f3) ((rd_T77 l0_1 x29_2).f1)))=some r:=H
        have A21:=AsZ.mk A210
        clear A210
        by_cases c22:t210=true
        rotate_left
        · replace c22:=Bool.eq_false_iff.mpr c22
          subst c22
          have H1:(spec_GoodSkip.j2 k2 t202 x4_2 x29_2 l0_1 (l0_1.length:Int) x29_2 true l0_0 l0_1 ((rd_T77 l0_1 x29_2).f0.f0) ((rd_T77 l0_1 x29_2).f0.f1) ((rd_T77 l0_1 x29_2).f0.f2) ((rd_T77 l0_1 x29_2).f0.f3) ((rd_T77 l0_1 x29_2).f1))=some r:=by rw [if_neg (show ¬ (false=true) by decide)] at H;exact H
          clear H
          have H:=H1
          clear H1
          have H':=AsZ.mk H
          clear H
          try go_wp2
          have n0_:AsZ (Kd.R (Kd.int .u32) 106 (((((w18.setCell ⟨gb209,0,none⟩ (.string ((rd_T77 l0_1 x29_2).f0.f0))).setCell ⟨gb209,1,none⟩ (.int .i64 ((rd_T77 l0_1 x29_2).f0.f1))).setCell ⟨gb209,2,none⟩ (.int .i64 ((rd_T77 l0_1 x29_2).f0.f2))).setCell ⟨gb209,3,none⟩ (.string ((rd_T77 l0_1 x29_2).f0.f3))).setCell ⟨gb209,4,none⟩ (.slice A208_4 ((rd_T77 l0_1 x29_2).f1).length c208_4)) w.heap.size (fun _=>True) v203 t202):=⟨by (with_reducible repeat (first|apply Kd.R_alloc|apply Kd.R_drewN|apply Kd.R_drew));exact Kd.R_mono (Kd.R_far (p:=⟨gb209,4,none⟩) (Kd.R_far (p:=⟨gb209,3,none⟩) (Kd.R_far (p:=⟨gb209,2,none⟩) (Kd.R_far (p:=⟨gb209,1,none⟩) (Kd.R_far (p:=⟨gb209,0,none⟩) (Kd.R_types HO_3.out BK209.out (by decide)) (fun _ hk=>hk.2) (.string ((rd_T77 l0_1 x29_2).f0.f0))) (fun _ hk=>hk.2) (.int .i64 ((rd_T77 l0_1 x29_2).f0.f1))) (fun _ hk=>hk.2) (.int .i64 ((rd_T77 l0_1 x29_2).f0.f2))) (fun _ hk=>hk.2) (.string ((rd_T77 l0_1 x29_2).f0.f3))) (fun _ hk=>hk.2) (.slice A208_4 ((rd_T77 l0_1 x29_2).f1).length c208_4)) (fun _ hk=>trivial)⟩
          have n1_:AsZ (Kd.R (Kd.int .i64) 3 (((((w18.setCell ⟨gb209,0,none⟩ (.string ((rd_T77 l0_1 x29_2).f0.f0))).setCell ⟨gb209,1,none⟩ (.int .i64 ((rd_T77 l0_1 x29_2).f0.f1))).setCell ⟨gb209,2,none⟩ (.int .i64 ((rd_T77 l0_1 x29_2).f0.f2))).setCell ⟨gb209,3,none⟩ (.string ((rd_T77 l0_1 x29_2).f0.f3))).setCell ⟨gb209,4,none⟩ (.slice A208_4 ((rd_T77 l0_1 x29_2).f1).length c208_4)) w.heap.size (fun _=>True) v206 x4_2):=⟨by (with_reducible repeat (first|apply Kd.R_alloc|apply Kd.R_drewN|apply Kd.R_drew));exact Kd.R_mono (Kd.R_far (p:=⟨gb209,4,none⟩) (Kd.R_far (p:=⟨gb209,3,none⟩) (Kd.R_far (p:=⟨gb209,2,none⟩) (Kd.R_far (p:=⟨gb209,1,none⟩) (Kd.R_far (p:=⟨gb209,0,none⟩) (Kd.R_types HO_4.out BK209.out (by decide)) (fun _ hk=>hk.2) (.string ((rd_T77 l0_1 x29_2).f0.f0))) (fun _ hk=>hk.2) (.int .i64 ((rd_T77 l0_1 x29_2).f0.f1))) (fun _ hk=>hk.2) (.int .i64 ((rd_T77 l0_1 x29_2).f0.f2))) (fun _ hk=>hk.2) (.string ((rd_T77 l0_1 x29_2).f0.f3))) (fun _ hk=>hk.2) (.slice A208_4 ((rd_T77 l0_1 x29_2).f1).length c208_4)) (fun _ hk=>trivial)⟩
          have n2_:AsZ ((((((w18.setCell ⟨gb209,0,none⟩ (.string ((rd_T77 l0_1 x29_2).f0.f0))).setCell ⟨gb209,1,none⟩ (.int .i64 ((rd_T77 l0_1 x29_2).f0.f1))).setCell ⟨gb209,2,none⟩ (.int .i64 ((rd_T77 l0_1 x29_2).f0.f2))).setCell ⟨gb209,3,none⟩ (.string ((rd_T77 l0_1 x29_2).f0.f3))).setCell ⟨gb209,4,none⟩ (.slice A208_4 ((rd_T77 l0_1 x29_2).f1).length c208_4)).heap[gb201]? = some (.cells #[.slice A0_0 l0_0.length c0_0,.slice (some ad208) l0_1.length c0_1] 26 (0,0))):=⟨by (with_reducible repeat (first|refine kdN ?_ _|refine kd ?_|refine ka ?_ _));refine blk_far ?_ NB201_209.out _;(with_reducible repeat (first|refine kdN ?_ _|refine kd ?_|refine ka ?_ _));refine blk_far ?_ NB201_209.out _;(with_reducible repeat (first|refine kdN ?_ _|refine kd ?_|refine ka ?_ _));refine blk_far ?_ NB201_209.out _;(with_reducible repeat (first|refine kdN ?_ _|refine kd ?_|refine ka ?_ _));refine blk_far ?_ NB201_209.out _;(with_reducible repeat (first|refine kdN ?_ _|refine kd ?_|refine ka ?_ _));refine blk_far ?_ NB201_209.out _;(with_reducible repeat (first|refine kdN ?_ _|refine kd ?_|refine ka ?_ _));exact BK201.out⟩
          have n3_:AsZ ((((((w18.setCell ⟨gb209,0,none⟩ (.string ((rd_T77 l0_1 x29_2).f0.f0))).setCell ⟨gb209,1,none⟩ (.int .i64 ((rd_T77 l0_1 x29_2).f0.f1))).setCell ⟨gb209,2,none⟩ (.int .i64 ((rd_T77 l0_1 x29_2).f0.f2))).setCell ⟨gb209,3,none⟩ (.string ((rd_T77 l0_1 x29_2).f0.f3))).setCell ⟨gb209,4,none⟩ (.slice A208_4 ((rd_T77 l0_1 x29_2).f1).length c208_4)).heap[gb209]? = some (.cells #[.string ((rd_T77 l0_1 x29_2).f0.f0),.int .i64 ((rd_T77 l0_1 x29_2).f0.f1),.int .i64 ((rd_T77 l0_1 x29_2).f0.f2),.string ((rd_T77 l0_1 x29_2).f0.f3),.slice A208_4 ((rd_T77 l0_1 x29_2).f1).length c208_4] 77 (0,0))):=⟨by (with_reducible repeat (first|refine kdN ?_ _|refine kd ?_|refine ka ?_ _));refine blk_put (cs:=#[.string ((rd_T77 l0_1 x29_2).f0.f0),.int .i64 ((rd_T77 l0_1 x29_2).f0.f1),.int .i64 ((rd_T77 l0_1 x29_2).f0.f2),.string ((rd_T77 l0_1 x29_2).f0.f3),.slice none 0 0]) ?_ 4 _ rfl;(with_reducible repeat (first|refine kdN ?_ _|refine kd ?_|refine ka ?_ _));refine blk_put (cs:=#[.string ((rd_T77 l0_1 x29_2).f0.f0),.int .i64 ((rd_T77 l0_1 x29_2).f0.f1),.int .i64 ((rd_T77 l0_1 x29_2).f0.f2),.string (⟨#[]⟩:ByteArray),.slice none 0 0]) ?_ 3 _ rfl;(with_reducible repeat (first|refine kdN ?_ _|refine kd ?_|refine ka ?_ _));refine blk_put (cs:=#[.string ((rd_T77 l0_1 x29_2).f0.f0),.int .i64 ((rd_T77 l0_1 x29_2).f0.f1),.int .i64 0,.string (⟨#[]⟩:ByteArray),.slice none 0 0]) ?_ 2 _ rfl;(with_reducible repeat (first|refine kdN ?_ _|refine kd ?_|refine ka ?_ _));refine blk_put (cs:=#[.string ((rd_T77 l0_1 x29_2).f0.f0),.int .i64 0,.int .i64 0,.string (⟨#[]⟩:ByteArray),.slice none 0 0]) ?_ 1 _ rfl;(with_reducible repeat (first|refine kdN ?_ _|refine kd ?_|refine ka ?_ _));refine blk_put (cs:=#[.string (⟨#[]⟩:ByteArray),.int .i64 0,.int .i64 0,.string (⟨#[]⟩:ByteArray),.slice none 0 0]) ?_ 0 _ rfl;(with_reducible repeat (first|refine kdN ?_ _|refine kd ?_|refine ka ?_ _));exact BK209.out⟩
          have n4_:AsZ (Below w.heap.size w (((((w18.setCell ⟨gb209,0,none⟩ (.string ((rd_T77 l0_1 x29_2).f0.f0))).setCell ⟨gb209,1,none⟩ (.int .i64 ((rd_T77 l0_1 x29_2).f0.f1))).setCell ⟨gb209,2,none⟩ (.int .i64 ((rd_T77 l0_1 x29_2).f0.f2))).setCell ⟨gb209,3,none⟩ (.string ((rd_T77 l0_1 x29_2).f0.f3))).setCell ⟨gb209,4,none⟩ (.slice A208_4 ((rd_T77 l0_1 x29_2).f1).length c208_4))):=⟨by repeat (first|(with_reducible first|exact HB.out|apply bwa|apply pbN|apply bw1|refine bws ?_ GE201.out|refine bws ?_ GE209.out)|exact HB.out)⟩
          (try clear HO_3)
          (try clear HO_4)
          (try clear BK201)
          (try clear BK209)
          (try clear HB)
          generalize (((((w18.setCell ⟨gb209,0,none⟩ (.string ((rd_T77 l0_1 x29_2).f0.f0))).setCell ⟨gb209,1,none⟩ (.int .i64 ((rd_T77 l0_1 x29_2).f0.f1))).setCell ⟨gb209,2,none⟩ (.int .i64 ((rd_T77 l0_1 x29_2).f0.f2))).setCell ⟨gb209,3,none⟩ (.string ((rd_T77 l0_1 x29_2).f0.f3))).setCell ⟨gb209,4,none⟩ (.slice A208_4 ((rd_T77 l0_1 x29_2).f1).length c208_4))=w29 at n0_ n1_ n2_ n3_ n4_ ⊢
          have HO_3:=n0_
          have HO_4:=n1_
          have BK201:=n2_
          have BK209:=n3_
          have HB:=n4_
          clear n0_ n1_ n2_ n3_ n4_
          have n0_:=AsZ.mk (Kd.R_drew HO_3.out)
          have n1_:=AsZ.mk (Kd.R_drew HO_4.out)
          have n2_:=AsZ.mk (kd BK201.out)
          have n3_:=AsZ.mk (kd BK209.out)
          have n4_:=AsZ.mk (bw1 HB.out)
          clear HO_3 HO_4 BK201 BK209 HB
          have HO_3:=n0_
          have HO_4:=n1_
          have BK201:=n2_
          have BK209:=n3_
          have HB:=n4_
          clear n0_ n1_ n2_ n3_ n4_
          refine start_ (n:=18) (S:=fun w'=>w'.cell? ⟨gb209,0,none⟩=some (.string ((rd_T77 l0_1 x29_2).f0.f0))∧w'.cell? ⟨gb209,1,none⟩=some (.int .i64 ((rd_T77 l0_1 x29_2).f0.f1))∧w'.cell? ⟨gb209,2,none⟩=some (.int .i64 ((rd_T77 l0_1 x29_2).f0.f2))∧w'.cell? ⟨gb209,3,none⟩=some (.string ((rd_T77 l0_1 x29_2).f0.f3))∧w'.cell? ⟨gb209,4,none⟩=some (.slice A208_4 ((rd_T77 l0_1 x29_2).f1).length c208_4)) (ds:=[]) (b_ 0 18) (by kernel_rfl) rfl rfl ⟨(kc BK209.out 0).trans rfl,(kc BK209.out 1).trans rfl,(kc BK209.out 2).trans rfl,(kc BK209.out 3).trans rfl,(kc BK209.out 4).trans rfl⟩ (fun hHeld=>?_);refine with_tabW spec_GoodSkip.tab8 spec_GoodSkip.bits8 (fun HT_ HW_=>?_)
          generalize w29.drew=w30 at HO_3 HO_4 BK201 BK209 HB hHeld ⊢
          refine pure_ (i:=0) (N:=some 34) (v:=?_) (a':=?_) (b_ 1 17) rfl rfl (anO HT_.out (by kernel_rfl)) (fun _ _ _ h=>h) (Or.inl ⟨by rfl,?_⟩) ?_ ?_
          rotate_left
          · intro w'
            go_simp
            with_reducible rfl
          rotate_left
          · simp only [Act.put,zS,zT,zU,i64_w,i32_w]
            rfl
          refine take_ (i:=1) (N:=some 35) (v:=?_) (a':=?_) (b_ 2 16) rfl rfl (tkO HT_.out HW_.out (by kernel_rfl)) (fun _ _ _ h=>h) (Or.inl ⟨by rfl,?_⟩) hHeld ?_ ?_
          rotate_left
          · rintro w' ⟨s0,s1,s2,s3,s4⟩
            go_simp
            with_reducible rfl
          rotate_left
          · simp only [Act.put,zS,zT,zU,i64_w,i32_w]
            rfl
          refine one_ (i:=2) (N:=some 36) (b_ 3 15) rfl rfl (one_of HT_.out (by kernel_rfl)) (by decide) (fun K hK=>?_)
          refine goes_ Tryd.func45 (by kernel_rfl) rfl #[.agg #[.string ((rd_T77 l0_1 x29_2).f0.f0),.int .i64 ((rd_T77 l0_1 x29_2).f0.f1),.int .i64 ((rd_T77 l0_1 x29_2).f0.f2),.string ((rd_T77 l0_1 x29_2).f0.f3)]] (by rfl) rfl rfl (by (try simp only [zA,zC,zN]);first|done|rfl|(simp only [zM,zL];rfl)) ?_
          with_reducible refine (spec_GoodItem.calls ((rd_T77 l0_1 x29_2).f0.f0) ((rd_T77 l0_1 x29_2).f0.f1) ((rd_T77 l0_1 x29_2).f0.f2) ((rd_T77 l0_1 x29_2).f0.f3) false _ A21.out).mono ?_
          rintro e w31 ⟨rfl,hb⟩
          refine ⟨_,rfl,?_⟩
          have n0_:=AsZ.mk (Kd.R_below (by (with_reducible repeat (first|apply Kd.R_alloc|apply Kd.R_drewN|apply Kd.R_drew));exact HO_3.out) hb)
          have n1_:=AsZ.mk (Kd.R_below (by (with_reducible repeat (first|apply Kd.R_alloc|apply Kd.R_drewN|apply Kd.R_drew));exact HO_4.out) hb)
          have n2_:=AsZ.mk (kb (g:=gb201) (o := .cells #[.slice A0_0 l0_0.length c0_0,.slice (some ad208) l0_1.length c0_1] 26 (0,0)) (by (with_reducible repeat (first|refine kdN ?_ _|refine kd ?_|refine ka ?_ _));exact BK201.out) hb)
          have n3_:=AsZ.mk (kb (g:=gb209) (o := .cells #[.string ((rd_T77 l0_1 x29_2).f0.f0),.int .i64 ((rd_T77 l0_1 x29_2).f0.f1),.int .i64 ((rd_T77 l0_1 x29_2).f0.f2),.string ((rd_T77 l0_1 x29_2).f0.f3),.slice A208_4 ((rd_T77 l0_1 x29_2).f1).length c208_4] 77 (0,0)) (by (with_reducible repeat (first|refine kdN ?_ _|refine kd ?_|refine ka ?_ _));exact BK209.out) hb)
          have n4_:=AsZ.mk (bwp (by repeat (first|(with_reducible first|exact HB.out|apply bwa|apply pbN|apply bw1|refine bws ?_ GE201.out|refine bws ?_ GE209.out)|exact HB.out)) hb)
          clear HO_3 HO_4 BK201 BK209 HB
          have HO_3:=n0_
          have HO_4:=n1_
          have BK201:=n2_
          have BK209:=n3_
          have HB:=n4_
          clear n0_ n1_ n2_ n3_ n4_
          (try clear hb)
          (try clear hb2)
          (try clear hk)
          (try clear hi)
          refine hK.out _ _ ⟨(kc BK209.out 0).trans rfl,(kc BK209.out 1).trans rfl,(kc BK209.out 2).trans rfl,(kc BK209.out 3).trans rfl,(kc BK209.out 4).trans rfl⟩ (fun hHeld=>?_)
          clear hK K
          refine norm_ (a':=?_) ?_ ?_
          rotate_left
          · show Act.put _ (some 36) _=_
            simp only [Act.put,zS,zT,zU,i64_w,i32_w]
            rfl
          refine pure_ (i:=3) (N:=some 37) (v:=?_) (a':=?_) (b_ 4 14) rfl rfl (anO HT_.out (by kernel_rfl)) (fun _ _ _ h=>h) (Or.inl ⟨by rfl,?_⟩) ?_ ?_
          rotate_left
          · intro w'
            go_simp
            with_reducible rfl
          rotate_left
          · simp only [Act.put,zS,zT,zU,i64_w,i32_w]
            rfl
          refine pure_ (i:=4) (N:=some 38) (v:=?_) (a':=?_) (b_ 5 13) rfl rfl (anO HT_.out (by kernel_rfl)) (fun _ _ _ h=>h) (Or.inl ⟨by rfl,?_⟩) ?_ ?_
          rotate_left
          · intro w'
            go_simp
            with_reducible rfl
          rotate_left
          · simp only [Act.put,zS,zT,zU,i64_w,i32_w]
            rfl
          refine pure_ (i:=5) (N:=some 39) (v:=undef) (a':=?_) (b_ 6 12) rfl rfl (anO HT_.out (by kernel_rfl)) (fun _ _ _ h=>h) (Or.inr ⟨by rfl,rfl⟩) ?_ ?_
          rotate_left
          · simp only [Act.put,zS,zT,zU,i64_w,i32_w]
            rfl
          refine pure_ (i:=6) (N:=some 40) (v:=undef) (a':=?_) (b_ 7 11) rfl rfl (anO HT_.out (by kernel_rfl)) (fun _ _ _ h=>h) (Or.inr ⟨by rfl,rfl⟩) ?_ ?_
          rotate_left
          · simp only [Act.put,zS,zT,zU,i64_w,i32_w]
            rfl
          refine pure_ (i:=7) (N:=some 41) (v:=undef) (a':=?_) (b_ 8 10) rfl rfl (anO HT_.out (by kernel_rfl)) (fun _ _ _ h=>h) (Or.inr ⟨by rfl,rfl⟩) ?_ ?_
          rotate_left
          · simp only [Act.put,zS,zT,zU,i64_w,i32_w]
            rfl
          refine pure_ (i:=8) (N:=some 42) (v:=undef) (a':=?_) (b_ 9 9) rfl rfl (anO HT_.out (by kernel_rfl)) (fun _ _ _ h=>h) (Or.inr ⟨by rfl,rfl⟩) ?_ ?_
          rotate_left
          · simp only [Act.put,zS,zT,zU,i64_w,i32_w]
            rfl
          refine pure_ (i:=9) (N:=some 43) (v:=undef) (a':=?_) (b_ 10 8) rfl rfl (anO HT_.out (by kernel_rfl)) (fun _ _ _ h=>h) (Or.inr ⟨by rfl,rfl⟩) ?_ ?_
          rotate_left
          · simp only [Act.put,zS,zT,zU,i64_w,i32_w]
            rfl
          refine pure_ (i:=10) (N:=some 44) (v:=undef) (a':=?_) (b_ 11 7) rfl rfl (anO HT_.out (by kernel_rfl)) (fun _ _ _ h=>h) (Or.inr ⟨by rfl,rfl⟩) ?_ ?_
          rotate_left
          · simp only [Act.put,zS,zT,zU,i64_w,i32_w]
            rfl
          refine pure_ (i:=11) (N:=some 45) (v:=undef) (a':=?_) (b_ 12 6) rfl rfl (anO HT_.out (by kernel_rfl)) (fun _ _ _ h=>h) (Or.inr ⟨by rfl,rfl⟩) ?_ ?_
          rotate_left
          · simp only [Act.put,zS,zT,zU,i64_w,i32_w]
            rfl
          refine pure_ (i:=12) (N:=some 46) (v:=undef) (a':=?_) (b_ 13 5) rfl rfl (anO HT_.out (by kernel_rfl)) (fun _ _ _ h=>h) (Or.inr ⟨by rfl,rfl⟩) ?_ ?_
          rotate_left
          · simp only [Act.put,zS,zT,zU,i64_w,i32_w]
            rfl
          refine pure_ (i:=13) (N:=some 47) (v:=undef) (a':=?_) (b_ 14 4) rfl rfl (anO HT_.out (by kernel_rfl)) (fun _ _ _ h=>h) (Or.inr ⟨by rfl,rfl⟩) ?_ ?_
          rotate_left
          · simp only [Act.put,zS,zT,zU,i64_w,i32_w]
            rfl
          refine pure_ (i:=14) (N:=some 48) (v:=undef) (a':=?_) (b_ 15 3) rfl rfl (anO HT_.out (by kernel_rfl)) (fun _ _ _ h=>h) (Or.inr ⟨by rfl,rfl⟩) ?_ ?_
          rotate_left
          · simp only [Act.put,zS,zT,zU,i64_w,i32_w]
            rfl
          refine pure_ (i:=15) (N:=some 49) (v:=undef) (a':=?_) (b_ 16 2) rfl rfl (anO HT_.out (by kernel_rfl)) (fun _ _ _ h=>h) (Or.inr ⟨by rfl,rfl⟩) ?_ ?_
          rotate_left
          · simp only [Act.put,zS,zT,zU,i64_w,i32_w]
            rfl
          refine pure_ (i:=16) (N:=some 50) (v:=undef) (a':=?_) (b_ 17 1) rfl rfl (anO HT_.out (by kernel_rfl)) (fun _ _ _ h=>h) (Or.inr ⟨by rfl,rfl⟩) ?_ ?_
          rotate_left
          · simp only [Act.put,zS,zT,zU,i64_w,i32_w]
            rfl
          refine pure_ (i:=17) (N:=some 51) (v:=?_) (a':=?_) (b_ 18 0) rfl rfl (anO HT_.out (by kernel_rfl)) (fun _ _ _ h=>h) (Or.inl ⟨by rfl,?_⟩) ?_ ?_
          rotate_left
          · intro w'
            go_simp
            with_reducible rfl
          rotate_left
          · simp only [Act.put,zS,zT,zU,i64_w,i32_w]
            rfl
          refine dn_ (dnO HT_.out (by kernel_rfl)) ?_
          try go_wp2
          go_meet
          case rel=>exact ⟨_,(true),(by first|rfl|(simp;done)|(simp [*];done)),H',⟨by have:=HJ1.out;have:=HK2.out;first|omega|exact Nat.le_refl _⟩,⟨by (with_reducible repeat (first|apply Kd.R_alloc|apply Kd.R_drewN|apply Kd.R_drew));exact HO_3.out⟩,⟨by (with_reducible repeat (first|apply Kd.R_alloc|apply Kd.R_drewN|apply Kd.R_drew));exact HO_4.out⟩,⟨by (with_reducible repeat (first|refine kdN ?_ _|refine kd ?_|refine ka ?_ _));exact BK201.out⟩,⟨by (with_reducible repeat (first|refine kdN ?_ _|refine kd ?_|refine ka ?_ _));exact BK209.out⟩,⟨by repeat (first|(with_reducible first|exact HB.out|apply bwa|apply pbN|apply bw1|refine bws ?_ GE201.out|refine bws ?_ GE209.out)|exact HB.out)⟩⟩
        subst c22
        have H1:((spec_l4Tower.f k2 t202 ((rd_T77 l0_1 x29_2).f0.f0) ((rd_T77 l0_1 x29_2).f0.f1)).bind fun t211=>(spec_GoodSkip.j2 k2 t202 x4_2 x29_2 l0_1 (l0_1.length:Int) x29_2 ((((rd_T77 l0_1 x29_2).f1).length:Int) != t211) l0_0 l0_1 ((rd_T77 l0_1 x29_2).f0.f0) ((rd_T77 l0_1 x29_2).f0.f1) ((rd_T77 l0_1 x29_2).f0.f2) ((rd_T77 l0_1 x29_2).f0.f3) ((rd_T77 l0_1 x29_2).f1)))=some r:=by rw [if_pos rfl] at H;exact H
        clear H
        have H:=H1
        clear H1
        replace H:=Option.bind_eq_some_iff.mp H
        obtain ⟨t211,A230,H⟩:=H
        replace H:(spec_GoodSkip.j2 k2 t202 x4_2 x29_2 l0_1 (l0_1.length:Int) x29_2 ((((rd_T77 l0_1 x29_2).f1).length:Int) != t211) l0_0 l0_1 ((rd_T77 l0_1 x29_2).f0.f0) ((rd_T77 l0_1 x29_2).f0.f1) ((rd_T77 l0_1 x29_2).f0.f2) ((rd_T77 l0_1 x29_2).f0.f3) ((rd_T77 l0_1 x29_2).f1))=some r:=H
        have A23:=AsZ.mk A230
        clear A230
        have H':=AsZ.mk H
        clear H
        try go_wp2
        have n0_:AsZ (Kd.R (Kd.int .u32) 106 (((((w18.setCell ⟨gb209,0,none⟩ (.string ((rd_T77 l0_1 x29_2).f0.f0))).setCell ⟨gb209,1,none⟩ (.int .i64 ((rd_T77 l0_1 x29_2).f0.f1))).setCell ⟨gb209,2,none⟩ (.int .i64 ((rd_T77 l0_1 x29_2).f0.f2))).setCell ⟨gb209,3,none⟩ (.string ((rd_T77 l0_1 x29_2).f0.f3))).setCell ⟨gb209,4,none⟩ (.slice A208_4 ((rd_T77 l0_1 x29_2).f1).length c208_4)) w.heap.size (fun _=>True) v203 t202):=⟨by (with_reducible repeat (first|apply Kd.R_alloc|apply Kd.R_drewN|apply Kd.R_drew));exact Kd.R_mono (Kd.R_far (p:=⟨gb209,4,none⟩) (Kd.R_far (p:=⟨gb209,3,none⟩) (Kd.R_far (p:=⟨gb209,2,none⟩) (Kd.R_far (p:=⟨gb209,1,none⟩) (Kd.R_far (p:=⟨gb209,0,none⟩) (Kd.R_types HO_3.out BK209.out (by decide)) (fun _ hk=>hk.2) (.string ((rd_T77 l0_1 x29_2).f0.f0))) (fun _ hk=>hk.2) (.int .i64 ((rd_T77 l0_1 x29_2).f0.f1))) (fun _ hk=>hk.2) (.int .i64 ((rd_T77 l0_1 x29_2).f0.f2))) (fun _ hk=>hk.2) (.string ((rd_T77 l0_1 x29_2).f0.f3))) (fun _ hk=>hk.2) (.slice A208_4 ((rd_T77 l0_1 x29_2).f1).length c208_4)) (fun _ hk=>trivial)⟩
        have n1_:AsZ (Kd.R (Kd.int .i64) 3 (((((w18.setCell ⟨gb209,0,none⟩ (.string ((rd_T77 l0_1 x29_2).f0.f0))).setCell ⟨gb209,1,none⟩ (.int .i64 ((rd_T77 l0_1 x29_2).f0.f1))).setCell ⟨gb209,2,none⟩ (.int .i64 ((rd_T77 l0_1 x29_2).f0.f2))).setCell ⟨gb209,3,none⟩ (.string ((rd_T77 l0_1 x29_2).f0.f3))).setCell ⟨gb209,4,none⟩ (.slice A208_4 ((rd_T77 l0_1 x29_2).f1).length c208_4)) w.heap.size (fun _=>True) v206 x4_2):=⟨by (with_reducible repeat (first|apply Kd.R_alloc|apply Kd.R_drewN|apply Kd.R_drew));exact Kd.R_mono (Kd.R_far (p:=⟨gb209,4,none⟩) (Kd.R_far (p:=⟨gb209,3,none⟩) (Kd.R_far (p:=⟨gb209,2,none⟩) (Kd.R_far (p:=⟨gb209,1,none⟩) (Kd.R_far (p:=⟨gb209,0,none⟩) (Kd.R_types HO_4.out BK209.out (by decide)) (fun _ hk=>hk.2) (.string ((rd_T77 l0_1 x29_2).f0.f0))) (fun _ hk=>hk.2) (.int .i64 ((rd_T77 l0_1 x29_2).f0.f1))) (fun _ hk=>hk.2) (.int .i64 ((rd_T77 l0_1 x29_2).f0.f2))) (fun _ hk=>hk.2) (.string ((rd_T77 l0_1 x29_2).f0.f3))) (fun _ hk=>hk.2) (.slice A208_4 ((rd_T77 l0_1 x29_2).f1).length c208_4)) (fun _ hk=>trivial)⟩
        have n2_:AsZ ((((((w18.setCell ⟨gb209,0,none⟩ (.string ((rd_T77 l0_1 x29_2).f0.f0))).setCell ⟨gb209,1,none⟩ (.int .i64 ((rd_T77 l0_1 x29_2).f0.f1))).setCell ⟨gb209,2,none⟩ (.int .i64 ((rd_T77 l0_1 x29_2).f0.f2))).setCell ⟨gb209,3,none⟩ (.string ((rd_T77 l0_1 x29_2).f0.f3))).setCell ⟨gb209,4,none⟩ (.slice A208_4 ((rd_T77 l0_1 x29_2).f1).length c208_4)).heap[gb201]? = some (.cells #[.slice A0_0 l0_0.length c0_0,.slice (some ad208) l0_1.length c0_1] 26 (0,0))):=⟨by (with_reducible repeat (first|refine kdN ?_ _|refine kd ?_|refine ka ?_ _));refine blk_far ?_ NB201_209.out _;(with_reducible repeat (first|refine kdN ?_ _|refine kd ?_|refine ka ?_ _));refine blk_far ?_ NB201_209.out _;(with_reducible repeat (first|refine kdN ?_ _|refine kd ?_|refine ka ?_ _));refine blk_far ?_ NB201_209.out _;(with_reducible repeat (first|refine kdN ?_ _|refine kd ?_|refine ka ?_ _));refine blk_far ?_ NB201_209.out _;(with_reducible repeat (first|refine kdN ?_ _|refine kd ?_|refine ka ?_ _));refine blk_far ?_ NB201_209.out _;(with_reducible repeat (first|refine kdN ?_ _|refine kd ?_|refine ka ?_ _));exact BK201.out⟩
        have n3_:AsZ ((((((w18.setCell ⟨gb209,0,none⟩ (.string ((rd_T77 l0_1 x29_2).f0.f0))).setCell ⟨gb209,1,none⟩ (.int .i64 ((rd_T77 l0_1 x29_2).f0.f1))).setCell ⟨gb209,2,none⟩ (.int .i64 ((rd_T77 l0_1 x29_2).f0.f2))).setCell ⟨gb209,3,none⟩ (.string ((rd_T77 l0_1 x29_2).f0.f3))).setCell ⟨gb209,4,none⟩ (.slice A208_4 ((rd_T77 l0_1 x29_2).f1).length c208_4)).heap[gb209]? = some (.cells #[.string ((rd_T77 l0_1 x29_2).f0.f0),.int .i64 ((rd_T77 l0_1 x29_2).f0.f1),.int .i64 ((rd_T77 l0_1 x29_2).f0.f2),.string ((rd_T77 l0_1 x29_2).f0.f3),.slice A208_4 ((rd_T77 l0_1 x29_2).f1).length c208_4] 77 (0,0))):=⟨by (with_reducible repeat (first|refine kdN ?_ _|refine kd ?_|refine ka ?_ _));refine blk_put (cs:=#[.string ((rd_T77 l0_1 x29_2).f0.f0),.int .i64 ((rd_T77 l0_1 x29_2).f0.f1),.int .i64 ((rd_T77 l0_1 x29_2).f0.f2),.string ((rd_T77 l0_1 x29_2).f0.f3),.slice none 0 0]) ?_ 4 _ rfl;(with_reducible repeat (first|refine kdN ?_ _|refine kd ?_|refine ka ?_ _));refine blk_put (cs:=#[.string ((rd_T77 l0_1 x29_2).f0.f0),.int .i64 ((rd_T77 l0_1 x29_2).f0.f1),.int .i64 ((rd_T77 l0_1 x29_2).f0.f2),.string (⟨#[]⟩:ByteArray),.slice none 0 0]) ?_ 3 _ rfl;(with_reducible repeat (first|refine kdN ?_ _|refine kd ?_|refine ka ?_ _));refine blk_put (cs:=#[.string ((rd_T77 l0_1 x29_2).f0.f0),.int .i64 ((rd_T77 l0_1 x29_2).f0.f1),.int .i64 0,.string (⟨#[]⟩:ByteArray),.slice none 0 0]) ?_ 2 _ rfl;(with_reducible repeat (first|refine kdN ?_ _|refine kd ?_|refine ka ?_ _));refine blk_put (cs:=#[.string ((rd_T77 l0_1 x29_2).f0.f0),.int .i64 0,.int .i64 0,.string (⟨#[]⟩:ByteArray),.slice none 0 0]) ?_ 1 _ rfl;(with_reducible repeat (first|refine kdN ?_ _|refine kd ?_|refine ka ?_ _));refine blk_put (cs:=#[.string (⟨#[]⟩:ByteArray),.int .i64 0,.int .i64 0,.string (⟨#[]⟩:ByteArray),.slice none 0 0]) ?_ 0 _ rfl;(with_reducible repeat (first|refine kdN ?_ _|refine kd ?_|refine ka ?_ _));exact BK209.out⟩
        have n4_:AsZ (Below w.heap.size w (((((w18.setCell ⟨gb209,0,none⟩ (.string ((rd_T77 l0_1 x29_2).f0.f0))).setCell ⟨gb209,1,none⟩ (.int .i64 ((rd_T77 l0_1 x29_2).f0.f1))).setCell ⟨gb209,2,none⟩ (.int .i64 ((rd_T77 l0_1 x29_2).f0.f2))).setCell ⟨gb209,3,none⟩ (.string ((rd_T77 l0_1 x29_2).f0.f3))).setCell ⟨gb209,4,none⟩ (.slice A208_4 ((rd_T77 l0_1 x29_2).f1).length c208_4))):=⟨by repeat (first|(with_reducible first|exact HB.out|apply bwa|apply pbN|apply bw1|refine bws ?_ GE201.out|refine bws ?_ GE209.out)|exact HB.out)⟩
        (try clear HO_3)
        (try clear HO_4)
        (try clear BK201)
        (try clear BK209)
        (try clear HB)
        generalize (((((w18.setCell ⟨gb209,0,none⟩ (.string ((rd_T77 l0_1 x29_2).f0.f0))).setCell ⟨gb209,1,none⟩ (.int .i64 ((rd_T77 l0_1 x29_2).f0.f1))).setCell ⟨gb209,2,none⟩ (.int .i64 ((rd_T77 l0_1 x29_2).f0.f2))).setCell ⟨gb209,3,none⟩ (.string ((rd_T77 l0_1 x29_2).f0.f3))).setCell ⟨gb209,4,none⟩ (.slice A208_4 ((rd_T77 l0_1 x29_2).f1).length c208_4))=w24 at n0_ n1_ n2_ n3_ n4_ ⊢
        have HO_3:=n0_
        have HO_4:=n1_
        have BK201:=n2_
        have BK209:=n3_
        have HB:=n4_
        clear n0_ n1_ n2_ n3_ n4_
        have n0_:=AsZ.mk (Kd.R_drew HO_3.out)
        have n1_:=AsZ.mk (Kd.R_drew HO_4.out)
        have n2_:=AsZ.mk (kd BK201.out)
        have n3_:=AsZ.mk (kd BK209.out)
        have n4_:=AsZ.mk (bw1 HB.out)
        clear HO_3 HO_4 BK201 BK209 HB
        have HO_3:=n0_
        have HO_4:=n1_
        have BK201:=n2_
        have BK209:=n3_
        have HB:=n4_
        clear n0_ n1_ n2_ n3_ n4_
        refine start_ (n:=18) (S:=fun w'=>w'.cell? ⟨gb209,0,none⟩=some (.string ((rd_T77 l0_1 x29_2).f0.f0))∧w'.cell? ⟨gb209,1,none⟩=some (.int .i64 ((rd_T77 l0_1 x29_2).f0.f1))∧w'.cell? ⟨gb209,2,none⟩=some (.int .i64 ((rd_T77 l0_1 x29_2).f0.f2))∧w'.cell? ⟨gb209,3,none⟩=some (.string ((rd_T77 l0_1 x29_2).f0.f3))∧w'.cell? ⟨gb209,4,none⟩=some (.slice A208_4 ((rd_T77 l0_1 x29_2).f1).length c208_4)) (ds:=[]) (b_ 0 18) (by kernel_rfl) rfl rfl ⟨(kc BK209.out 0).trans rfl,(kc BK209.out 1).trans rfl,(kc BK209.out 2).trans rfl,(kc BK209.out 3).trans rfl,(kc BK209.out 4).trans rfl⟩ (fun hHeld=>?_);refine with_tabW spec_GoodSkip.tab8 spec_GoodSkip.bits8 (fun HT_ HW_=>?_)
        generalize w24.drew=w25 at HO_3 HO_4 BK201 BK209 HB hHeld ⊢
        refine pure_ (i:=0) (N:=some 34) (v:=?_) (a':=?_) (b_ 1 17) rfl rfl (anO HT_.out (by kernel_rfl)) (fun _ _ _ h=>h) (Or.inl ⟨by rfl,?_⟩) ?_ ?_
        rotate_left
        · intro w'
          go_simp
          with_reducible rfl
        rotate_left
        · simp only [Act.put,zS,zT,zU,i64_w,i32_w]
          rfl
        refine take_ (i:=1) (N:=some 35) (v:=?_) (a':=?_) (b_ 2 16) rfl rfl (tkO HT_.out HW_.out (by kernel_rfl)) (fun _ _ _ h=>h) (Or.inl ⟨by rfl,?_⟩) hHeld ?_ ?_
        rotate_left
        · rintro w' ⟨s0,s1,s2,s3,s4⟩
          go_simp
          with_reducible rfl
        rotate_left
        · simp only [Act.put,zS,zT,zU,i64_w,i32_w]
          rfl
        refine one_ (i:=2) (N:=some 36) (b_ 3 15) rfl rfl (one_of HT_.out (by kernel_rfl)) (by decide) (fun K hK=>?_)
        refine goes_ Tryd.func45 (by kernel_rfl) rfl #[.agg #[.string ((rd_T77 l0_1 x29_2).f0.f0),.int .i64 ((rd_T77 l0_1 x29_2).f0.f1),.int .i64 ((rd_T77 l0_1 x29_2).f0.f2),.string ((rd_T77 l0_1 x29_2).f0.f3)]] (by rfl) rfl rfl (by (try simp only [zA,zC,zN]);first|done|rfl|(simp only [zM,zL];rfl)) ?_
        with_reducible refine (spec_GoodItem.calls ((rd_T77 l0_1 x29_2).f0.f0) ((rd_T77 l0_1 x29_2).f0.f1) ((rd_T77 l0_1 x29_2).f0.f2) ((rd_T77 l0_1 x29_2).f0.f3) true _ A21.out).mono ?_
        rintro e w26 ⟨rfl,hb⟩
        refine ⟨_,rfl,?_⟩
        have n0_:=AsZ.mk (Kd.R_below (by (with_reducible repeat (first|apply Kd.R_alloc|apply Kd.R_drewN|apply Kd.R_drew));exact HO_3.out) hb)
        have n1_:=AsZ.mk (Kd.R_below (by (with_reducible repeat (first|apply Kd.R_alloc|apply Kd.R_drewN|apply Kd.R_drew));exact HO_4.out) hb)
        have n2_:=AsZ.mk (kb (g:=gb201) (o := .cells #[.slice A0_0 l0_0.length c0_0,.slice (some ad208) l0_1.length c0_1] 26 (0,0)) (by (with_reducible repeat (first|refine kdN ?_ _|refine kd ?_|refine ka ?_ _));exact BK201.out) hb)
        have n3_:=AsZ.mk (kb (g:=gb209) (o := .cells #[.string ((rd_T77 l0_1 x29_2).f0.f0),.int .i64 ((rd_T77 l0_1 x29_2).f0.f1),.int .i64 ((rd_T77 l0_1 x29_2).f0.f2),.string ((rd_T77 l0_1 x29_2).f0.f3),.slice A208_4 ((rd_T77 l0_1 x29_2).f1).length c208_4] 77 (0,0)) (by (with_reducible repeat (first|refine kdN ?_ _|refine kd ?_|refine ka ?_ _));exact BK209.out) hb)
        have n4_:=AsZ.mk (bwp (by repeat (first|(with_reducible first|exact HB.out|apply bwa|apply pbN|apply bw1|refine bws ?_ GE201.out|refine bws ?_ GE209.out)|exact HB.out)) hb)
        clear HO_3 HO_4 BK201 BK209 HB
        have HO_3:=n0_
        have HO_4:=n1_
        have BK201:=n2_
        have BK209:=n3_
        have HB:=n4_
        clear n0_ n1_ n2_ n3_ n4_
        (try clear hb)
        (try clear hb2)
        (try clear hk)
        (try clear hi)
        obtain ⟨Ao27,co27,eo27⟩:=Kd.R_slice HO_3.out
        (first|subst eo27|(injection eo27 with f1_ f2_ f3_;have f4_:=f1_.symm;have f5_:=f3_.symm;clear f1_ f2_ f3_;subst f4_;subst f5_))
        refine hK.out _ _ ⟨(kc BK209.out 0).trans rfl,(kc BK209.out 1).trans rfl,(kc BK209.out 2).trans rfl,(kc BK209.out 3).trans rfl,(kc BK209.out 4).trans rfl⟩ (fun hHeld=>?_)
        clear hK K
        refine norm_ (a':=?_) ?_ ?_
        rotate_left
        · show Act.put _ (some 36) _=_
          simp only [Act.put,zS,zT,zU,i64_w,i32_w]
          rfl
        refine pure_ (i:=3) (N:=some 37) (v:=?_) (a':=?_) (b_ 4 14) rfl rfl (anO HT_.out (by kernel_rfl)) (fun _ _ _ h=>h) (Or.inl ⟨by rfl,?_⟩) ?_ ?_
        rotate_left
        · intro w'
          go_simp
          with_reducible rfl
        rotate_left
        · simp only [Act.put,zS,zT,zU,i64_w,i32_w]
          rfl
        refine pure_ (i:=4) (N:=some 38) (v:=?_) (a':=?_) (b_ 5 13) rfl rfl (anO HT_.out (by kernel_rfl)) (fun _ _ _ h=>h) (Or.inl ⟨by rfl,?_⟩) ?_ ?_
        rotate_left
        · intro w'
          go_simp
          with_reducible rfl
        rotate_left
        · simp only [Act.put,zS,zT,zU,i64_w,i32_w]
          rfl
        refine pure_ (i:=5) (N:=some 39) (v:=?_) (a':=?_) (b_ 6 12) rfl rfl (anO HT_.out (by kernel_rfl)) (fun _ _ _ h=>h) (Or.inl ⟨by rfl,?_⟩) ?_ ?_
        rotate_left
        · intro w'
          go_simp
          with_reducible rfl
        rotate_left
        · simp only [Act.put,zS,zT,zU,i64_w,i32_w]
          rfl
        refine pure_ (i:=8) (N:=some 42) (v:=?_) (a':=?_) #[true,true,true,true,true,true,false,false,true,false,false,false,false,false,false,false,false,false] rfl rfl (anO HT_.out (by kernel_rfl)) (fun _ _ _ h=>h) (Or.inl ⟨by rfl,?_⟩) ?_ ?_
        rotate_left
        · intro w'
          go_simp
          with_reducible rfl
        rotate_left
        · simp only [Act.put,zS,zT,zU,i64_w,i32_w]
          rfl
        refine pure_ (i:=9) (N:=some 43) (v:=?_) (a':=?_) #[true,true,true,true,true,true,false,false,true,true,false,false,false,false,false,false,false,false] rfl rfl (anO HT_.out (by kernel_rfl)) (fun _ _ _ h=>h) (Or.inl ⟨by rfl,?_⟩) ?_ ?_
        rotate_left
        · intro w'
          go_simp
          with_reducible rfl
        rotate_left
        · simp only [Act.put,zS,zT,zU,i64_w,i32_w]
          rfl
        refine pure_ (i:=10) (N:=some 44) (v:=?_) (a':=?_) #[true,true,true,true,true,true,false,false,true,true,true,false,false,false,false,false,false,false] rfl rfl (anO HT_.out (by kernel_rfl)) (fun _ _ _ h=>h) (Or.inl ⟨by rfl,?_⟩) ?_ ?_
        rotate_left
        · intro w'
          go_simp
          with_reducible rfl
        rotate_left
        · simp only [Act.put,zS,zT,zU,i64_w,i32_w]
          rfl
        refine pure_ (i:=12) (N:=some 46) (v:=?_) (a':=?_) #[true,true,true,true,true,true,false,false,true,true,true,false,true,false,false,false,false,false] rfl rfl (anO HT_.out (by kernel_rfl)) (fun _ _ _ h=>h) (Or.inl ⟨by rfl,?_⟩) ?_ ?_
        rotate_left
        · intro w'
          go_simp
          with_reducible rfl
        rotate_left
        · simp only [Act.put,zS,zT,zU,i64_w,i32_w]
          rfl
        refine pure_ (i:=13) (N:=some 47) (v:=?_) (a':=?_) #[true,true,true,true,true,true,false,false,true,true,true,false,true,true,false,false,false,false] rfl rfl (anO HT_.out (by kernel_rfl)) (fun _ _ _ h=>h) (Or.inl ⟨by rfl,?_⟩) ?_ ?_
        rotate_left
        · intro w'
          go_simp
          with_reducible rfl
        rotate_left
        · simp only [Act.put,zS,zT,zU,i64_w,i32_w]
          rfl
        refine take_ (i:=6) (N:=some 40) (v:=?_) (a':=?_) #[true,true,true,true,true,true,true,false,true,true,true,false,true,true,false,false,false,false] rfl rfl (tkO HT_.out HW_.out (by kernel_rfl)) (fun _ _ _ h=>h) (Or.inl ⟨by rfl,?_⟩) hHeld ?_ ?_
        rotate_left
        · rintro w' ⟨s0,s1,s2,s3,s4⟩
          go_simp
          with_reducible rfl
        rotate_left
        · simp only [Act.put,zS,zT,zU,i64_w,i32_w]
          rfl
        refine pure_ (i:=7) (N:=some 41) (v:=?_) (a':=?_) #[true,true,true,true,true,true,true,true,true,true,true,false,true,true,false,false,false,false] rfl rfl (anO HT_.out (by kernel_rfl)) (fun _ _ _ h=>h) (Or.inl ⟨by rfl,?_⟩) ?_ ?_
        rotate_left
        · intro w'
          go_simp
          with_reducible rfl
        rotate_left
        · simp only [Act.put,zS,zT,zU,i64_w,i32_w]
          rfl
        refine take_ (i:=11) (N:=some 45) (v:=?_) (a':=?_) (b_ 14 4) rfl rfl (tkO HT_.out HW_.out (by kernel_rfl)) (fun _ _ _ h=>h) (Or.inl ⟨by rfl,?_⟩) hHeld ?_ ?_
        rotate_left
        · rintro w' ⟨s0,s1,s2,s3,s4⟩
          go_simp
          with_reducible rfl
        rotate_left
        · simp only [Act.put,zS,zT,zU,i64_w,i32_w]
          rfl
        refine take_ (i:=14) (N:=some 48) (v:=?_) (a':=?_) (b_ 15 3) rfl rfl (tkO HT_.out HW_.out (by kernel_rfl)) (fun _ _ _ h=>h) (Or.inl ⟨by rfl,?_⟩) hHeld ?_ ?_
        rotate_left
        · rintro w' ⟨s0,s1,s2,s3,s4⟩
          go_simp
          with_reducible rfl
        rotate_left
        · simp only [Act.put,zS,zT,zU,i64_w,i32_w]
          rfl
        refine one_ (i:=15) (N:=some 49) (b_ 16 2) rfl rfl (one_of HT_.out (by kernel_rfl)) (by decide) (fun K hK=>?_)
        refine goes_ Tryd.func55 (by kernel_rfl) rfl #[.slice Ao27 t202.length co27,.string ((rd_T77 l0_1 x29_2).f0.f0),.int .i64 ((rd_T77 l0_1 x29_2).f0.f1)] (by rfl) rfl rfl (by (try simp only [zA,zC,zN]);first|done|rfl|(simp only [zM,zL];rfl)) ?_
        with_reducible refine (spec_l4Tower.calls k2 _ _ t202 ((rd_T77 l0_1 x29_2).f0.f0) ((rd_T77 l0_1 x29_2).f0.f1) t211 _ ?side1 ?side2 A23.out).mono ?_
        (case side1=>repeat (first|exact (Kd.R_reads' HO_3.out).2.2|(with_reducible refine Kd.C_alloc ?_ _)|(with_reducible refine Kd.C_drewN ?_ _)|(with_reducible refine Kd.C_drew ?_)))
        (case side2=>exact (Kd.R_reads' HO_3.out).2.1)
        rintro e w28 ⟨rfl,hb⟩
        refine ⟨_,rfl,?_⟩
        have n0_:=AsZ.mk (Kd.R_below (by (with_reducible repeat (first|apply Kd.R_alloc|apply Kd.R_drewN|apply Kd.R_drew));exact HO_3.out) hb)
        have n1_:=AsZ.mk (Kd.R_below (by (with_reducible repeat (first|apply Kd.R_alloc|apply Kd.R_drewN|apply Kd.R_drew));exact HO_4.out) hb)
        have n2_:=AsZ.mk (kb (g:=gb201) (o := .cells #[.slice A0_0 l0_0.length c0_0,.slice (some ad208) l0_1.length c0_1] 26 (0,0)) (by (with_reducible repeat (first|refine kdN ?_ _|refine kd ?_|refine ka ?_ _));exact BK201.out) hb)
        have n3_:=AsZ.mk (kb (g:=gb209) (o := .cells #[.string ((rd_T77 l0_1 x29_2).f0.f0),.int .i64 ((rd_T77 l0_1 x29_2).f0.f1),.int .i64 ((rd_T77 l0_1 x29_2).f0.f2),.string ((rd_T77 l0_1 x29_2).f0.f3),.slice A208_4 ((rd_T77 l0_1 x29_2).f1).length c208_4] 77 (0,0)) (by (with_reducible repeat (first|refine kdN ?_ _|refine kd ?_|refine ka ?_ _));exact BK209.out) hb)
        have n4_:=AsZ.mk (bwp (by repeat (first|(with_reducible first|exact HB.out|apply bwa|apply pbN|apply bw1|refine bws ?_ GE201.out|refine bws ?_ GE209.out)|exact HB.out)) hb)
        clear HO_3 HO_4 BK201 BK209 HB
        have HO_3:=n0_
        have HO_4:=n1_
        have BK201:=n2_
        have BK209:=n3_
        have HB:=n4_
        clear n0_ n1_ n2_ n3_ n4_
        (try clear hb)
        (try clear hb2)
        (try clear hk)
        (try clear hi)
        refine hK.out _ _ ⟨(kc BK209.out 0).trans rfl,(kc BK209.out 1).trans rfl,(kc BK209.out 2).trans rfl,(kc BK209.out 3).trans rfl,(kc BK209.out 4).trans rfl⟩ (fun hHeld=>?_)
        clear hK K
        refine norm_ (a':=?_) ?_ ?_
        rotate_left
        · show Act.put _ (some 49) _=_
          simp only [Act.put,zS,zT,zU,i64_w,i32_w]
          rfl
        refine pure_ (i:=16) (N:=some 50) (v:=?_) (a':=?_) (b_ 17 1) rfl rfl (anO HT_.out (by kernel_rfl)) (fun _ _ _ h=>h) (Or.inl ⟨by rfl,?_⟩) ?_ ?_
        rotate_left
        · intro w'
          go_simp
          with_reducible rfl
        rotate_left
        · simp only [Act.put,zS,zT,zU,i64_w,i32_w]
          rfl
        refine pure_ (i:=17) (N:=some 51) (v:=?_) (a':=?_) (b_ 18 0) rfl rfl (anO HT_.out (by kernel_rfl)) (fun _ _ _ h=>h) (Or.inl ⟨by rfl,?_⟩) ?_ ?_
        rotate_left
        · intro w'
          go_simp
          with_reducible rfl
        rotate_left
        · simp only [Act.put,zS,zT,zU,i64_w,i32_w]
          rfl
        refine dn_ (dnO HT_.out (by kernel_rfl)) ?_
        try go_wp2
        go_meet
        case rel=>exact ⟨_,(((((rd_T77 l0_1 x29_2).f1).length:Int) != t211)),(by first|rfl|(simp;done)|(simp [*];done)),H',⟨by have:=HJ1.out;have:=HK2.out;first|omega|exact Nat.le_refl _⟩,⟨by (with_reducible repeat (first|apply Kd.R_alloc|apply Kd.R_drewN|apply Kd.R_drew));exact HO_3.out⟩,⟨by (with_reducible repeat (first|apply Kd.R_alloc|apply Kd.R_drewN|apply Kd.R_drew));exact HO_4.out⟩,⟨by (with_reducible repeat (first|refine kdN ?_ _|refine kd ?_|refine ka ?_ _));exact BK201.out⟩,⟨by (with_reducible repeat (first|refine kdN ?_ _|refine kd ?_|refine ka ?_ _));exact BK209.out⟩,⟨by repeat (first|(with_reducible first|exact HB.out|apply bwa|apply pbN|apply bw1|refine bws ?_ GE201.out|refine bws ?_ GE209.out)|exact HB.out)⟩⟩
       case rest =>
        clear HC17
        try clear c1
        try clear c2
        try clear p2
        try clear q2
        try clear hx2
        try clear c3
        try clear c4
        try clear c4b0
        try clear c4b1
        try clear c5
        try clear c7
        try clear c9
        try clear c9b0
        try clear c9b1
        try clear c14
        try clear c14b0
        try clear c15
        try clear c15b0
        try clear c16
        try clear c16b0
        try clear c19
        try clear c20
        try clear p20
        try clear q20
        try clear hx20
        try clear c22
        try clear c30
        try clear hcz13_0
        try clear hcz13_1
        try clear hcz20_0
        try clear hcz20_1
        try clear hcz20_2
        try clear hcz20_3
        try clear hcz20_4
        try clear hcz5_0
        try clear hcz5_1
        try clear hcz6_0
        try clear hcz6_1
        try clear hfz13_0
        try clear hfz13_1
        try clear hfz20_0
        try clear hfz20_1
        try clear hfz20_2
        try clear hfz20_3
        try clear hfz20_4
        try clear hfz5_0
        try clear hfz5_1
        try clear hfz6_0
        try clear hfz6_1
        try clear hx208_0
        try clear hx208_1
        try clear hx208_2
        try clear hx208_3
        try clear hx208_4
        try clear p2
        try clear p208
        try clear q208
        obtain ⟨kq,x51_16,rfl,HA,HJ16,HO_3,HO_4,BK201,BK209,HB⟩:=hcut
        cases kq with
        |zero=>exact absurd HA.out (by simp [spec_GoodSkip.j2])
        |succ kj16 =>
         have H:=HA.out
         clear HA
         simp only [spec_GoodSkip.j2] at H
         by_cases c32:x51_16=true
         · subst c32
           have H1:(some false)=some r:=by rw [if_pos rfl] at H;exact H
           clear H
           have H:=H1
           clear H1
           obtain rfl:=zI H
           go_wp2
           go_ret
           exact ⟨by first|rfl|(simp [errW_none,errW_some]<;>rfl)|(simp [*,errW_none,errW_some]<;>rfl),by repeat (first|(with_reducible first|exact HB.out|apply bwa|apply pbN|apply bw1|refine bws ?_ GE201.out|refine bws ?_ GE209.out)|exact HB.out)⟩
         replace c32:=Bool.eq_false_iff.mpr c32
         subst c32
         have H1:(if 0≤x29_2 then (if x29_2≤(l0_1.length:Int) then ((some (l0_1.take (x29_2:Int).toNat:List (S77))).bind fun y212=>(spec_GoodSkip.l1 kj16 t202 x4_2 l0_1 (l0_1.length:Int) x29_2 y212 (y212.length:Int) 0 l0_0 l0_1 ((rd_T77 l0_1 x29_2).f0.f0) ((rd_T77 l0_1 x29_2).f0.f1) ((rd_T77 l0_1 x29_2).f0.f2) ((rd_T77 l0_1 x29_2).f0.f3) ((rd_T77 l0_1 x29_2).f1))) else (none)) else (none))=some r:=by rw [if_neg (show ¬ (false=true) by decide)] at H;exact H
         clear H
         have H:=H1
         clear H1
         by_cases c33:0≤x29_2
         rotate_left
         · rw [if_neg c33] at H
           exact absurd H (by simp)
         rw [if_pos c33] at H
         have c33b0:=eq_true c33
         have c33b1:decide (0≤x29_2)=true:=zE c33
         clear c33
         by_cases c34:x29_2≤(l0_1.length:Int)
         rotate_left
         · rw [if_neg c34] at H
           exact absurd H (by simp)
         rw [if_pos c34] at H
         have c34b0:=eq_true c34
         have c34b1:decide (x29_2≤(l0_1.length:Int))=true:=zE c34
         clear c34
         obtain ⟨y212,hy212⟩:∃ y_:List (S77),y_=(l0_1.take (x29_2:Int).toNat):=⟨_,rfl⟩
         replace H:(spec_GoodSkip.l1 kj16 t202 x4_2 l0_1 (l0_1.length:Int) x29_2 y212 (y212.length:Int) 0 l0_0 l0_1 ((rd_T77 l0_1 x29_2).f0.f0) ((rd_T77 l0_1 x29_2).f0.f1) ((rd_T77 l0_1 x29_2).f0.f2) ((rd_T77 l0_1 x29_2).f0.f3) ((rd_T77 l0_1 x29_2).f1))=some r:=by first|(rw [hy212];with_reducible exact H)|(have H2_:=(Option.bind_some _ _).symm.trans H;rw [hy212];with_reducible exact H2_)|(have H2_:=(Option.bind_some _ _).symm.trans H;with_reducible exact H2_)|with_reducible exact H|(rw [hy212];exact H)|exact H
         have Ny212:=AsZ.mk hy212
         clear hy212
         have H':=AsZ.mk H
         clear H
         have hnb35:=NB201_209.out
         have hnc35:=NB209_201.out
         have hcz36_0:wc.cell? ⟨gb201,0,none⟩=some (.slice A0_0 l0_0.length c0_0):=(kc BK201.out 0).trans rfl
         have hcz36_1:wc.cell? ⟨gb201,1,none⟩=some (.slice (some ad208) l0_1.length c0_1):=(kc BK201.out 1).trans rfl
         have hfz36_0:=kf BK201.out 0
         have hfz36_1:=kf BK201.out 1
         have q37:(x29_2:Int)≤((l0_1.length:Int):Int):=zD (by first|(with_reducible assumption)|assumption)
         obtain ⟨i037,hi037,_,hsz37,_⟩:=info_parts info77
         have hroom37:l0_1.length≤c0_1:=HC0_1.out
         have hC37:Kd.C k77 _ (some ad208) l0_1.length l0_1:=HR0_1.out
         have hcut37:=cut_to (P:=Tryd.prog) 24 77 .i64 Tryd.underlying24 hi037 (some ad208) l0_1.length c0_1 x29_2 (zD (by first|(with_reducible assumption)|assumption)) q37 hroom37
         have hr37:=Kd.C_take (m:=(x29_2:Int).toNat) hC37 (by omega)
         have hy37:y212.length=(x29_2:Int).toNat:=(by rw [Ny212.out,zL];omega)
         rw [← Ny212.out] at hr37
         rw [← hy37] at hcut37
         have HR215:=AsZ.mk hr37
         have HC215:=AsZ.mk (show y212.length≤c0_1 from by omega)
         clear hr37 hC37 hroom37 hi037 hsz37
         have KY37:=AsZ.mk hy37
         clear hy37
         replace q37:=eq_true q37
         go_wp2
         go_loopg [57] kj16 (fun kq v57 w' => ∃ (x57_4:Int),v57 = .int .i64 x57_4∧AsZ (spec_GoodSkip.l1 kq t202 x4_2 l0_1 (l0_1.length:Int) x29_2 y212 (y212.length:Int) x57_4 l0_0 l0_1 ((rd_T77 l0_1 x29_2).f0.f0) ((rd_T77 l0_1 x29_2).f0.f1) ((rd_T77 l0_1 x29_2).f0.f2) ((rd_T77 l0_1 x29_2).f0.f3) ((rd_T77 l0_1 x29_2).f1)=some r)∧AsZ (kq≤kj16)∧AsZ (Kd.R (Kd.int .u32) 106 w' w.heap.size (fun _=>True) v203 t202)∧AsZ (Kd.R (Kd.int .i64) 3 w' w.heap.size (fun _=>True) v206 x4_2)∧AsZ (w'.heap[gb201]? = some (.cells #[(.slice A0_0 l0_0.length c0_0),(.slice (some ad208) l0_1.length c0_1)] 26 (0,0)))∧AsZ (w'.heap[gb209]? = some (.cells #[.string ((rd_T77 l0_1 x29_2).f0.f0),.int .i64 ((rd_T77 l0_1 x29_2).f0.f1),.int .i64 ((rd_T77 l0_1 x29_2).f0.f2),.string ((rd_T77 l0_1 x29_2).f0.f3),(.slice A208_4 ((rd_T77 l0_1 x29_2).f1).length c208_4)] 77 (0,0)))∧AsZ (Below w.heap.size w w'))
         case atStart=>exact ⟨(0),(by first|rfl|(simp;done)|(simp [*];done)),H',⟨Nat.le_refl _⟩,⟨by (with_reducible repeat (first|apply Kd.R_alloc|apply Kd.R_drewN|apply Kd.R_drew));exact HO_3.out⟩,⟨by (with_reducible repeat (first|apply Kd.R_alloc|apply Kd.R_drewN|apply Kd.R_drew));exact HO_4.out⟩,⟨by (with_reducible repeat (first|refine kdN ?_ _|refine kd ?_|refine ka ?_ _));exact BK201.out⟩,⟨by (with_reducible repeat (first|refine kdN ?_ _|refine kd ?_|refine ka ?_ _));exact BK209.out⟩,⟨by repeat (first|(with_reducible first|exact HB.out|apply bwa|apply pbN|apply bw1|refine bws ?_ GE201.out|refine bws ?_ GE209.out)|exact HB.out)⟩⟩
         case round =>
          clear H'
          try clear c1
          try clear c2
          try clear p2
          try clear q2
          try clear hx2
          try clear c3
          try clear q3
          try clear c4
          try clear c4b0
          try clear c4b1
          try clear c5
          try clear c7
          try clear c9
          try clear c9b0
          try clear c9b1
          try clear c14
          try clear c14b0
          try clear c15
          try clear c15b0
          try clear c16
          try clear c16b0
          try clear c19
          try clear c20
          try clear p20
          try clear q20
          try clear hx20
          try clear c22
          try clear c30
          try clear c32
          try clear c33
          try clear c33b0
          try clear c33b1
          try clear c34
          try clear c34b0
          try clear c34b1
          try clear c35
          try clear q37
          try clear hcz13_0
          try clear hcz13_1
          try clear hcz20_0
          try clear hcz20_1
          try clear hcz20_2
          try clear hcz20_3
          try clear hcz20_4
          try clear hcz36_0
          try clear hcz36_1
          try clear hcz5_0
          try clear hcz5_1
          try clear hcz6_0
          try clear hcz6_1
          try clear hfz13_0
          try clear hfz13_1
          try clear hfz20_0
          try clear hfz20_1
          try clear hfz20_2
          try clear hfz20_3
          try clear hfz20_4
          try clear hfz36_0
          try clear hfz36_1
          try clear hfz5_0
          try clear hfz5_1
          try clear hfz6_0
          try clear hfz6_1
          try clear hx208_0
          try clear hx208_1
          try clear hx208_2
          try clear hx208_3
          try clear hx208_4
          try clear p2
          try clear p20
          try clear p208
          try clear q2
          try clear q20
          try clear q208
          try clear q37
          obtain ⟨x57_4,rfl,HA,HK4,HO_3,HO_4,BK201,BK209,HB⟩:=hrel
          cases gk with
          |zero=>exact absurd HA.out (by simp [spec_GoodSkip.l1])
          |succ k4 =>
           have H:=HA.out
           clear HA
           simp only [spec_GoodSkip.l1] at H
           by_cases c38:x57_4 < (y212.length:Int)
           · rw [if_pos c38] at H
             have c38b0:decide (x57_4 < (y212.length:Int))=true:=zE c38
             clear c38
             by_cases c39:0≤x57_4
             rotate_left
             · rw [if_neg c39] at H
               exact absurd H (by simp)
             rw [if_pos c39] at H
             have c39b0:decide (0≤x57_4)=true:=zE c39
             clear c39
             by_cases c40:x57_4 < (y212.length:Int)
             rotate_left
             · rw [if_neg c40] at H
               exact absurd H (by simp)
             rw [if_pos c40] at H
             have c40b0:decide (x57_4 < (y212.length:Int))=true:=zE c40
             clear c40
             replace H:=Option.bind_eq_some_iff.mp H
             obtain ⟨t218,A410,H⟩:=H
             replace H:(if t218=0 then (some false) else (spec_GoodSkip.l1 k4 t202 x4_2 l0_1 (l0_1.length:Int) x29_2 y212 (y212.length:Int) (wrap64 (x57_4 + 1)) l0_0 l0_1 ((rd_T77 l0_1 x29_2).f0.f0) ((rd_T77 l0_1 x29_2).f0.f1) ((rd_T77 l0_1 x29_2).f0.f2) ((rd_T77 l0_1 x29_2).f0.f3) ((rd_T77 l0_1 x29_2).f1)))=some r:=H
             have A41:=AsZ.mk A410
             clear A410
             by_cases c42:t218=0
             · rw [if_pos c42] at H
               have c42b0:(t218 == 0)=true:=beq_iff_eq.mpr c42
               have c42b1:(t218 != 0)=false:=bne_eq_false_iff_eq.mpr c42
               clear c42
               obtain rfl:=zI H
               have p216:0≤(x57_4:Int):=zD (by first|(with_reducible assumption)|assumption)
               have q216:x57_4 < (y212.length:Int):=zD (by first|(with_reducible assumption)|assumption)
               obtain ⟨ad216,A216_4,c216_4,e216,hx216_0,hx216_1,hx216_2,hx216_3,hx216_4,hl216_4,hi216_4⟩:=at_T77 HR215.out x57_4 p216 q216
               obtain rfl:ad208=ad216:=(by injection e216)
               replace hx216_0:=(HB.out.cell (zB w _ hx216_0)).trans hx216_0
               replace hx216_1:=(HB.out.cell (zB w _ hx216_1)).trans hx216_1
               replace hx216_2:=(HB.out.cell (zB w _ hx216_2)).trans hx216_2
               replace hx216_3:=(HB.out.cell (zB w _ hx216_3)).trans hx216_3
               replace hx216_4:=(HB.out.cell (zB w _ hx216_4)).trans hx216_4
               have HR216_4:=AsZ.mk hi216_4
               have HC216_4:=AsZ.mk hl216_4
               clear hi216_4 hl216_4
               replace p216:=eq_true p216
               replace q216:=eq_true q216
               go_wp2_with (first|((with_reducible refine gate_dst (N:=8) rfl ?_);(try (refine gate_guard (by rfl) ?_;dsimp only));refine box_event ?hg (N:=8) ?hd (cs:=#[.string (⟨#[]⟩:ByteArray),.int .i64 0,.int .i64 0,.string (⟨#[]⟩:ByteArray),.slice none 0 0]) (t:=77) ?hr ?_;(case hd=>rfl);(case hg=>rfl);(case hr=>first|(go_simp;done)|(go_simp;rfl));intro gb217 hg w43 hbox hb;have n0_:=AsZ.mk (Kd.R_below (by (with_reducible repeat (first|apply Kd.R_alloc|apply Kd.R_drewN|apply Kd.R_drew));exact HO_3.out) hb);have n1_:=AsZ.mk (Kd.R_below (by (with_reducible repeat (first|apply Kd.R_alloc|apply Kd.R_drewN|apply Kd.R_drew));exact HO_4.out) hb);have n2_:=AsZ.mk (kb (g:=gb201) (o := .cells #[.slice A0_0 l0_0.length c0_0,.slice (some ad208) l0_1.length c0_1] 26 (0,0)) (by (with_reducible repeat (first|refine kdN ?_ _|refine kd ?_|refine ka ?_ _));exact BK201.out) hb);have n3_:=AsZ.mk (kb (g:=gb209) (o := .cells #[.string ((rd_T77 l0_1 x29_2).f0.f0),.int .i64 ((rd_T77 l0_1 x29_2).f0.f1),.int .i64 ((rd_T77 l0_1 x29_2).f0.f2),.string ((rd_T77 l0_1 x29_2).f0.f3),.slice A208_4 ((rd_T77 l0_1 x29_2).f1).length c208_4] 77 (0,0)) (by (with_reducible repeat (first|refine kdN ?_ _|refine kd ?_|refine ka ?_ _));exact BK209.out) hb);have n4_:=AsZ.mk (bwp (by repeat (first|(with_reducible first|exact HB.out|apply bwa|apply pbN|apply bw1|refine bws ?_ GE201.out|refine bws ?_ GE209.out)|exact HB.out)) hb);have n5_:=AsZ.mk (hbox);have n6_:=AsZ.mk ((by rw [hg];exact (bwz (by repeat (first|(with_reducible first|exact HB.out|apply bwa|apply pbN|apply bw1|refine bws ?_ GE201.out|refine bws ?_ GE209.out)|exact HB.out))):w.heap.size≤gb217));have n7_:=AsZ.mk ((by rw [hg];exact (bwz (by repeat (first|(with_reducible first|exact HB.out|apply bwa|apply pbN|apply bw1|refine bws ?_ GE201.out|refine bws ?_ GE209.out)|exact HB.out))):w.heap.size≤gb217));have n8_:=AsZ.mk ((by rw [hg];exact Nat.ne_of_lt (blk_lt (g:=gb201) (o := .cells #[.slice A0_0 l0_0.length c0_0,.slice (some ad208) l0_1.length c0_1] 26 (0,0)) (by (with_reducible repeat (first|refine kdN ?_ _|refine kd ?_|refine ka ?_ _));exact BK201.out)):gb201 ≠ gb217));have n9_:=AsZ.mk ((by rw [hg];exact Nat.ne_of_gt (blk_lt (g:=gb201) (o := .cells #[.slice A0_0 l0_0.length c0_0,.slice (some ad208) l0_1.length c0_1] 26 (0,0)) (by (with_reducible repeat (first|refine kdN ?_ _|refine kd ?_|refine ka ?_ _));exact BK201.out)):gb217 ≠ gb201));have n10_:=AsZ.mk ((by rw [hg];exact Nat.ne_of_lt (blk_lt (g:=gb209) (o := .cells #[.string ((rd_T77 l0_1 x29_2).f0.f0),.int .i64 ((rd_T77 l0_1 x29_2).f0.f1),.int .i64 ((rd_T77 l0_1 x29_2).f0.f2),.string ((rd_T77 l0_1 x29_2).f0.f3),.slice A208_4 ((rd_T77 l0_1 x29_2).f1).length c208_4] 77 (0,0)) (by (with_reducible repeat (first|refine kdN ?_ _|refine kd ?_|refine ka ?_ _));exact BK209.out)):gb209 ≠ gb217));have n11_:=AsZ.mk ((by rw [hg];exact Nat.ne_of_gt (blk_lt (g:=gb209) (o := .cells #[.string ((rd_T77 l0_1 x29_2).f0.f0),.int .i64 ((rd_T77 l0_1 x29_2).f0.f1),.int .i64 ((rd_T77 l0_1 x29_2).f0.f2),.string ((rd_T77 l0_1 x29_2).f0.f3),.slice A208_4 ((rd_T77 l0_1 x29_2).f1).length c208_4] 77 (0,0)) (by (with_reducible repeat (first|refine kdN ?_ _|refine kd ?_|refine ka ?_ _));exact BK209.out)):gb217 ≠ gb209));clear HO_3;clear HO_4;clear BK201;clear BK209;clear HB;have HO_3:=n0_;have HO_4:=n1_;have BK201:=n2_;have BK209:=n3_;have HB:=n4_;have BK217:=n5_;have GW217:=n6_;have GE217:=n7_;have NB201_217:=n8_;have NB217_201:=n9_;have NB209_217:=n10_;have NB217_209:=n11_;clear n0_ n1_ n2_ n3_ n4_ n5_ n6_ n7_ n8_ n9_ n10_ n11_;clear hb hbox hg;have hnb44:=NB217_201.out;have hnc44:=NB201_217.out;have hnb45:=NB217_209.out;have hnc45:=NB209_217.out;have hcz46_0:w43.cell? ⟨gb217,0,none⟩=some (.string (⟨#[]⟩:ByteArray)):=(kc BK217.out 0).trans rfl;have hcz46_1:w43.cell? ⟨gb217,1,none⟩=some (.int .i64 0):=(kc BK217.out 1).trans rfl;have hcz46_2:w43.cell? ⟨gb217,2,none⟩=some (.int .i64 0):=(kc BK217.out 2).trans rfl;have hcz46_3:w43.cell? ⟨gb217,3,none⟩=some (.string (⟨#[]⟩:ByteArray)):=(kc BK217.out 3).trans rfl;have hcz46_4:w43.cell? ⟨gb217,4,none⟩=some (.slice none 0 0):=(kc BK217.out 4).trans rfl;have hfz46_0:=kf BK217.out 0;have hfz46_1:=kf BK217.out 1;have hfz46_2:=kf BK217.out 2;have hfz46_3:=kf BK217.out 3;have hfz46_4:=kf BK217.out 4;have hnb47:=NB209_201.out;have hnc47:=NB201_209.out;have hcz48_0:w43.cell? ⟨gb209,0,none⟩=some (.string ((rd_T77 l0_1 x29_2).f0.f0)):=(kc BK209.out 0).trans rfl;have hcz48_1:w43.cell? ⟨gb209,1,none⟩=some (.int .i64 ((rd_T77 l0_1 x29_2).f0.f1)):=(kc BK209.out 1).trans rfl;have hcz48_2:w43.cell? ⟨gb209,2,none⟩=some (.int .i64 ((rd_T77 l0_1 x29_2).f0.f2)):=(kc BK209.out 2).trans rfl;have hcz48_3:w43.cell? ⟨gb209,3,none⟩=some (.string ((rd_T77 l0_1 x29_2).f0.f3)):=(kc BK209.out 3).trans rfl;have hcz48_4:w43.cell? ⟨gb209,4,none⟩=some (.slice A208_4 ((rd_T77 l0_1 x29_2).f1).length c208_4):=(kc BK209.out 4).trans rfl;have hfz48_0:=kf BK209.out 0;have hfz48_1:=kf BK209.out 1;have hfz48_2:=kf BK209.out 2;have hfz48_3:=kf BK209.out 3;have hfz48_4:=kf BK209.out 4)|((with_reducible refine gcl (f:=47) rfl ?_);refine goesL_ (some 65) rfl rfl Tryd.func47 (by kernel_rfl) rfl #[.agg #[.string ((rd_T77 y212 x57_4).f0.f0),.int .i64 ((rd_T77 y212 x57_4).f0.f1),.int .i64 ((rd_T77 y212 x57_4).f0.f2),.string ((rd_T77 y212 x57_4).f0.f3)],.agg #[.string ((rd_T77 l0_1 x29_2).f0.f0),.int .i64 ((rd_T77 l0_1 x29_2).f0.f1),.int .i64 ((rd_T77 l0_1 x29_2).f0.f2),.string ((rd_T77 l0_1 x29_2).f0.f3)]] rfl (by (try simp only [zA,zC,zN]);first|done|rfl|(simp only [zM,zL];rfl)) ?_;(with_reducible refine (spec_l4Compare.calls k4 ((rd_T77 y212 x57_4).f0.f0) ((rd_T77 y212 x57_4).f0.f1) ((rd_T77 y212 x57_4).f0.f2) ((rd_T77 y212 x57_4).f0.f3) ((rd_T77 l0_1 x29_2).f0.f0) ((rd_T77 l0_1 x29_2).f0.f1) ((rd_T77 l0_1 x29_2).f0.f2) ((rd_T77 l0_1 x29_2).f0.f3) t218 _ A41.out).mono ?_);rintro e w49 ⟨rfl,hb⟩;refine ⟨_,rfl,?_⟩;have n0_:=AsZ.mk (Kd.R_below (by (with_reducible repeat (first|apply Kd.R_alloc|apply Kd.R_drewN|apply Kd.R_drew));exact (Kd.R_mono (Kd.R_far (p:=⟨gb217,4,none⟩) (Kd.R_far (p:=⟨gb217,3,none⟩) (Kd.R_far (p:=⟨gb217,2,none⟩) (Kd.R_far (p:=⟨gb217,1,none⟩) (Kd.R_far (p:=⟨gb217,0,none⟩) (Kd.R_types HO_3.out BK217.out (by decide)) (fun _ hk=>hk.2) (.string ((rd_T77 y212 x57_4).f0.f0))) (fun _ hk=>hk.2) (.int .i64 ((rd_T77 y212 x57_4).f0.f1))) (fun _ hk=>hk.2) (.int .i64 ((rd_T77 y212 x57_4).f0.f2))) (fun _ hk=>hk.2) (.string ((rd_T77 y212 x57_4).f0.f3))) (fun _ hk=>hk.2) (.slice A216_4 ((rd_T77 y212 x57_4).f1).length c216_4)) (fun _ h_=>h_.1))) hb);have n1_:=AsZ.mk (Kd.R_below (by (with_reducible repeat (first|apply Kd.R_alloc|apply Kd.R_drewN|apply Kd.R_drew));exact (Kd.R_mono (Kd.R_far (p:=⟨gb217,4,none⟩) (Kd.R_far (p:=⟨gb217,3,none⟩) (Kd.R_far (p:=⟨gb217,2,none⟩) (Kd.R_far (p:=⟨gb217,1,none⟩) (Kd.R_far (p:=⟨gb217,0,none⟩) (Kd.R_types HO_4.out BK217.out (by decide)) (fun _ hk=>hk.2) (.string ((rd_T77 y212 x57_4).f0.f0))) (fun _ hk=>hk.2) (.int .i64 ((rd_T77 y212 x57_4).f0.f1))) (fun _ hk=>hk.2) (.int .i64 ((rd_T77 y212 x57_4).f0.f2))) (fun _ hk=>hk.2) (.string ((rd_T77 y212 x57_4).f0.f3))) (fun _ hk=>hk.2) (.slice A216_4 ((rd_T77 y212 x57_4).f1).length c216_4)) (fun _ h_=>h_.1))) hb);have n2_:=AsZ.mk (kb (g:=gb201) (o := .cells #[.slice A0_0 l0_0.length c0_0,.slice (some ad208) l0_1.length c0_1] 26 (0,0)) (by (with_reducible repeat (first|refine kdN ?_ _|refine kd ?_|refine ka ?_ _));refine blk_far ?_ NB201_217.out _;(with_reducible repeat (first|refine kdN ?_ _|refine kd ?_|refine ka ?_ _));refine blk_far ?_ NB201_217.out _;(with_reducible repeat (first|refine kdN ?_ _|refine kd ?_|refine ka ?_ _));refine blk_far ?_ NB201_217.out _;(with_reducible repeat (first|refine kdN ?_ _|refine kd ?_|refine ka ?_ _));refine blk_far ?_ NB201_217.out _;(with_reducible repeat (first|refine kdN ?_ _|refine kd ?_|refine ka ?_ _));refine blk_far ?_ NB201_217.out _;(with_reducible repeat (first|refine kdN ?_ _|refine kd ?_|refine ka ?_ _));exact BK201.out) hb);have n3_:=AsZ.mk (kb (g:=gb209) (o := .cells #[.string ((rd_T77 l0_1 x29_2).f0.f0),.int .i64 ((rd_T77 l0_1 x29_2).f0.f1),.int .i64 ((rd_T77 l0_1 x29_2).f0.f2),.string ((rd_T77 l0_1 x29_2).f0.f3),.slice A208_4 ((rd_T77 l0_1 x29_2).f1).length c208_4] 77 (0,0)) (by (with_reducible repeat (first|refine kdN ?_ _|refine kd ?_|refine ka ?_ _));refine blk_far ?_ NB209_217.out _;(with_reducible repeat (first|refine kdN ?_ _|refine kd ?_|refine ka ?_ _));refine blk_far ?_ NB209_217.out _;(with_reducible repeat (first|refine kdN ?_ _|refine kd ?_|refine ka ?_ _));refine blk_far ?_ NB209_217.out _;(with_reducible repeat (first|refine kdN ?_ _|refine kd ?_|refine ka ?_ _));refine blk_far ?_ NB209_217.out _;(with_reducible repeat (first|refine kdN ?_ _|refine kd ?_|refine ka ?_ _));refine blk_far ?_ NB209_217.out _;(with_reducible repeat (first|refine kdN ?_ _|refine kd ?_|refine ka ?_ _));exact BK209.out) hb);have n4_:=AsZ.mk (kb (g:=gb217) (o := .cells #[.string ((rd_T77 y212 x57_4).f0.f0),.int .i64 ((rd_T77 y212 x57_4).f0.f1),.int .i64 ((rd_T77 y212 x57_4).f0.f2),.string ((rd_T77 y212 x57_4).f0.f3),.slice A216_4 ((rd_T77 y212 x57_4).f1).length c216_4] 77 (0,0)) (by (with_reducible repeat (first|refine kdN ?_ _|refine kd ?_|refine ka ?_ _));refine blk_put (cs:=#[.string ((rd_T77 y212 x57_4).f0.f0),.int .i64 ((rd_T77 y212 x57_4).f0.f1),.int .i64 ((rd_T77 y212 x57_4).f0.f2),.string ((rd_T77 y212 x57_4).f0.f3),.slice none 0 0]) ?_ 4 _ rfl;(with_reducible repeat (first|refine kdN ?_ _|refine kd ?_|refine ka ?_ _));refine blk_put (cs:=#[.string ((rd_T77 y212 x57_4).f0.f0),.int .i64 ((rd_T77 y212 x57_4).f0.f1),.int .i64 ((rd_T77 y212 x57_4).f0.f2),.string (⟨#[]⟩:ByteArray),.slice none 0 0]) ?_ 3 _ rfl;(with_reducible repeat (first|refine kdN ?_ _|refine kd ?_|refine ka ?_ _));refine blk_put (cs:=#[.string ((rd_T77 y212 x57_4).f0.f0),.int .i64 ((rd_T77 y212 x57_4).f0.f1),.int .i64 0,.string (⟨#[]⟩:ByteArray),.slice none 0 0]) ?_ 2 _ rfl;(with_reducible repeat (first|refine kdN ?_ _|refine kd ?_|refine ka ?_ _));refine blk_put (cs:=#[.string ((rd_T77 y212 x57_4).f0.f0),.int .i64 0,.int .i64 0,.string (⟨#[]⟩:ByteArray),.slice none 0 0]) ?_ 1 _ rfl;(with_reducible repeat (first|refine kdN ?_ _|refine kd ?_|refine ka ?_ _));refine blk_put (cs:=#[.string (⟨#[]⟩:ByteArray),.int .i64 0,.int .i64 0,.string (⟨#[]⟩:ByteArray),.slice none 0 0]) ?_ 0 _ rfl;(with_reducible repeat (first|refine kdN ?_ _|refine kd ?_|refine ka ?_ _));exact BK217.out) hb);have n5_:=AsZ.mk (bwp (by repeat (first|(with_reducible first|exact HB.out|apply bwa|apply pbN|apply bw1|refine bws ?_ GE201.out|refine bws ?_ GE209.out|refine bws ?_ GE217.out)|exact HB.out)) hb);clear HO_3;clear HO_4;clear BK201;clear BK209;clear BK217;clear HB;have HO_3:=n0_;have HO_4:=n1_;have BK201:=n2_;have BK209:=n3_;have BK217:=n4_;have HB:=n5_;clear n0_ n1_ n2_ n3_ n4_ n5_;(try clear hb);(try clear hb2);(try clear hk);(try clear hi)))
               go_ret
               exact ⟨by first|rfl|(simp [errW_none,errW_some]<;>rfl)|(simp [*,errW_none,errW_some]<;>rfl),by repeat (first|(with_reducible first|exact HB.out|apply bwa|apply pbN|apply bw1|refine bws ?_ GE201.out|refine bws ?_ GE209.out|refine bws ?_ GE217.out)|exact HB.out)⟩
             rw [if_neg c42] at H
             have c42b0:(t218 == 0)=false:=beq_eq_false_iff_ne.mpr c42
             have c42b1:(t218 != 0)=true:=bne_iff_ne.mpr c42
             have H':=AsZ.mk H
             clear H
             have p216:0≤(x57_4:Int):=zD (by first|(with_reducible assumption)|assumption)
             have q216:x57_4 < (y212.length:Int):=zD (by first|(with_reducible assumption)|assumption)
             obtain ⟨ad216,A216_4,c216_4,e216,hx216_0,hx216_1,hx216_2,hx216_3,hx216_4,hl216_4,hi216_4⟩:=at_T77 HR215.out x57_4 p216 q216
             obtain rfl:ad208=ad216:=(by injection e216)
             replace hx216_0:=(HB.out.cell (zB w _ hx216_0)).trans hx216_0
             replace hx216_1:=(HB.out.cell (zB w _ hx216_1)).trans hx216_1
             replace hx216_2:=(HB.out.cell (zB w _ hx216_2)).trans hx216_2
             replace hx216_3:=(HB.out.cell (zB w _ hx216_3)).trans hx216_3
             replace hx216_4:=(HB.out.cell (zB w _ hx216_4)).trans hx216_4
             have HR216_4:=AsZ.mk hi216_4
             have HC216_4:=AsZ.mk hl216_4
             clear hi216_4 hl216_4
             replace p216:=eq_true p216
             replace q216:=eq_true q216
             go_wp2_with (first|((with_reducible refine gate_dst (N:=8) rfl ?_);(try (refine gate_guard (by rfl) ?_;dsimp only));refine box_event ?hg (N:=8) ?hd (cs:=#[.string (⟨#[]⟩:ByteArray),.int .i64 0,.int .i64 0,.string (⟨#[]⟩:ByteArray),.slice none 0 0]) (t:=77) ?hr ?_;(case hd=>rfl);(case hg=>rfl);(case hr=>first|(go_simp;done)|(go_simp;rfl));intro gb217 hg w50 hbox hb;have n0_:=AsZ.mk (Kd.R_below (by (with_reducible repeat (first|apply Kd.R_alloc|apply Kd.R_drewN|apply Kd.R_drew));exact HO_3.out) hb);have n1_:=AsZ.mk (Kd.R_below (by (with_reducible repeat (first|apply Kd.R_alloc|apply Kd.R_drewN|apply Kd.R_drew));exact HO_4.out) hb);have n2_:=AsZ.mk (kb (g:=gb201) (o := .cells #[.slice A0_0 l0_0.length c0_0,.slice (some ad208) l0_1.length c0_1] 26 (0,0)) (by (with_reducible repeat (first|refine kdN ?_ _|refine kd ?_|refine ka ?_ _));exact BK201.out) hb);have n3_:=AsZ.mk (kb (g:=gb209) (o := .cells #[.string ((rd_T77 l0_1 x29_2).f0.f0),.int .i64 ((rd_T77 l0_1 x29_2).f0.f1),.int .i64 ((rd_T77 l0_1 x29_2).f0.f2),.string ((rd_T77 l0_1 x29_2).f0.f3),.slice A208_4 ((rd_T77 l0_1 x29_2).f1).length c208_4] 77 (0,0)) (by (with_reducible repeat (first|refine kdN ?_ _|refine kd ?_|refine ka ?_ _));exact BK209.out) hb);have n4_:=AsZ.mk (bwp (by repeat (first|(with_reducible first|exact HB.out|apply bwa|apply pbN|apply bw1|refine bws ?_ GE201.out|refine bws ?_ GE209.out)|exact HB.out)) hb);have n5_:=AsZ.mk (hbox);have n6_:=AsZ.mk ((by rw [hg];exact (bwz (by repeat (first|(with_reducible first|exact HB.out|apply bwa|apply pbN|apply bw1|refine bws ?_ GE201.out|refine bws ?_ GE209.out)|exact HB.out))):w.heap.size≤gb217));have n7_:=AsZ.mk ((by rw [hg];exact (bwz (by repeat (first|(with_reducible first|exact HB.out|apply bwa|apply pbN|apply bw1|refine bws ?_ GE201.out|refine bws ?_ GE209.out)|exact HB.out))):w.heap.size≤gb217));have n8_:=AsZ.mk ((by rw [hg];exact Nat.ne_of_lt (blk_lt (g:=gb201) (o := .cells #[.slice A0_0 l0_0.length c0_0,.slice (some ad208) l0_1.length c0_1] 26 (0,0)) (by (with_reducible repeat (first|refine kdN ?_ _|refine kd ?_|refine ka ?_ _));exact BK201.out)):gb201 ≠ gb217));have n9_:=AsZ.mk ((by rw [hg];exact Nat.ne_of_gt (blk_lt (g:=gb201) (o := .cells #[.slice A0_0 l0_0.length c0_0,.slice (some ad208) l0_1.length c0_1] 26 (0,0)) (by (with_reducible repeat (first|refine kdN ?_ _|refine kd ?_|refine ka ?_ _));exact BK201.out)):gb217 ≠ gb201));have n10_:=AsZ.mk ((by rw [hg];exact Nat.ne_of_lt (blk_lt (g:=gb209) (o := .cells #[.string ((rd_T77 l0_1 x29_2).f0.f0),.int .i64 ((rd_T77 l0_1 x29_2).f0.f1),.int .i64 ((rd_T77 l0_1 x29_2).f0.f2),.string ((rd_T77 l0_1 x29_2).f0.f3),.slice A208_4 ((rd_T77 l0_1 x29_2).f1).length c208_4] 77 (0,0)) (by (with_reducible repeat (first|refine kdN ?_ _|refine kd ?_|refine ka ?_ _));exact BK209.out)):gb209 ≠ gb217));have n11_:=AsZ.mk ((by rw [hg];exact Nat.ne_of_gt (blk_lt (g:=gb209) (o := .cells #[.string ((rd_T77 l0_1 x29_2).f0.f0),.int .i64 ((rd_T77 l0_1 x29_2).f0.f1),.int .i64 ((rd_T77 l0_1 x29_2).f0.f2),.string ((rd_T77 l0_1 x29_2).f0.f3),.slice A208_4 ((rd_T77 l0_1 x29_2).f1).length c208_4] 77 (0,0)) (by (with_reducible repeat (first|refine kdN ?_ _|refine kd ?_|refine ka ?_ _));exact BK209.out)):gb217 ≠ gb209));clear HO_3;clear HO_4;clear BK201;clear BK209;clear HB;have HO_3:=n0_;have HO_4:=n1_;have BK201:=n2_;have BK209:=n3_;have HB:=n4_;have BK217:=n5_;have GW217:=n6_;have GE217:=n7_;have NB201_217:=n8_;have NB217_201:=n9_;have NB209_217:=n10_;have NB217_209:=n11_;clear n0_ n1_ n2_ n3_ n4_ n5_ n6_ n7_ n8_ n9_ n10_ n11_;clear hb hbox hg;have hnb51:=NB217_201.out;have hnc51:=NB201_217.out;have hnb52:=NB217_209.out;have hnc52:=NB209_217.out;have hcz53_0:w50.cell? ⟨gb217,0,none⟩=some (.string (⟨#[]⟩:ByteArray)):=(kc BK217.out 0).trans rfl;have hcz53_1:w50.cell? ⟨gb217,1,none⟩=some (.int .i64 0):=(kc BK217.out 1).trans rfl;have hcz53_2:w50.cell? ⟨gb217,2,none⟩=some (.int .i64 0):=(kc BK217.out 2).trans rfl;have hcz53_3:w50.cell? ⟨gb217,3,none⟩=some (.string (⟨#[]⟩:ByteArray)):=(kc BK217.out 3).trans rfl;have hcz53_4:w50.cell? ⟨gb217,4,none⟩=some (.slice none 0 0):=(kc BK217.out 4).trans rfl;have hfz53_0:=kf BK217.out 0;have hfz53_1:=kf BK217.out 1;have hfz53_2:=kf BK217.out 2;have hfz53_3:=kf BK217.out 3;have hfz53_4:=kf BK217.out 4;have hnb54:=NB209_201.out;have hnc54:=NB201_209.out;have hcz55_0:w50.cell? ⟨gb209,0,none⟩=some (.string ((rd_T77 l0_1 x29_2).f0.f0)):=(kc BK209.out 0).trans rfl;have hcz55_1:w50.cell? ⟨gb209,1,none⟩=some (.int .i64 ((rd_T77 l0_1 x29_2).f0.f1)):=(kc BK209.out 1).trans rfl;have hcz55_2:w50.cell? ⟨gb209,2,none⟩=some (.int .i64 ((rd_T77 l0_1 x29_2).f0.f2)):=(kc BK209.out 2).trans rfl;have hcz55_3:w50.cell? ⟨gb209,3,none⟩=some (.string ((rd_T77 l0_1 x29_2).f0.f3)):=(kc BK209.out 3).trans rfl;have hcz55_4:w50.cell? ⟨gb209,4,none⟩=some (.slice A208_4 ((rd_T77 l0_1 x29_2).f1).length c208_4):=(kc BK209.out 4).trans rfl;have hfz55_0:=kf BK209.out 0;have hfz55_1:=kf BK209.out 1;have hfz55_2:=kf BK209.out 2;have hfz55_3:=kf BK209.out 3;have hfz55_4:=kf BK209.out 4)|((with_reducible refine gcl (f:=47) rfl ?_);refine goesL_ (some 65) rfl rfl Tryd.func47 (by kernel_rfl) rfl #[.agg #[.string ((rd_T77 y212 x57_4).f0.f0),.int .i64 ((rd_T77 y212 x57_4).f0.f1),.int .i64 ((rd_T77 y212 x57_4).f0.f2),.string ((rd_T77 y212 x57_4).f0.f3)],.agg #[.string ((rd_T77 l0_1 x29_2).f0.f0),.int .i64 ((rd_T77 l0_1 x29_2).f0.f1),.int .i64 ((rd_T77 l0_1 x29_2).f0.f2),.string ((rd_T77 l0_1 x29_2).f0.f3)]] rfl (by (try simp only [zA,zC,zN]);first|done|rfl|(simp only [zM,zL];rfl)) ?_;(with_reducible refine (spec_l4Compare.calls k4 ((rd_T77 y212 x57_4).f0.f0) ((rd_T77 y212 x57_4).f0.f1) ((rd_T77 y212 x57_4).f0.f2) ((rd_T77 y212 x57_4).f0.f3) ((rd_T77 l0_1 x29_2).f0.f0) ((rd_T77 l0_1 x29_2).f0.f1) ((rd_T77 l0_1 x29_2).f0.f2) ((rd_T77 l0_1 x29_2).f0.f3) t218 _ A41.out).mono ?_);rintro e w56 ⟨rfl,hb⟩;refine ⟨_,rfl,?_⟩;have n0_:=AsZ.mk (Kd.R_below (by (with_reducible repeat (first|apply Kd.R_alloc|apply Kd.R_drewN|apply Kd.R_drew));exact (Kd.R_mono (Kd.R_far (p:=⟨gb217,4,none⟩) (Kd.R_far (p:=⟨gb217,3,none⟩) (Kd.R_far (p:=⟨gb217,2,none⟩) (Kd.R_far (p:=⟨gb217,1,none⟩) (Kd.R_far (p:=⟨gb217,0,none⟩) (Kd.R_types HO_3.out BK217.out (by decide)) (fun _ hk=>hk.2) (.string ((rd_T77 y212 x57_4).f0.f0))) (fun _ hk=>hk.2) (.int .i64 ((rd_T77 y212 x57_4).f0.f1))) (fun _ hk=>hk.2) (.int .i64 ((rd_T77 y212 x57_4).f0.f2))) (fun _ hk=>hk.2) (.string ((rd_T77 y212 x57_4).f0.f3))) (fun _ hk=>hk.2) (.slice A216_4 ((rd_T77 y212 x57_4).f1).length c216_4)) (fun _ h_=>h_.1))) hb);have n1_:=AsZ.mk (Kd.R_below (by (with_reducible repeat (first|apply Kd.R_alloc|apply Kd.R_drewN|apply Kd.R_drew));exact (Kd.R_mono (Kd.R_far (p:=⟨gb217,4,none⟩) (Kd.R_far (p:=⟨gb217,3,none⟩) (Kd.R_far (p:=⟨gb217,2,none⟩) (Kd.R_far (p:=⟨gb217,1,none⟩) (Kd.R_far (p:=⟨gb217,0,none⟩) (Kd.R_types HO_4.out BK217.out (by decide)) (fun _ hk=>hk.2) (.string ((rd_T77 y212 x57_4).f0.f0))) (fun _ hk=>hk.2) (.int .i64 ((rd_T77 y212 x57_4).f0.f1))) (fun _ hk=>hk.2) (.int .i64 ((rd_T77 y212 x57_4).f0.f2))) (fun _ hk=>hk.2) (.string ((rd_T77 y212 x57_4).f0.f3))) (fun _ hk=>hk.2) (.slice A216_4 ((rd_T77 y212 x57_4).f1).length c216_4)) (fun _ h_=>h_.1))) hb);have n2_:=AsZ.mk (kb (g:=gb201) (o := .cells #[.slice A0_0 l0_0.length c0_0,.slice (some ad208) l0_1.length c0_1] 26 (0,0)) (by (with_reducible repeat (first|refine kdN ?_ _|refine kd ?_|refine ka ?_ _));refine blk_far ?_ NB201_217.out _;(with_reducible repeat (first|refine kdN ?_ _|refine kd ?_|refine ka ?_ _));refine blk_far ?_ NB201_217.out _;(with_reducible repeat (first|refine kdN ?_ _|refine kd ?_|refine ka ?_ _));refine blk_far ?_ NB201_217.out _;(with_reducible repeat (first|refine kdN ?_ _|refine kd ?_|refine ka ?_ _));refine blk_far ?_ NB201_217.out _;(with_reducible repeat (first|refine kdN ?_ _|refine kd ?_|refine ka ?_ _));refine blk_far ?_ NB201_217.out _;(with_reducible repeat (first|refine kdN ?_ _|refine kd ?_|refine ka ?_ _));exact BK201.out) hb);have n3_:=AsZ.mk (kb (g:=gb209) (o := .cells #[.string ((rd_T77 l0_1 x29_2).f0.f0),.int .i64 ((rd_T77 l0_1 x29_2).f0.f1),.int .i64 ((rd_T77 l0_1 x29_2).f0.f2),.string ((rd_T77 l0_1 x29_2).f0.f3),.slice A208_4 ((rd_T77 l0_1 x29_2).f1).length c208_4] 77 (0,0)) (by (with_reducible repeat (first|refine kdN ?_ _|refine kd ?_|refine ka ?_ _));refine blk_far ?_ NB209_217.out _;(with_reducible repeat (first|refine kdN ?_ _|refine kd ?_|refine ka ?_ _));refine blk_far ?_ NB209_217.out _;(with_reducible repeat (first|refine kdN ?_ _|refine kd ?_|refine ka ?_ _));refine blk_far ?_ NB209_217.out _;(with_reducible repeat (first|refine kdN ?_ _|refine kd ?_|refine ka ?_ _));refine blk_far ?_ NB209_217.out _;(with_reducible repeat (first|refine kdN ?_ _|refine kd ?_|refine ka ?_ _));refine blk_far ?_ NB209_217.out _;(with_reducible repeat (first|refine kdN ?_ _|refine kd ?_|refine ka ?_ _));exact BK209.out) hb);have n4_:=AsZ.mk (kb (g:=gb217) (o := .cells #[.string ((rd_T77 y212 x57_4).f0.f0),.int .i64 ((rd_T77 y212 x57_4).f0.f1),.int .i64 ((rd_T77 y212 x57_4).f0.f2),.string ((rd_T77 y212 x57_4).f0.f3),.slice A216_4 ((rd_T77 y212 x57_4).f1).length c216_4] 77 (0,0)) (by (with_reducible repeat (first|refine kdN ?_ _|refine kd ?_|refine ka ?_ _));refine blk_put (cs:=#[.string ((rd_T77 y212 x57_4).f0.f0),.int .i64 ((rd_T77 y212 x57_4).f0.f1),.int .i64 ((rd_T77 y212 x57_4).f0.f2),.string ((rd_T77 y212 x57_4).f0.f3),.slice none 0 0]) ?_ 4 _ rfl;(with_reducible repeat (first|refine kdN ?_ _|refine kd ?_|refine ka ?_ _));refine blk_put (cs:=#[.string ((rd_T77 y212 x57_4).f0.f0),.int .i64 ((rd_T77 y212 x57_4).f0.f1),.int .i64 ((rd_T77 y212 x57_4).f0.f2),.string (⟨#[]⟩:ByteArray),.slice none 0 0]) ?_ 3 _ rfl;(with_reducible repeat (first|refine kdN ?_ _|refine kd ?_|refine ka ?_ _));refine blk_put (cs:=#[.string ((rd_T77 y212 x57_4).f0.f0),.int .i64 ((rd_T77 y212 x57_4).f0.f1),.int .i64 0,.string (⟨#[]⟩:ByteArray),.slice none 0 0]) ?_ 2 _ rfl;(with_reducible repeat (first|refine kdN ?_ _|refine kd ?_|refine ka ?_ _));refine blk_put (cs:=#[.string ((rd_T77 y212 x57_4).f0.f0),.int .i64 0,.int .i64 0,.string (⟨#[]⟩:ByteArray),.slice none 0 0]) ?_ 1 _ rfl;(with_reducible repeat (first|refine kdN ?_ _|refine kd ?_|refine ka ?_ _));refine blk_put (cs:=#[.string (⟨#[]⟩:ByteArray),.int .i64 0,.int .i64 0,.string (⟨#[]⟩:ByteArray),.slice none 0 0]) ?_ 0 _ rfl;(with_reducible repeat (first|refine kdN ?_ _|refine kd ?_|refine ka ?_ _));exact BK217.out) hb);have n5_:=AsZ.mk (bwp (by repeat (first|(with_reducible first|exact HB.out|apply bwa|apply pbN|apply bw1|refine bws ?_ GE201.out|refine bws ?_ GE209.out|refine bws ?_ GE217.out)|exact HB.out)) hb);clear HO_3;clear HO_4;clear BK201;clear BK209;clear BK217;clear HB;have HO_3:=n0_;have HO_4:=n1_;have BK201:=n2_;have BK209:=n3_;have BK217:=n4_;have HB:=n5_;clear n0_ n1_ n2_ n3_ n4_ n5_;(try clear hb);(try clear hb2);(try clear hk);(try clear hi)))
             go_roundg k4
             case measure=>have:=HJ1.out;have:=HK2.out;have:=HJ16.out;have:=HK4.out;omega
             case rel=>exact ⟨(wrap64 (x57_4 + 1)),(by first|rfl|(simp;done)|(simp [*];done)),H',⟨by have:=HJ1.out;have:=HK2.out;have:=HJ16.out;have:=HK4.out;omega⟩,⟨by (with_reducible repeat (first|apply Kd.R_alloc|apply Kd.R_drewN|apply Kd.R_drew));exact HO_3.out⟩,⟨by (with_reducible repeat (first|apply Kd.R_alloc|apply Kd.R_drewN|apply Kd.R_drew));exact HO_4.out⟩,⟨by (with_reducible repeat (first|refine kdN ?_ _|refine kd ?_|refine ka ?_ _));exact BK201.out⟩,⟨by (with_reducible repeat (first|refine kdN ?_ _|refine kd ?_|refine ka ?_ _));exact BK209.out⟩,⟨by repeat (first|(with_reducible first|exact HB.out|apply bwa|apply pbN|apply bw1|refine bws ?_ GE201.out|refine bws ?_ GE209.out|refine bws ?_ GE217.out)|exact HB.out)⟩⟩
           rw [if_neg c38] at H
           have c38b0:decide (x57_4 < (y212.length:Int))=false:=decide_eq_false c38
           clear c38
           have H':=AsZ.mk H
           clear H
           have hnb57:=NB209_201.out
           have hnc57:=NB201_209.out
           have hcz58_0:wr.cell? ⟨gb209,0,none⟩=some (.string ((rd_T77 l0_1 x29_2).f0.f0)):=(kc BK209.out 0).trans rfl
           have hcz58_1:wr.cell? ⟨gb209,1,none⟩=some (.int .i64 ((rd_T77 l0_1 x29_2).f0.f1)):=(kc BK209.out 1).trans rfl
           have hcz58_2:wr.cell? ⟨gb209,2,none⟩=some (.int .i64 ((rd_T77 l0_1 x29_2).f0.f2)):=(kc BK209.out 2).trans rfl
           have hcz58_3:wr.cell? ⟨gb209,3,none⟩=some (.string ((rd_T77 l0_1 x29_2).f0.f3)):=(kc BK209.out 3).trans rfl
           have hcz58_4:wr.cell? ⟨gb209,4,none⟩=some (.slice A208_4 ((rd_T77 l0_1 x29_2).f1).length c208_4):=(kc BK209.out 4).trans rfl
           have hfz58_0:=kf BK209.out 0
           have hfz58_1:=kf BK209.out 1
           have hfz58_2:=kf BK209.out 2
           have hfz58_3:=kf BK209.out 3
           have hfz58_4:=kf BK209.out 4
           go_wp2
           go_loopg [71] k4 (fun kq v71 w' => ∃ (x4_5:List Int) (x71_5:Int),v71 = .int .i64 x71_5∧AsZ (spec_GoodSkip.l2 kq t202 x4_5 l0_1 (l0_1.length:Int) x29_2 (((rd_T77 l0_1 x29_2).f1).length:Int) x71_5 l0_0 l0_1 ((rd_T77 l0_1 x29_2).f0.f0) ((rd_T77 l0_1 x29_2).f0.f1) ((rd_T77 l0_1 x29_2).f0.f2) ((rd_T77 l0_1 x29_2).f0.f3) ((rd_T77 l0_1 x29_2).f1)=some r)∧AsZ (kq≤k4)∧AsZ (Kd.R (Kd.int .u32) 106 w' w.heap.size (fun _=>True) v203 t202)∧AsZ (Kd.R (Kd.int .i64) 3 w' w.heap.size (fun _=>True) v206 x4_5)∧AsZ (w'.heap[gb201]? = some (.cells #[(.slice A0_0 l0_0.length c0_0),(.slice (some ad208) l0_1.length c0_1)] 26 (0,0)))∧AsZ (w'.heap[gb209]? = some (.cells #[.string ((rd_T77 l0_1 x29_2).f0.f0),.int .i64 ((rd_T77 l0_1 x29_2).f0.f1),.int .i64 ((rd_T77 l0_1 x29_2).f0.f2),.string ((rd_T77 l0_1 x29_2).f0.f3),(.slice A208_4 ((rd_T77 l0_1 x29_2).f1).length c208_4)] 77 (0,0)))∧AsZ (Below w.heap.size w w'))
           case atStart=>exact ⟨(x4_2),(0),(by first|rfl|(simp;done)|(simp [*];done)),H',⟨Nat.le_refl _⟩,⟨by (with_reducible repeat (first|apply Kd.R_alloc|apply Kd.R_drewN|apply Kd.R_drew));exact HO_3.out⟩,⟨by (with_reducible repeat (first|apply Kd.R_alloc|apply Kd.R_drewN|apply Kd.R_drew));exact HO_4.out⟩,⟨by (with_reducible repeat (first|refine kdN ?_ _|refine kd ?_|refine ka ?_ _));exact BK201.out⟩,⟨by (with_reducible repeat (first|refine kdN ?_ _|refine kd ?_|refine ka ?_ _));exact BK209.out⟩,⟨by repeat (first|(with_reducible first|exact HB.out|apply bwa|apply pbN|apply bw1|refine bws ?_ GE201.out|refine bws ?_ GE209.out)|exact HB.out)⟩⟩
           case round =>
            clear H'
            try clear c1
            try clear c2
            try clear p2
            try clear q2
            try clear hx2
            try clear c3
            try clear q3
            try clear c4
            try clear c4b0
            try clear c4b1
            try clear c5
            try clear p6
            try clear c7
            try clear c9
            try clear c9b0
            try clear c9b1
            try clear c14
            try clear c14b0
            try clear c15
            try clear c15b0
            try clear c16
            try clear c16b0
            try clear c19
            try clear c20
            try clear p20
            try clear q20
            try clear hx20
            try clear c21
            try clear p21
            try clear q21
            try clear hx21
            try clear c22
            try clear c30
            try clear c32
            try clear c33
            try clear c33b0
            try clear c33b1
            try clear c34
            try clear c34b0
            try clear c34b1
            try clear c35
            try clear q37
            try clear c38
            try clear c38b0
            try clear c39
            try clear c39b0
            try clear c40
            try clear c40b0
            try clear c42
            try clear c42b0
            try clear c42b1
            try clear c44
            try clear c45
            try clear c47
            try clear c51
            try clear c52
            try clear c54
            try clear c55
            try clear c57
            try clear hcz13_0
            try clear hcz13_1
            try clear hcz20_0
            try clear hcz20_1
            try clear hcz20_2
            try clear hcz20_3
            try clear hcz20_4
            try clear hcz36_0
            try clear hcz36_1
            try clear hcz46_0
            try clear hcz46_1
            try clear hcz46_2
            try clear hcz46_3
            try clear hcz46_4
            try clear hcz48_0
            try clear hcz48_1
            try clear hcz48_2
            try clear hcz48_3
            try clear hcz48_4
            try clear hcz53_0
            try clear hcz53_1
            try clear hcz53_2
            try clear hcz53_3
            try clear hcz53_4
            try clear hcz55_0
            try clear hcz55_1
            try clear hcz55_2
            try clear hcz55_3
            try clear hcz55_4
            try clear hcz58_0
            try clear hcz58_1
            try clear hcz58_2
            try clear hcz58_3
            try clear hcz58_4
            try clear hcz5_0
            try clear hcz5_1
            try clear hcz6_0
            try clear hcz6_1
            try clear hfz13_0
            try clear hfz13_1
            try clear hfz20_0
            try clear hfz20_1
            try clear hfz20_2
            try clear hfz20_3
            try clear hfz20_4
            try clear hfz36_0
            try clear hfz36_1
            try clear hfz46_0
            try clear hfz46_1
            try clear hfz46_2
            try clear hfz46_3
            try clear hfz46_4
            try clear hfz48_0
            try clear hfz48_1
            try clear hfz48_2
            try clear hfz48_3
            try clear hfz48_4
            try clear hfz53_0
            try clear hfz53_1
            try clear hfz53_2
            try clear hfz53_3
            try clear hfz53_4
            try clear hfz55_0
            try clear hfz55_1
            try clear hfz55_2
            try clear hfz55_3
            try clear hfz55_4
            try clear hfz58_0
            try clear hfz58_1
            try clear hfz58_2
            try clear hfz58_3
            try clear hfz58_4
            try clear hfz5_0
            try clear hfz5_1
            try clear hfz6_0
            try clear hfz6_1
            try clear hx208_0
            try clear hx208_1
            try clear hx208_2
            try clear hx208_3
            try clear hx208_4
            try clear hx216_0
            try clear hx216_1
            try clear hx216_2
            try clear hx216_3
            try clear hx216_4
            try clear p2
            try clear p20
            try clear p208
            try clear p216
            try clear q2
            try clear q20
            try clear q208
            try clear q216
            try clear q3
            try clear q37
            obtain ⟨x4_5,x71_5,rfl,HA,HK5,HO_3,HO_4,BK201,BK209,HB⟩:=hrel
            cases gk with
            |zero=>exact absurd HA.out (by simp [spec_GoodSkip.l2])
            |succ k5 =>
             have H:=HA.out
             clear HA
             simp only [spec_GoodSkip.l2] at H
             by_cases c59:x71_5 < (((rd_T77 l0_1 x29_2).f1).length:Int)
             rotate_left
             · rw [if_neg c59] at H
               have c59b0:decide (x71_5 < (((rd_T77 l0_1 x29_2).f1).length:Int))=false:=decide_eq_false c59
               clear c59
               have H':=AsZ.mk H
               clear H
               go_wp2
               go_roundg k5
               case measure=>have:=HJ1.out;have:=HK2.out;have:=HJ16.out;have:=HK4.out;have:=HK5.out;omega
               case rel=>exact ⟨(x4_5),(wrap64 (x29_2 + 1)),(by first|rfl|(simp;done)|(simp [*];done)),H',⟨by have:=HJ1.out;have:=HK2.out;have:=HJ16.out;have:=HK4.out;have:=HK5.out;omega⟩,⟨by (with_reducible repeat (first|apply Kd.R_alloc|apply Kd.R_drewN|apply Kd.R_drew));exact HO_3.out⟩,⟨by (with_reducible repeat (first|apply Kd.R_alloc|apply Kd.R_drewN|apply Kd.R_drew));exact HO_4.out⟩,⟨by (with_reducible repeat (first|refine kdN ?_ _|refine kd ?_|refine ka ?_ _));exact BK201.out⟩,⟨by repeat (first|(with_reducible first|exact HB.out|apply bwa|apply pbN|apply bw1|refine bws ?_ GE201.out|refine bws ?_ GE209.out)|exact HB.out)⟩⟩
             rw [if_pos c59] at H
             have c59b0:decide (x71_5 < (((rd_T77 l0_1 x29_2).f1).length:Int))=true:=zE c59
             clear c59
             by_cases c60:0≤x71_5
             rotate_left
             · rw [if_neg c60] at H
               exact absurd H (by simp)
             rw [if_pos c60] at H
             have c60b0:decide (0≤x71_5)=true:=zE c60
             clear c60
             by_cases c61:x71_5 < (x4_5.length:Int)
             rotate_left
             · rw [if_neg c61] at H
               exact absurd H (by simp)
             rw [if_pos c61] at H
             have c61b0:decide (x71_5 < (x4_5.length:Int))=true:=zE c61
             clear c61
             obtain ⟨y220,hy220⟩:∃ y_:List Int,y_=(x4_5.set (x71_5:Int).toNat (wrap64 ((rd x4_5 x71_5) + 1))):=⟨_,rfl⟩
             replace H:(if x71_5 < (((rd_T77 l0_1 x29_2).f1).length:Int) then ((spec_l1In.f (rd ((rd_T77 l0_1 x29_2).f1) x71_5) (-1) (wrap64 ((l0_1.length:Int) - 1))).bind fun t222=>(if t222=true then (spec_GoodSkip.l2 k5 t202 y220 l0_1 (l0_1.length:Int) x29_2 (((rd_T77 l0_1 x29_2).f1).length:Int) (wrap64 (x71_5 + 1)) l0_0 l0_1 ((rd_T77 l0_1 x29_2).f0.f0) ((rd_T77 l0_1 x29_2).f0.f1) ((rd_T77 l0_1 x29_2).f0.f2) ((rd_T77 l0_1 x29_2).f0.f3) ((rd_T77 l0_1 x29_2).f1)) else (some false))) else (none))=some r:=by first|(rw [hy220];with_reducible exact H)|(have H2_:=(Option.bind_some _ _).symm.trans H;rw [hy220];with_reducible exact H2_)|(have H2_:=(Option.bind_some _ _).symm.trans H;with_reducible exact H2_)|with_reducible exact H|(rw [hy220];exact H)|exact H
             have Ny220:=AsZ.mk hy220
             clear hy220
             by_cases c63:x71_5 < (((rd_T77 l0_1 x29_2).f1).length:Int)
             rotate_left
             · rw [if_neg c63] at H
               exact absurd H (by simp)
             rw [if_pos c63] at H
             have c63b0:decide (x71_5 < (((rd_T77 l0_1 x29_2).f1).length:Int))=true:=zE c63
             clear c63
             replace H:=Option.bind_eq_some_iff.mp H
             obtain ⟨t222,A640,H⟩:=H
             replace H:(if t222=true then (spec_GoodSkip.l2 k5 t202 y220 l0_1 (l0_1.length:Int) x29_2 (((rd_T77 l0_1 x29_2).f1).length:Int) (wrap64 (x71_5 + 1)) l0_0 l0_1 ((rd_T77 l0_1 x29_2).f0.f0) ((rd_T77 l0_1 x29_2).f0.f1) ((rd_T77 l0_1 x29_2).f0.f2) ((rd_T77 l0_1 x29_2).f0.f3) ((rd_T77 l0_1 x29_2).f1)) else (some false))=some r:=H
             have A64:=AsZ.mk A640
             clear A640
             by_cases c65:t222=true
             rotate_left
             · replace c65:=Bool.eq_false_iff.mpr c65
               subst c65
               have H1:(some false)=some r:=by rw [if_neg (show ¬ (false=true) by decide)] at H;exact H
               clear H
               have H:=H1
               clear H1
               obtain rfl:=zI H
               obtain ⟨Ao70,co70,eo70⟩:=Kd.R_slice HO_4.out
               subst eo70
               have p219:0≤(x71_5:Int):=zD (by first|(with_reducible assumption)|assumption)
               have q219:x71_5 < (x4_5.length:Int):=zD (by first|(with_reducible assumption)|assumption)
               obtain ⟨ad219,e219,hx219_0⟩:=Kd.at_int (Kd.R_reads' HO_4.out).2.2 x71_5 p219 q219
               cases e219
               replace p219:=eq_true p219
               replace q219:=eq_true q219
               have p62:0≤(x71_5:Int):=zD (by first|(with_reducible assumption)|assumption)
               have q62:(x71_5:Int) < ((x4_5.length:Int):Int):=zD (by first|(with_reducible assumption)|assumption)
               obtain ⟨go62,co62,eo62,gb62,gl62,cl62,HG62⟩:=Kd.R_form HO_4.out (by omega)
               (first|cases eo62|(injection eo62 with ea_ en_ ec_;(first|subst ea_|(injection ea_ with ea_;subst ea_));subst ec_;clear en_))
               have GB62:=AsZ.mk gb62
               have GG62:=AsZ.mk HG62
               clear gb62 gl62 HG62
               (first|simp only [add_plain] at hx219_0|skip)
               obtain ⟨hx62_0,hf62_0⟩:=Kd.R_celln 0 HO_4.out (x71_5:Int) p62 q62
               replace p62:=eq_true p62
               replace q62:=eq_true q62
               have HP71:=Kd.R_putg HO_4.out (x71_5:Int) (wrap64 ((rd x4_5 x71_5) + 1))
               try go_wp2_with (first|((with_reducible refine gate_store (t:=3) (p:=79) rfl ?_);refine store_event (t:=3) (p:=79) (v:=?vo_w72) (w1:=(wr.setCell ⟨go62,(x71_5:Int).toNat,none⟩ (.int .i64 (wrap64 ((rd x4_5 x71_5) + 1))))) ?hg ?ho ?hn ?hr ?_;(case ho=>rfl);(case hg=>rfl);(case hn=>rfl);(case hr=>first|(go_simp;done)|(go_simp;rfl));intro w72 hw;have hg:wr.grownBy w72 (some go62):=(by rw [hw];exact HP71.2);have hp_:Kd.R (Kd.int .i64) 3 w72 w.heap.size (fun _=>True) (.slice (some ⟨go62,0,none⟩) x4_5.length co70) y220:=(by rw [hw,Ny220.out];exact HP71.1);clear HP71;have n0_:=AsZ.mk (Kd.R_over' (v:=(.slice (some ⟨go62,0,none⟩) x4_5.length co70)) (by (with_reducible repeat (first|apply Kd.R_alloc|apply Kd.R_drewN|apply Kd.R_drew));exact HO_3.out) (Kd.R_typed HO_4.out) (by decide) hg);have n1_:=AsZ.mk (hp_);have n2_:=AsZ.mk (blk_grown (g:=gb201) (o := .cells #[.slice A0_0 l0_0.length c0_0,.slice (some ad208) l0_1.length c0_1] 26 (0,0)) (by (with_reducible repeat (first|refine kdN ?_ _|refine kd ?_|refine ka ?_ _));exact BK201.out) hg (Kd.R_ne HO_4.out BK201.out (by decide)));have n3_:=AsZ.mk (blk_grown (g:=gb209) (o := .cells #[.string ((rd_T77 l0_1 x29_2).f0.f0),.int .i64 ((rd_T77 l0_1 x29_2).f0.f1),.int .i64 ((rd_T77 l0_1 x29_2).f0.f2),.string ((rd_T77 l0_1 x29_2).f0.f3),.slice A208_4 ((rd_T77 l0_1 x29_2).f1).length c208_4] 77 (0,0)) (by (with_reducible repeat (first|refine kdN ?_ _|refine kd ?_|refine ka ?_ _));exact BK209.out) hg (Kd.R_ne HO_4.out BK209.out (by decide)));have n4_:=AsZ.mk ((by rw [hw];exact bws (HB.out) GB62.out:Below w.heap.size w w72));clear HO_3;clear HO_4;clear BK201;clear BK209;clear HB;have HO_3:=n0_;have HO_4:=n1_;have BK201:=n2_;have BK209:=n3_;have HB:=n4_;clear n0_ n1_ n2_ n3_ n4_;clear hg hw hp_))
               have n0_:=AsZ.mk (Kd.R_drew HO_3.out)
               have n1_:=AsZ.mk (Kd.R_drew HO_4.out)
               have n2_:=AsZ.mk (kd BK201.out)
               have n3_:=AsZ.mk (kd BK209.out)
               have n4_:=AsZ.mk (bw1 HB.out)
               clear HO_3 HO_4 BK201 BK209 HB
               have HO_3:=n0_
               have HO_4:=n1_
               have BK201:=n2_
               have BK209:=n3_
               have HB:=n4_
               clear n0_ n1_ n2_ n3_ n4_
               have p221:0≤(x71_5:Int):=zD (by first|(with_reducible assumption)|assumption)
               have q221:x71_5 < (((rd_T77 l0_1 x29_2).f1).length:Int):=zD (by first|(with_reducible assumption)|assumption)
               obtain ⟨ad221,e221,hx221_0⟩:=Kd.at_int HR208_4.out x71_5 p221 q221
               have hw221_0:=hx221_0
               cases e221
               replace hx221_0:=(HB.out.cell (zB w _ hx221_0)).trans hx221_0
               replace p221:=eq_true p221
               replace q221:=eq_true q221
               refine start_ (n:=11) (S:=fun w'=>w'.cell? ⟨gb209,0,none⟩=some (.string ((rd_T77 l0_1 x29_2).f0.f0))∧w'.cell? ⟨gb209,1,none⟩=some (.int .i64 ((rd_T77 l0_1 x29_2).f0.f1))∧w'.cell? ⟨gb209,2,none⟩=some (.int .i64 ((rd_T77 l0_1 x29_2).f0.f2))∧w'.cell? ⟨gb209,3,none⟩=some (.string ((rd_T77 l0_1 x29_2).f0.f3))∧w'.cell? ⟨gb209,4,none⟩=some (.slice (some ad221) ((rd_T77 l0_1 x29_2).f1).length c208_4)∧w'.cell? ⟨gb201,0,none⟩=some (.slice A0_0 l0_0.length c0_0)∧w'.cell? ⟨gb201,1,none⟩=some (.slice (some ad208) l0_1.length c0_1)∧w'.cell? (ad221.add (x71_5).toNat)=some (.int .i64 (rd ((rd_T77 l0_1 x29_2).f1) x71_5))) (ds:=[]) (b_ 0 11) (by kernel_rfl) rfl rfl ⟨(kc BK209.out 0).trans rfl,(kc BK209.out 1).trans rfl,(kc BK209.out 2).trans rfl,(kc BK209.out 3).trans rfl,(kc BK209.out 4).trans rfl,(kc BK201.out 0).trans rfl,(kc BK201.out 1).trans rfl,((HB.out.cell (zB w _ hw221_0)).trans hw221_0)⟩ (fun hHeld=>?_);refine with_tabW spec_GoodSkip.tab20 spec_GoodSkip.bits20 (fun HT_ HW_=>?_)
               generalize w72.drew=w73 at HO_3 HO_4 BK201 BK209 HB hx221_0 hHeld ⊢
               refine pure_ (i:=0) (N:=some 80) (v:=?_) (a':=?_) (b_ 1 10) rfl rfl (anO HT_.out (by kernel_rfl)) (fun _ _ _ h=>h) (Or.inl ⟨by rfl,?_⟩) ?_ ?_
               rotate_left
               · intro w'
                 go_simp
                 with_reducible rfl
               rotate_left
               · simp only [Act.put,zS,zT,zU,i64_w,i32_w]
                 rfl
               refine pure_ (i:=2) (N:=some 82) (v:=?_) (a':=?_) #[true,false,true,false,false,false,false,false,false,false,false] rfl rfl (anO HT_.out (by kernel_rfl)) (fun _ _ _ h=>h) (Or.inl ⟨by rfl,?_⟩) ?_ ?_
               rotate_left
               · intro w'
                 go_simp
                 with_reducible rfl
               rotate_left
               · simp only [Act.put,zS,zT,zU,i64_w,i32_w]
                 rfl
               refine pure_ (i:=5) (N:=some 85) (v:=?_) (a':=?_) #[true,false,true,false,false,true,false,false,false,false,false] rfl rfl (anO HT_.out (by kernel_rfl)) (fun _ _ _ h=>h) (Or.inl ⟨by rfl,?_⟩) ?_ ?_
               rotate_left
               · intro w'
                 go_simp
                 with_reducible rfl
               rotate_left
               · simp only [Act.put,zS,zT,zU,i64_w,i32_w]
                 rfl
               refine take_ (i:=1) (N:=some 81) (v:=?_) (a':=?_) #[true,true,true,false,false,true,false,false,false,false,false] rfl rfl (tkO HT_.out HW_.out (by kernel_rfl)) (fun _ _ _ h=>h) (Or.inl ⟨by rfl,?_⟩) hHeld ?_ ?_
               rotate_left
               · rintro w' ⟨s0,s1,s2,s3,s4,s5,s6,s7⟩
                 go_simp
                 with_reducible rfl
               rotate_left
               · simp only [Act.put,zS,zT,zU,i64_w,i32_w]
                 rfl
               refine pure_ (i:=3) (N:=some 83) (v:=?_) (a':=?_) #[true,true,true,true,false,true,false,false,false,false,false] rfl rfl (anO HT_.out (by kernel_rfl)) (fun _ _ _ h=>h) (Or.inl ⟨by rfl,?_⟩) ?_ ?_
               rotate_left
               · intro w'
                 go_simp
                 with_reducible rfl
               rotate_left
               · simp only [Act.put,zS,zT,zU,i64_w,i32_w]
                 rfl
               refine take_ (i:=4) (N:=some 84) (v:=?_) (a':=?_) (b_ 6 5) rfl rfl (tkO HT_.out HW_.out (by kernel_rfl)) (fun _ _ _ h=>h) (Or.inl ⟨by rfl,?_⟩) hHeld ?_ ?_
               rotate_left
               · rintro w' ⟨s0,s1,s2,s3,s4,s5,s6,s7⟩
                 go_simp
                 with_reducible rfl
               rotate_left
               · simp only [Act.put,zS,zT,zU,i64_w,i32_w]
                 rfl
               refine take_ (i:=6) (N:=some 86) (v:=?_) (a':=?_) (b_ 7 4) rfl rfl (tkO HT_.out HW_.out (by kernel_rfl)) (fun _ _ _ h=>h) (Or.inl ⟨by rfl,?_⟩) hHeld ?_ ?_
               rotate_left
               · rintro w' ⟨s0,s1,s2,s3,s4,s5,s6,s7⟩
                 go_simp
                 with_reducible rfl
               rotate_left
               · simp only [Act.put,zS,zT,zU,i64_w,i32_w]
                 rfl
               refine pure_ (i:=7) (N:=some 87) (v:=?_) (a':=?_) (b_ 8 3) rfl rfl (anO HT_.out (by kernel_rfl)) (fun _ _ _ h=>h) (Or.inl ⟨by rfl,?_⟩) ?_ ?_
               rotate_left
               · intro w'
                 go_simp
                 with_reducible rfl
               rotate_left
               · simp only [Act.put,zS,zT,zU,i64_w,i32_w]
                 rfl
               refine pure_ (i:=8) (N:=some 88) (v:=?_) (a':=?_) (b_ 9 2) rfl rfl (anO HT_.out (by kernel_rfl)) (fun _ _ _ h=>h) (Or.inl ⟨by rfl,?_⟩) ?_ ?_
               rotate_left
               · intro w'
                 go_simp
                 with_reducible rfl
               rotate_left
               · simp only [Act.put,zS,zT,zU,i64_w,i32_w]
                 rfl
               refine one_ (i:=9) (N:=some 89) (b_ 10 1) rfl rfl (one_of HT_.out (by kernel_rfl)) (by decide) (fun K hK=>?_)
               refine goes_ Tryd.func59 (by kernel_rfl) rfl #[.int .i64 (rd ((rd_T77 l0_1 x29_2).f1) x71_5),.int .i64 (-1),.int .i64 (wrap64 ((l0_1.length:Int) - 1))] (by rfl) rfl rfl (by (try simp only [zA,zC,zN]);first|done|rfl|(simp only [zM,zL];rfl)) ?_
               with_reducible refine (spec_l1In.calls (rd ((rd_T77 l0_1 x29_2).f1) x71_5) (-1) (wrap64 ((l0_1.length:Int) - 1)) false _ A64.out).mono ?_
               rintro e w' ⟨rfl,⟨nd,rfl⟩⟩
               refine ⟨_,rfl,?_⟩
               refine hK.out _ _ ⟨(kc BK209.out 0).trans rfl,(kc BK209.out 1).trans rfl,(kc BK209.out 2).trans rfl,(kc BK209.out 3).trans rfl,(kc BK209.out 4).trans rfl,(kc BK201.out 0).trans rfl,(kc BK201.out 1).trans rfl,((HB.out.cell (zB w _ hw221_0)).trans hw221_0)⟩ (fun hHeld=>?_)
               clear hK K
               refine norm_ (a':=?_) ?_ ?_
               rotate_left
               · show Act.put _ (some 89) _=_
                 simp only [Act.put,zS,zT,zU,i64_w,i32_w]
                 rfl
               refine pure_ (i:=10) (N:=some 90) (v:=?_) (a':=?_) (b_ 11 0) rfl rfl (anO HT_.out (by kernel_rfl)) (fun _ _ _ h=>h) (Or.inl ⟨by rfl,?_⟩) ?_ ?_
               rotate_left
               · intro w'
                 go_simp
                 with_reducible rfl
               rotate_left
               · simp only [Act.put,zS,zT,zU,i64_w,i32_w]
                 rfl
               refine dn_ (dnO HT_.out (by kernel_rfl)) ?_
               try go_wp2
               go_ret
               exact ⟨by first|rfl|(simp [errW_none,errW_some]<;>rfl)|(simp [*,errW_none,errW_some]<;>rfl),by repeat (first|(with_reducible first|exact HB.out|apply bwa|apply pbN|apply bw1|refine bws ?_ GE201.out|refine bws ?_ GE209.out)|exact HB.out)⟩
             subst c65
             have H1:(spec_GoodSkip.l2 k5 t202 y220 l0_1 (l0_1.length:Int) x29_2 (((rd_T77 l0_1 x29_2).f1).length:Int) (wrap64 (x71_5 + 1)) l0_0 l0_1 ((rd_T77 l0_1 x29_2).f0.f0) ((rd_T77 l0_1 x29_2).f0.f1) ((rd_T77 l0_1 x29_2).f0.f2) ((rd_T77 l0_1 x29_2).f0.f3) ((rd_T77 l0_1 x29_2).f1))=some r:=by rw [if_pos rfl] at H;exact H
             clear H
             have H:=H1
             clear H1
             have H':=AsZ.mk H
             clear H
             obtain ⟨Ao66,co66,eo66⟩:=Kd.R_slice HO_4.out
             subst eo66
             have p219:0≤(x71_5:Int):=zD (by first|(with_reducible assumption)|assumption)
             have q219:x71_5 < (x4_5.length:Int):=zD (by first|(with_reducible assumption)|assumption)
             obtain ⟨ad219,e219,hx219_0⟩:=Kd.at_int (Kd.R_reads' HO_4.out).2.2 x71_5 p219 q219
             cases e219
             replace p219:=eq_true p219
             replace q219:=eq_true q219
             have p62:0≤(x71_5:Int):=zD (by first|(with_reducible assumption)|assumption)
             have q62:(x71_5:Int) < ((x4_5.length:Int):Int):=zD (by first|(with_reducible assumption)|assumption)
             obtain ⟨go62,co62,eo62,gb62,gl62,cl62,HG62⟩:=Kd.R_form HO_4.out (by omega)
             (first|cases eo62|(injection eo62 with ea_ en_ ec_;(first|subst ea_|(injection ea_ with ea_;subst ea_));subst ec_;clear en_))
             have GB62:=AsZ.mk gb62
             have GG62:=AsZ.mk HG62
             clear gb62 gl62 HG62
             (first|simp only [add_plain] at hx219_0|skip)
             obtain ⟨hx62_0,hf62_0⟩:=Kd.R_celln 0 HO_4.out (x71_5:Int) p62 q62
             replace p62:=eq_true p62
             replace q62:=eq_true q62
             have HP67:=Kd.R_putg HO_4.out (x71_5:Int) (wrap64 ((rd x4_5 x71_5) + 1))
             try go_wp2_with (first|((with_reducible refine gate_store (t:=3) (p:=79) rfl ?_);refine store_event (t:=3) (p:=79) (v:=?vo_w68) (w1:=(wr.setCell ⟨go62,(x71_5:Int).toNat,none⟩ (.int .i64 (wrap64 ((rd x4_5 x71_5) + 1))))) ?hg ?ho ?hn ?hr ?_;(case ho=>rfl);(case hg=>rfl);(case hn=>rfl);(case hr=>first|(go_simp;done)|(go_simp;rfl));intro w68 hw;have hg:wr.grownBy w68 (some go62):=(by rw [hw];exact HP67.2);have hp_:Kd.R (Kd.int .i64) 3 w68 w.heap.size (fun _=>True) (.slice (some ⟨go62,0,none⟩) x4_5.length co66) y220:=(by rw [hw,Ny220.out];exact HP67.1);clear HP67;have n0_:=AsZ.mk (Kd.R_over' (v:=(.slice (some ⟨go62,0,none⟩) x4_5.length co66)) (by (with_reducible repeat (first|apply Kd.R_alloc|apply Kd.R_drewN|apply Kd.R_drew));exact HO_3.out) (Kd.R_typed HO_4.out) (by decide) hg);have n1_:=AsZ.mk (hp_);have n2_:=AsZ.mk (blk_grown (g:=gb201) (o := .cells #[.slice A0_0 l0_0.length c0_0,.slice (some ad208) l0_1.length c0_1] 26 (0,0)) (by (with_reducible repeat (first|refine kdN ?_ _|refine kd ?_|refine ka ?_ _));exact BK201.out) hg (Kd.R_ne HO_4.out BK201.out (by decide)));have n3_:=AsZ.mk (blk_grown (g:=gb209) (o := .cells #[.string ((rd_T77 l0_1 x29_2).f0.f0),.int .i64 ((rd_T77 l0_1 x29_2).f0.f1),.int .i64 ((rd_T77 l0_1 x29_2).f0.f2),.string ((rd_T77 l0_1 x29_2).f0.f3),.slice A208_4 ((rd_T77 l0_1 x29_2).f1).length c208_4] 77 (0,0)) (by (with_reducible repeat (first|refine kdN ?_ _|refine kd ?_|refine ka ?_ _));exact BK209.out) hg (Kd.R_ne HO_4.out BK209.out (by decide)));have n4_:=AsZ.mk ((by rw [hw];exact bws (HB.out) GB62.out:Below w.heap.size w w68));clear HO_3;clear HO_4;clear BK201;clear BK209;clear HB;have HO_3:=n0_;have HO_4:=n1_;have BK201:=n2_;have BK209:=n3_;have HB:=n4_;clear n0_ n1_ n2_ n3_ n4_;clear hg hw hp_))
             have n0_:=AsZ.mk (Kd.R_drew HO_3.out)
             have n1_:=AsZ.mk (Kd.R_drew HO_4.out)
             have n2_:=AsZ.mk (kd BK201.out)
             have n3_:=AsZ.mk (kd BK209.out)
             have n4_:=AsZ.mk (bw1 HB.out)
             clear HO_3 HO_4 BK201 BK209 HB
             have HO_3:=n0_
             have HO_4:=n1_
             have BK201:=n2_
             have BK209:=n3_
             have HB:=n4_
             clear n0_ n1_ n2_ n3_ n4_
             have p221:0≤(x71_5:Int):=zD (by first|(with_reducible assumption)|assumption)
             have q221:x71_5 < (((rd_T77 l0_1 x29_2).f1).length:Int):=zD (by first|(with_reducible assumption)|assumption)
             obtain ⟨ad221,e221,hx221_0⟩:=Kd.at_int HR208_4.out x71_5 p221 q221
             have hw221_0:=hx221_0
             cases e221
             replace hx221_0:=(HB.out.cell (zB w _ hx221_0)).trans hx221_0
             replace p221:=eq_true p221
             replace q221:=eq_true q221
             refine start_ (n:=11) (S:=fun w'=>w'.cell? ⟨gb209,0,none⟩=some (.string ((rd_T77 l0_1 x29_2).f0.f0))∧w'.cell? ⟨gb209,1,none⟩=some (.int .i64 ((rd_T77 l0_1 x29_2).f0.f1))∧w'.cell? ⟨gb209,2,none⟩=some (.int .i64 ((rd_T77 l0_1 x29_2).f0.f2))∧w'.cell? ⟨gb209,3,none⟩=some (.string ((rd_T77 l0_1 x29_2).f0.f3))∧w'.cell? ⟨gb209,4,none⟩=some (.slice (some ad221) ((rd_T77 l0_1 x29_2).f1).length c208_4)∧w'.cell? ⟨gb201,0,none⟩=some (.slice A0_0 l0_0.length c0_0)∧w'.cell? ⟨gb201,1,none⟩=some (.slice (some ad208) l0_1.length c0_1)∧w'.cell? (ad221.add (x71_5).toNat)=some (.int .i64 (rd ((rd_T77 l0_1 x29_2).f1) x71_5))) (ds:=[]) (b_ 0 11) (by kernel_rfl) rfl rfl ⟨(kc BK209.out 0).trans rfl,(kc BK209.out 1).trans rfl,(kc BK209.out 2).trans rfl,(kc BK209.out 3).trans rfl,(kc BK209.out 4).trans rfl,(kc BK201.out 0).trans rfl,(kc BK201.out 1).trans rfl,((HB.out.cell (zB w _ hw221_0)).trans hw221_0)⟩ (fun hHeld=>?_);refine with_tabW spec_GoodSkip.tab20 spec_GoodSkip.bits20 (fun HT_ HW_=>?_)
             generalize w68.drew=w69 at HO_3 HO_4 BK201 BK209 HB hx221_0 hHeld ⊢
             refine pure_ (i:=0) (N:=some 80) (v:=?_) (a':=?_) (b_ 1 10) rfl rfl (anO HT_.out (by kernel_rfl)) (fun _ _ _ h=>h) (Or.inl ⟨by rfl,?_⟩) ?_ ?_
             rotate_left
             · intro w'
               go_simp
               with_reducible rfl
             rotate_left
             · simp only [Act.put,zS,zT,zU,i64_w,i32_w]
               rfl
             refine pure_ (i:=2) (N:=some 82) (v:=?_) (a':=?_) #[true,false,true,false,false,false,false,false,false,false,false] rfl rfl (anO HT_.out (by kernel_rfl)) (fun _ _ _ h=>h) (Or.inl ⟨by rfl,?_⟩) ?_ ?_
             rotate_left
             · intro w'
               go_simp
               with_reducible rfl
             rotate_left
             · simp only [Act.put,zS,zT,zU,i64_w,i32_w]
               rfl
             refine pure_ (i:=5) (N:=some 85) (v:=?_) (a':=?_) #[true,false,true,false,false,true,false,false,false,false,false] rfl rfl (anO HT_.out (by kernel_rfl)) (fun _ _ _ h=>h) (Or.inl ⟨by rfl,?_⟩) ?_ ?_
             rotate_left
             · intro w'
               go_simp
               with_reducible rfl
             rotate_left
             · simp only [Act.put,zS,zT,zU,i64_w,i32_w]
               rfl
             refine take_ (i:=1) (N:=some 81) (v:=?_) (a':=?_) #[true,true,true,false,false,true,false,false,false,false,false] rfl rfl (tkO HT_.out HW_.out (by kernel_rfl)) (fun _ _ _ h=>h) (Or.inl ⟨by rfl,?_⟩) hHeld ?_ ?_
             rotate_left
             · rintro w' ⟨s0,s1,s2,s3,s4,s5,s6,s7⟩
               go_simp
               with_reducible rfl
             rotate_left
             · simp only [Act.put,zS,zT,zU,i64_w,i32_w]
               rfl
             refine pure_ (i:=3) (N:=some 83) (v:=?_) (a':=?_) #[true,true,true,true,false,true,false,false,false,false,false] rfl rfl (anO HT_.out (by kernel_rfl)) (fun _ _ _ h=>h) (Or.inl ⟨by rfl,?_⟩) ?_ ?_
             rotate_left
             · intro w'
               go_simp
               with_reducible rfl
             rotate_left
             · simp only [Act.put,zS,zT,zU,i64_w,i32_w]
               rfl
             refine take_ (i:=4) (N:=some 84) (v:=?_) (a':=?_) (b_ 6 5) rfl rfl (tkO HT_.out HW_.out (by kernel_rfl)) (fun _ _ _ h=>h) (Or.inl ⟨by rfl,?_⟩) hHeld ?_ ?_
             rotate_left
             · rintro w' ⟨s0,s1,s2,s3,s4,s5,s6,s7⟩
               go_simp
               with_reducible rfl
             rotate_left
             · simp only [Act.put,zS,zT,zU,i64_w,i32_w]
               rfl
             refine take_ (i:=6) (N:=some 86) (v:=?_) (a':=?_) (b_ 7 4) rfl rfl (tkO HT_.out HW_.out (by kernel_rfl)) (fun _ _ _ h=>h) (Or.inl ⟨by rfl,?_⟩) hHeld ?_ ?_
             rotate_left
             · rintro w' ⟨s0,s1,s2,s3,s4,s5,s6,s7⟩
               go_simp
               with_reducible rfl
             rotate_left
             · simp only [Act.put,zS,zT,zU,i64_w,i32_w]
               rfl
             refine pure_ (i:=7) (N:=some 87) (v:=?_) (a':=?_) (b_ 8 3) rfl rfl (anO HT_.out (by kernel_rfl)) (fun _ _ _ h=>h) (Or.inl ⟨by rfl,?_⟩) ?_ ?_
             rotate_left
             · intro w'
               go_simp
               with_reducible rfl
             rotate_left
             · simp only [Act.put,zS,zT,zU,i64_w,i32_w]
               rfl
             refine pure_ (i:=8) (N:=some 88) (v:=?_) (a':=?_) (b_ 9 2) rfl rfl (anO HT_.out (by kernel_rfl)) (fun _ _ _ h=>h) (Or.inl ⟨by rfl,?_⟩) ?_ ?_
             rotate_left
             · intro w'
               go_simp
               with_reducible rfl
             rotate_left
             · simp only [Act.put,zS,zT,zU,i64_w,i32_w]
               rfl
             refine one_ (i:=9) (N:=some 89) (b_ 10 1) rfl rfl (one_of HT_.out (by kernel_rfl)) (by decide) (fun K hK=>?_)
             refine goes_ Tryd.func59 (by kernel_rfl) rfl #[.int .i64 (rd ((rd_T77 l0_1 x29_2).f1) x71_5),.int .i64 (-1),.int .i64 (wrap64 ((l0_1.length:Int) - 1))] (by rfl) rfl rfl (by (try simp only [zA,zC,zN]);first|done|rfl|(simp only [zM,zL];rfl)) ?_
             with_reducible refine (spec_l1In.calls (rd ((rd_T77 l0_1 x29_2).f1) x71_5) (-1) (wrap64 ((l0_1.length:Int) - 1)) true _ A64.out).mono ?_
             rintro e w' ⟨rfl,⟨nd,rfl⟩⟩
             refine ⟨_,rfl,?_⟩
             refine hK.out _ _ ⟨(kc BK209.out 0).trans rfl,(kc BK209.out 1).trans rfl,(kc BK209.out 2).trans rfl,(kc BK209.out 3).trans rfl,(kc BK209.out 4).trans rfl,(kc BK201.out 0).trans rfl,(kc BK201.out 1).trans rfl,((HB.out.cell (zB w _ hw221_0)).trans hw221_0)⟩ (fun hHeld=>?_)
             clear hK K
             refine norm_ (a':=?_) ?_ ?_
             rotate_left
             · show Act.put _ (some 89) _=_
               simp only [Act.put,zS,zT,zU,i64_w,i32_w]
               rfl
             refine pure_ (i:=10) (N:=some 90) (v:=?_) (a':=?_) (b_ 11 0) rfl rfl (anO HT_.out (by kernel_rfl)) (fun _ _ _ h=>h) (Or.inl ⟨by rfl,?_⟩) ?_ ?_
             rotate_left
             · intro w'
               go_simp
               with_reducible rfl
             rotate_left
             · simp only [Act.put,zS,zT,zU,i64_w,i32_w]
               rfl
             refine dn_ (dnO HT_.out (by kernel_rfl)) ?_
             try go_wp2
             go_roundg k5
             case measure=>have:=HJ1.out;have:=HK2.out;have:=HJ16.out;have:=HK4.out;have:=HK5.out;omega
             case rel=>exact ⟨(y220),(wrap64 (x71_5 + 1)),(by first|rfl|(simp;done)|(simp [*];done)),H',⟨by have:=HJ1.out;have:=HK2.out;have:=HJ16.out;have:=HK4.out;have:=HK5.out;omega⟩,⟨by (with_reducible repeat (first|apply Kd.R_alloc|apply Kd.R_drewN|apply Kd.R_drew));exact HO_3.out⟩,⟨by (with_reducible repeat (first|apply Kd.R_alloc|apply Kd.R_drewN|apply Kd.R_drew));exact HO_4.out⟩,⟨by (with_reducible repeat (first|refine kdN ?_ _|refine kd ?_|refine ka ?_ _));exact BK201.out⟩,⟨by (with_reducible repeat (first|refine kdN ?_ _|refine kd ?_|refine ka ?_ _));exact BK209.out⟩,⟨by repeat (first|(with_reducible first|exact HB.out|apply bwa|apply pbN|apply bw1|refine bws ?_ GE201.out|refine bws ?_ GE209.out)|exact HB.out)⟩⟩
     rw [if_neg c14] at H
     have c14b0:decide (x29_2 < (l0_1.length:Int))=false:=decide_eq_false c14
     clear c14
     have H':=AsZ.mk H
     clear H
     obtain ⟨Ao74,co74,eo74⟩:=Kd.R_slice HO_4.out
     subst eo74
     go_wp2
     go_loopg [95] k2 (fun kq v95 w' => ∃ (x95_3:Int),v95 = .int .i64 x95_3∧AsZ (spec_GoodSkip.l3 kq x4_2 (x4_2.length:Int) x95_3 l0_0 l0_1=some r)∧AsZ (kq≤k2)∧AsZ (Kd.R (Kd.int .i64) 3 w' w.heap.size (fun _=>True) (.slice Ao74 x4_2.length co74) x4_2)∧AsZ (w'.heap[gb201]? = some (.cells #[(.slice A0_0 l0_0.length c0_0),(.slice A0_1 l0_1.length c0_1)] 26 (0,0)))∧AsZ (Below w.heap.size w w'))
     case atStart=>exact ⟨(0),(by first|rfl|(simp;done)|(simp [*];done)),H',⟨Nat.le_refl _⟩,⟨by (with_reducible repeat (first|apply Kd.R_alloc|apply Kd.R_drewN|apply Kd.R_drew));exact HO_4.out⟩,⟨by (with_reducible repeat (first|refine kdN ?_ _|refine kd ?_|refine ka ?_ _));exact BK201.out⟩,⟨by repeat (first|(with_reducible first|exact HB.out|apply bwa|apply pbN|apply bw1|refine bws ?_ GE201.out)|exact HB.out)⟩⟩
     case round =>
      clear H'
      try clear c1
      try clear c2
      try clear p2
      try clear q2
      try clear hx2
      try clear c3
      try clear q3
      try clear c4
      try clear c4b0
      try clear c4b1
      try clear c5
      try clear c6
      try clear p6
      try clear q6
      try clear hx6
      try clear hf6
      try clear c7
      try clear c9
      try clear c9b0
      try clear c9b1
      try clear c14
      try clear c14b0
      try clear c15
      try clear c15b0
      try clear c16
      try clear c16b0
      try clear c19
      try clear c20
      try clear p20
      try clear q20
      try clear hx20
      try clear c21
      try clear p21
      try clear q21
      try clear hx21
      try clear c22
      try clear p22
      try clear q22
      try clear hx22
      try clear c30
      try clear c32
      try clear c33
      try clear c33b0
      try clear c33b1
      try clear c34
      try clear c34b0
      try clear c34b1
      try clear c35
      try clear q37
      try clear c38
      try clear c38b0
      try clear c39
      try clear c39b0
      try clear c40
      try clear c40b0
      try clear c42
      try clear c42b0
      try clear c42b1
      try clear c44
      try clear c45
      try clear c47
      try clear c51
      try clear c52
      try clear c54
      try clear c55
      try clear c57
      try clear c59
      try clear c59b0
      try clear c60
      try clear c60b0
      try clear c61
      try clear c61b0
      try clear p62
      try clear q62
      try clear hx62
      try clear hf62
      try clear c63
      try clear c63b0
      try clear p64
      try clear c65
      try clear hcz13_0
      try clear hcz13_1
      try clear hcz20_0
      try clear hcz20_1
      try clear hcz20_2
      try clear hcz20_3
      try clear hcz20_4
      try clear hcz36_0
      try clear hcz36_1
      try clear hcz46_0
      try clear hcz46_1
      try clear hcz46_2
      try clear hcz46_3
      try clear hcz46_4
      try clear hcz48_0
      try clear hcz48_1
      try clear hcz48_2
      try clear hcz48_3
      try clear hcz48_4
      try clear hcz53_0
      try clear hcz53_1
      try clear hcz53_2
      try clear hcz53_3
      try clear hcz53_4
      try clear hcz55_0
      try clear hcz55_1
      try clear hcz55_2
      try clear hcz55_3
      try clear hcz55_4
      try clear hcz58_0
      try clear hcz58_1
      try clear hcz58_2
      try clear hcz58_3
      try clear hcz58_4
      try clear hcz5_0
      try clear hcz5_1
      try clear hcz6_0
      try clear hcz6_1
      try clear hfz13_0
      try clear hfz13_1
      try clear hfz20_0
      try clear hfz20_1
      try clear hfz20_2
      try clear hfz20_3
      try clear hfz20_4
      try clear hfz36_0
      try clear hfz36_1
      try clear hfz46_0
      try clear hfz46_1
      try clear hfz46_2
      try clear hfz46_3
      try clear hfz46_4
      try clear hfz48_0
      try clear hfz48_1
      try clear hfz48_2
      try clear hfz48_3
      try clear hfz48_4
      try clear hfz53_0
      try clear hfz53_1
      try clear hfz53_2
      try clear hfz53_3
      try clear hfz53_4
      try clear hfz55_0
      try clear hfz55_1
      try clear hfz55_2
      try clear hfz55_3
      try clear hfz55_4
      try clear hfz58_0
      try clear hfz58_1
      try clear hfz58_2
      try clear hfz58_3
      try clear hfz58_4
      try clear hfz5_0
      try clear hfz5_1
      try clear hfz6_0
      try clear hfz6_1
      try clear hx208_0
      try clear hx208_1
      try clear hx208_2
      try clear hx208_3
      try clear hx208_4
      try clear hx216_0
      try clear hx216_1
      try clear hx216_2
      try clear hx216_3
      try clear hx216_4
      try clear hx219_0
      try clear hx221_0
      try clear hx62_0
      try clear p2
      try clear p20
      try clear p208
      try clear p21
      try clear p216
      try clear p219
      try clear p221
      try clear p6
      try clear p62
      try clear q2
      try clear q20
      try clear q208
      try clear q21
      try clear q216
      try clear q219
      try clear q221
      try clear q3
      try clear q37
      try clear q62
      obtain ⟨x95_3,rfl,HA,HK3,HO_93,BK201,HB⟩:=hrel
      cases gk with
      |zero=>exact absurd HA.out (by simp [spec_GoodSkip.l3])
      |succ k3 =>
       have H:=HA.out
       clear HA
       simp only [spec_GoodSkip.l3] at H
       by_cases c75:x95_3 < (x4_2.length:Int)
       rotate_left
       · rw [if_neg c75] at H
         have c75b0:decide (x95_3 < (x4_2.length:Int))=false:=decide_eq_false c75
         clear c75
         obtain rfl:=zI H
         go_wp2
         go_ret
         exact ⟨by first|rfl|(simp [errW_none,errW_some]<;>rfl)|(simp [*,errW_none,errW_some]<;>rfl),by repeat (first|(with_reducible first|exact HB.out|apply bwa|apply pbN|apply bw1|refine bws ?_ GE201.out)|exact HB.out)⟩
       rw [if_pos c75] at H
       have c75b0:decide (x95_3 < (x4_2.length:Int))=true:=zE c75
       clear c75
       by_cases c76:0≤x95_3
       rotate_left
       · rw [if_neg c76] at H
         exact absurd H (by simp)
       rw [if_pos c76] at H
       have c76b0:decide (0≤x95_3)=true:=zE c76
       clear c76
       by_cases c77:x95_3 < (x4_2.length:Int)
       rotate_left
       · rw [if_neg c77] at H
         exact absurd H (by simp)
       rw [if_pos c77] at H
       have c77b0:decide (x95_3 < (x4_2.length:Int))=true:=zE c77
       clear c77
       by_cases c78:x95_3 < (l0_0.length:Int)
       rotate_left
       · rw [if_neg c78] at H
         exact absurd H (by simp)
       rw [if_pos c78] at H
       have c78b0:decide (x95_3 < (l0_0.length:Int))=true:=zE c78
       clear c78
       replace H:=Option.bind_eq_some_iff.mp H
       obtain ⟨t225,A790,H⟩:=H
       replace H:(if t225=true then (spec_GoodSkip.l4 k3 x95_3 (rd x4_2 x95_3) (-1) x4_2 (x4_2.length:Int) x95_3 l0_0 l0_1) else (some false))=some r:=H
       have A79:=AsZ.mk A790
       clear A790
       by_cases c80:t225=true
       rotate_left
       · replace c80:=Bool.eq_false_iff.mpr c80
         subst c80
         have H1:(some false)=some r:=by rw [if_neg (show ¬ (false=true) by decide)] at H;exact H
         clear H
         have H:=H1
         clear H1
         obtain rfl:=zI H
         have p223:0≤(x95_3:Int):=zD (by first|(with_reducible assumption)|assumption)
         have q223:x95_3 < (x4_2.length:Int):=zD (by first|(with_reducible assumption)|assumption)
         obtain ⟨ad223,e223,hx223_0⟩:=Kd.at_int (Kd.R_reads' HO_93.out).2.2 x95_3 p223 q223
         cases e223
         replace p223:=eq_true p223
         replace q223:=eq_true q223
         try go_wp2
         have n0_:=AsZ.mk (Kd.R_drew HO_93.out)
         have n1_:=AsZ.mk (kd BK201.out)
         have n2_:=AsZ.mk (bw1 HB.out)
         clear HO_93 BK201 HB
         have HO_93:=n0_
         have BK201:=n1_
         have HB:=n2_
         clear n0_ n1_ n2_
         have p224:0≤(x95_3:Int):=zD (by first|(with_reducible assumption)|assumption)
         have q224:x95_3 < (l0_0.length:Int):=zD (by first|(with_reducible assumption)|assumption)
         obtain ⟨ad224,e224,hx224_0⟩:=Kd.at_int HR0_0.out x95_3 p224 q224
         have hw224_0:=hx224_0
         cases e224
         replace hx224_0:=(HB.out.cell (zB w _ hx224_0)).trans hx224_0
         replace p224:=eq_true p224
         replace q224:=eq_true q224
         refine start_ (n:=11) (S:=fun w'=>w'.cell? ⟨gb201,0,none⟩=some (.slice (some ad224) l0_0.length c0_0)∧w'.cell? ⟨gb201,1,none⟩=some (.slice A0_1 l0_1.length c0_1)∧w'.cell? (ad224.add (x95_3).toNat)=some (.int .i64 (rd l0_0 x95_3))) (ds:=[]) (b_ 0 11) (by kernel_rfl) rfl rfl ⟨(kc BK201.out 0).trans rfl,(kc BK201.out 1).trans rfl,((HB.out.cell (zB w _ hw224_0)).trans hw224_0)⟩ (fun hHeld=>?_);refine with_tabW spec_GoodSkip.tab28 spec_GoodSkip.bits28 (fun HT_ HW_=>?_)
         generalize wr.drew=w107 at HO_93 BK201 HB hx224_0 hHeld ⊢
         refine pure_ (i:=0) (N:=some 100) (v:=?_) (a':=?_) (b_ 1 10) rfl rfl (anO HT_.out (by kernel_rfl)) (fun _ _ _ h=>h) (Or.inl ⟨by rfl,?_⟩) ?_ ?_
         rotate_left
         · intro w'
           go_simp
           with_reducible rfl
         rotate_left
         · simp only [Act.put,zS,zT,zU,i64_w,i32_w]
           rfl
         refine pure_ (i:=2) (N:=some 102) (v:=?_) (a':=?_) #[true,false,true,false,false,false,false,false,false,false,false] rfl rfl (anO HT_.out (by kernel_rfl)) (fun _ _ _ h=>h) (Or.inl ⟨by rfl,?_⟩) ?_ ?_
         rotate_left
         · intro w'
           go_simp
           with_reducible rfl
         rotate_left
         · simp only [Act.put,zS,zT,zU,i64_w,i32_w]
           rfl
         refine pure_ (i:=5) (N:=some 105) (v:=?_) (a':=?_) #[true,false,true,false,false,true,false,false,false,false,false] rfl rfl (anO HT_.out (by kernel_rfl)) (fun _ _ _ h=>h) (Or.inl ⟨by rfl,?_⟩) ?_ ?_
         rotate_left
         · intro w'
           go_simp
           with_reducible rfl
         rotate_left
         · simp only [Act.put,zS,zT,zU,i64_w,i32_w]
           rfl
         refine take_ (i:=1) (N:=some 101) (v:=?_) (a':=?_) #[true,true,true,false,false,true,false,false,false,false,false] rfl rfl (tkO HT_.out HW_.out (by kernel_rfl)) (fun _ _ _ h=>h) (Or.inl ⟨by rfl,?_⟩) hHeld ?_ ?_
         rotate_left
         · rintro w' ⟨s0,s1,s2⟩
           go_simp
           with_reducible rfl
         rotate_left
         · simp only [Act.put,zS,zT,zU,i64_w,i32_w]
           rfl
         refine pure_ (i:=3) (N:=some 103) (v:=?_) (a':=?_) #[true,true,true,true,false,true,false,false,false,false,false] rfl rfl (anO HT_.out (by kernel_rfl)) (fun _ _ _ h=>h) (Or.inl ⟨by rfl,?_⟩) ?_ ?_
         rotate_left
         · intro w'
           go_simp
           with_reducible rfl
         rotate_left
         · simp only [Act.put,zS,zT,zU,i64_w,i32_w]
           rfl
         refine take_ (i:=4) (N:=some 104) (v:=?_) (a':=?_) (b_ 6 5) rfl rfl (tkO HT_.out HW_.out (by kernel_rfl)) (fun _ _ _ h=>h) (Or.inl ⟨by rfl,?_⟩) hHeld ?_ ?_
         rotate_left
         · rintro w' ⟨s0,s1,s2⟩
           go_simp
           with_reducible rfl
         rotate_left
         · simp only [Act.put,zS,zT,zU,i64_w,i32_w]
           rfl
         refine take_ (i:=6) (N:=some 106) (v:=?_) (a':=?_) (b_ 7 4) rfl rfl (tkO HT_.out HW_.out (by kernel_rfl)) (fun _ _ _ h=>h) (Or.inl ⟨by rfl,?_⟩) hHeld ?_ ?_
         rotate_left
         · rintro w' ⟨s0,s1,s2⟩
           go_simp
           with_reducible rfl
         rotate_left
         · simp only [Act.put,zS,zT,zU,i64_w,i32_w]
           rfl
         refine pure_ (i:=7) (N:=some 107) (v:=?_) (a':=?_) (b_ 8 3) rfl rfl (anO HT_.out (by kernel_rfl)) (fun _ _ _ h=>h) (Or.inl ⟨by rfl,?_⟩) ?_ ?_
         rotate_left
         · intro w'
           go_simp
           with_reducible rfl
         rotate_left
         · simp only [Act.put,zS,zT,zU,i64_w,i32_w]
           rfl
         refine pure_ (i:=8) (N:=some 108) (v:=?_) (a':=?_) (b_ 9 2) rfl rfl (anO HT_.out (by kernel_rfl)) (fun _ _ _ h=>h) (Or.inl ⟨by rfl,?_⟩) ?_ ?_
         rotate_left
         · intro w'
           go_simp
           with_reducible rfl
         rotate_left
         · simp only [Act.put,zS,zT,zU,i64_w,i32_w]
           rfl
         refine one_ (i:=9) (N:=some 109) (b_ 10 1) rfl rfl (one_of HT_.out (by kernel_rfl)) (by decide) (fun K hK=>?_)
         refine goes_ Tryd.func59 (by kernel_rfl) rfl #[.int .i64 (rd l0_0 x95_3),.int .i64 (-1),.int .i64 (wrap64 ((l0_1.length:Int) - 1))] (by rfl) rfl rfl (by (try simp only [zA,zC,zN]);first|done|rfl|(simp only [zM,zL];rfl)) ?_
         with_reducible refine (spec_l1In.calls (rd l0_0 x95_3) (-1) (wrap64 ((l0_1.length:Int) - 1)) false _ A79.out).mono ?_
         rintro e w' ⟨rfl,⟨nd,rfl⟩⟩
         refine ⟨_,rfl,?_⟩
         refine hK.out _ _ ⟨(kc BK201.out 0).trans rfl,(kc BK201.out 1).trans rfl,((HB.out.cell (zB w _ hw224_0)).trans hw224_0)⟩ (fun hHeld=>?_)
         clear hK K
         refine norm_ (a':=?_) ?_ ?_
         rotate_left
         · show Act.put _ (some 109) _=_
           simp only [Act.put,zS,zT,zU,i64_w,i32_w]
           rfl
         refine pure_ (i:=10) (N:=some 110) (v:=?_) (a':=?_) (b_ 11 0) rfl rfl (anO HT_.out (by kernel_rfl)) (fun _ _ _ h=>h) (Or.inl ⟨by rfl,?_⟩) ?_ ?_
         rotate_left
         · intro w'
           go_simp
           with_reducible rfl
         rotate_left
         · simp only [Act.put,zS,zT,zU,i64_w,i32_w]
           rfl
         refine dn_ (dnO HT_.out (by kernel_rfl)) ?_
         try go_wp2
         go_ret
         exact ⟨by first|rfl|(simp [errW_none,errW_some]<;>rfl)|(simp [*,errW_none,errW_some]<;>rfl),by repeat (first|(with_reducible first|exact HB.out|apply bwa|apply pbN|apply bw1|refine bws ?_ GE201.out)|exact HB.out)⟩
       subst c80
       have H1:(spec_GoodSkip.l4 k3 x95_3 (rd x4_2 x95_3) (-1) x4_2 (x4_2.length:Int) x95_3 l0_0 l0_1)=some r:=by rw [if_pos rfl] at H;exact H
       clear H
       have H:=H1
       clear H1
       have H':=AsZ.mk H
       clear H
       have p223:0≤(x95_3:Int):=zD (by first|(with_reducible assumption)|assumption)
       have q223:x95_3 < (x4_2.length:Int):=zD (by first|(with_reducible assumption)|assumption)
       obtain ⟨ad223,e223,hx223_0⟩:=Kd.at_int (Kd.R_reads' HO_93.out).2.2 x95_3 p223 q223
       cases e223
       replace p223:=eq_true p223
       replace q223:=eq_true q223
       try go_wp2
       have n0_:=AsZ.mk (Kd.R_drew HO_93.out)
       have n1_:=AsZ.mk (kd BK201.out)
       have n2_:=AsZ.mk (bw1 HB.out)
       clear HO_93 BK201 HB
       have HO_93:=n0_
       have BK201:=n1_
       have HB:=n2_
       clear n0_ n1_ n2_
       have p224:0≤(x95_3:Int):=zD (by first|(with_reducible assumption)|assumption)
       have q224:x95_3 < (l0_0.length:Int):=zD (by first|(with_reducible assumption)|assumption)
       obtain ⟨ad224,e224,hx224_0⟩:=Kd.at_int HR0_0.out x95_3 p224 q224
       have hw224_0:=hx224_0
       cases e224
       replace hx224_0:=(HB.out.cell (zB w _ hx224_0)).trans hx224_0
       replace p224:=eq_true p224
       replace q224:=eq_true q224
       refine start_ (n:=11) (S:=fun w'=>w'.cell? ⟨gb201,0,none⟩=some (.slice (some ad224) l0_0.length c0_0)∧w'.cell? ⟨gb201,1,none⟩=some (.slice A0_1 l0_1.length c0_1)∧w'.cell? (ad224.add (x95_3).toNat)=some (.int .i64 (rd l0_0 x95_3))) (ds:=[]) (b_ 0 11) (by kernel_rfl) rfl rfl ⟨(kc BK201.out 0).trans rfl,(kc BK201.out 1).trans rfl,((HB.out.cell (zB w _ hw224_0)).trans hw224_0)⟩ (fun hHeld=>?_);refine with_tabW spec_GoodSkip.tab28 spec_GoodSkip.bits28 (fun HT_ HW_=>?_)
       generalize wr.drew=w81 at HO_93 BK201 HB hx224_0 hHeld ⊢
       refine pure_ (i:=0) (N:=some 100) (v:=?_) (a':=?_) (b_ 1 10) rfl rfl (anO HT_.out (by kernel_rfl)) (fun _ _ _ h=>h) (Or.inl ⟨by rfl,?_⟩) ?_ ?_
       rotate_left
       · intro w'
         go_simp
         with_reducible rfl
       rotate_left
       · simp only [Act.put,zS,zT,zU,i64_w,i32_w]
         rfl
       refine pure_ (i:=2) (N:=some 102) (v:=?_) (a':=?_) #[true,false,true,false,false,false,false,false,false,false,false] rfl rfl (anO HT_.out (by kernel_rfl)) (fun _ _ _ h=>h) (Or.inl ⟨by rfl,?_⟩) ?_ ?_
       rotate_left
       · intro w'
         go_simp
         with_reducible rfl
       rotate_left
       · simp only [Act.put,zS,zT,zU,i64_w,i32_w]
         rfl
       refine pure_ (i:=5) (N:=some 105) (v:=?_) (a':=?_) #[true,false,true,false,false,true,false,false,false,false,false] rfl rfl (anO HT_.out (by kernel_rfl)) (fun _ _ _ h=>h) (Or.inl ⟨by rfl,?_⟩) ?_ ?_
       rotate_left
       · intro w'
         go_simp
         with_reducible rfl
       rotate_left
       · simp only [Act.put,zS,zT,zU,i64_w,i32_w]
         rfl
       refine take_ (i:=1) (N:=some 101) (v:=?_) (a':=?_) #[true,true,true,false,false,true,false,false,false,false,false] rfl rfl (tkO HT_.out HW_.out (by kernel_rfl)) (fun _ _ _ h=>h) (Or.inl ⟨by rfl,?_⟩) hHeld ?_ ?_
       rotate_left
       · rintro w' ⟨s0,s1,s2⟩
         go_simp
         with_reducible rfl
       rotate_left
       · simp only [Act.put,zS,zT,zU,i64_w,i32_w]
         rfl
       refine pure_ (i:=3) (N:=some 103) (v:=?_) (a':=?_) #[true,true,true,true,false,true,false,false,false,false,false] rfl rfl (anO HT_.out (by kernel_rfl)) (fun _ _ _ h=>h) (Or.inl ⟨by rfl,?_⟩) ?_ ?_
       rotate_left
       · intro w'
         go_simp
         with_reducible rfl
       rotate_left
       · simp only [Act.put,zS,zT,zU,i64_w,i32_w]
         rfl
       refine take_ (i:=4) (N:=some 104) (v:=?_) (a':=?_) (b_ 6 5) rfl rfl (tkO HT_.out HW_.out (by kernel_rfl)) (fun _ _ _ h=>h) (Or.inl ⟨by rfl,?_⟩) hHeld ?_ ?_
       rotate_left
       · rintro w' ⟨s0,s1,s2⟩
         go_simp
         with_reducible rfl
       rotate_left
       · simp only [Act.put,zS,zT,zU,i64_w,i32_w]
         rfl
       refine take_ (i:=6) (N:=some 106) (v:=?_) (a':=?_) (b_ 7 4) rfl rfl (tkO HT_.out HW_.out (by kernel_rfl)) (fun _ _ _ h=>h) (Or.inl ⟨by rfl,?_⟩) hHeld ?_ ?_
       rotate_left
       · rintro w' ⟨s0,s1,s2⟩
         go_simp
         with_reducible rfl
       rotate_left
       · simp only [Act.put,zS,zT,zU,i64_w,i32_w]
         rfl
       refine pure_ (i:=7) (N:=some 107) (v:=?_) (a':=?_) (b_ 8 3) rfl rfl (anO HT_.out (by kernel_rfl)) (fun _ _ _ h=>h) (Or.inl ⟨by rfl,?_⟩) ?_ ?_
       rotate_left
       · intro w'
         go_simp
         with_reducible rfl
       rotate_left
       · simp only [Act.put,zS,zT,zU,i64_w,i32_w]
         rfl
       refine pure_ (i:=8) (N:=some 108) (v:=?_) (a':=?_) (b_ 9 2) rfl rfl (anO HT_.out (by kernel_rfl)) (fun _ _ _ h=>h) (Or.inl ⟨by rfl,?_⟩) ?_ ?_
       rotate_left
       · intro w'
         go_simp
         with_reducible rfl
       rotate_left
       · simp only [Act.put,zS,zT,zU,i64_w,i32_w]
         rfl
       refine one_ (i:=9) (N:=some 109) (b_ 10 1) rfl rfl (one_of HT_.out (by kernel_rfl)) (by decide) (fun K hK=>?_)
       refine goes_ Tryd.func59 (by kernel_rfl) rfl #[.int .i64 (rd l0_0 x95_3),.int .i64 (-1),.int .i64 (wrap64 ((l0_1.length:Int) - 1))] (by rfl) rfl rfl (by (try simp only [zA,zC,zN]);first|done|rfl|(simp only [zM,zL];rfl)) ?_
       with_reducible refine (spec_l1In.calls (rd l0_0 x95_3) (-1) (wrap64 ((l0_1.length:Int) - 1)) true _ A79.out).mono ?_
       rintro e w' ⟨rfl,⟨nd,rfl⟩⟩
       refine ⟨_,rfl,?_⟩
       refine hK.out _ _ ⟨(kc BK201.out 0).trans rfl,(kc BK201.out 1).trans rfl,((HB.out.cell (zB w _ hw224_0)).trans hw224_0)⟩ (fun hHeld=>?_)
       clear hK K
       refine norm_ (a':=?_) ?_ ?_
       rotate_left
       · show Act.put _ (some 109) _=_
         simp only [Act.put,zS,zT,zU,i64_w,i32_w]
         rfl
       refine pure_ (i:=10) (N:=some 110) (v:=?_) (a':=?_) (b_ 11 0) rfl rfl (anO HT_.out (by kernel_rfl)) (fun _ _ _ h=>h) (Or.inl ⟨by rfl,?_⟩) ?_ ?_
       rotate_left
       · intro w'
         go_simp
         with_reducible rfl
       rotate_left
       · simp only [Act.put,zS,zT,zU,i64_w,i32_w]
         rfl
       refine dn_ (dnO HT_.out (by kernel_rfl)) ?_
       try go_wp2
       go_loopg [11,12] k3 (fun kq v11 v12 w' => ∃ (x11_4:Int) (x12_4:Int),v11 = .int .i64 x11_4∧v12 = .int .i64 x12_4∧AsZ (spec_GoodSkip.l4 kq x95_3 x11_4 x12_4 x4_2 (x4_2.length:Int) x95_3 l0_0 l0_1=some r)∧AsZ (kq≤k3)∧AsZ (Kd.R (Kd.int .i64) 3 w' w.heap.size (fun _=>True) (.slice (some ad223) x4_2.length co74) x4_2)∧AsZ (w'.heap[gb201]? = some (.cells #[(.slice (some ad224) l0_0.length c0_0),(.slice A0_1 l0_1.length c0_1)] 26 (0,0)))∧AsZ (Below w.heap.size w w'))
       case atStart=>exact ⟨(rd x4_2 x95_3),((-1)),(by first|rfl|(simp;done)|(simp [*];done)),(by first|rfl|(simp;done)|(simp [*];done)),H',⟨Nat.le_refl _⟩,⟨by (with_reducible repeat (first|apply Kd.R_alloc|apply Kd.R_drewN|apply Kd.R_drew));exact HO_93.out⟩,⟨by (with_reducible repeat (first|refine kdN ?_ _|refine kd ?_|refine ka ?_ _));exact BK201.out⟩,⟨by repeat (first|(with_reducible first|exact HB.out|apply bwa|apply pbN|apply bw1|refine bws ?_ GE201.out)|exact HB.out)⟩⟩
       case round =>
        clear H'
        try clear c1
        try clear c2
        try clear p2
        try clear q2
        try clear hx2
        try clear c3
        try clear q3
        try clear c4
        try clear c4b0
        try clear c4b1
        try clear c5
        try clear c6
        try clear p6
        try clear q6
        try clear hx6
        try clear hf6
        try clear c7
        try clear c8
        try clear c9
        try clear c9b0
        try clear c9b1
        try clear c14
        try clear c14b0
        try clear c15
        try clear c15b0
        try clear c16
        try clear c16b0
        try clear c19
        try clear c20
        try clear p20
        try clear q20
        try clear hx20
        try clear c21
        try clear p21
        try clear q21
        try clear hx21
        try clear c22
        try clear p22
        try clear q22
        try clear hx22
        try clear c30
        try clear c32
        try clear c33
        try clear c33b0
        try clear c33b1
        try clear c34
        try clear c34b0
        try clear c34b1
        try clear c35
        try clear q37
        try clear c38
        try clear c38b0
        try clear c39
        try clear c39b0
        try clear c40
        try clear c40b0
        try clear c42
        try clear c42b0
        try clear c42b1
        try clear c44
        try clear c45
        try clear c47
        try clear c51
        try clear c52
        try clear c54
        try clear c55
        try clear c57
        try clear c59
        try clear c59b0
        try clear c60
        try clear c60b0
        try clear c61
        try clear c61b0
        try clear p62
        try clear q62
        try clear hx62
        try clear hf62
        try clear c63
        try clear c63b0
        try clear p64
        try clear c65
        try clear c75
        try clear c75b0
        try clear c76
        try clear c76b0
        try clear c77
        try clear c77b0
        try clear c78
        try clear c78b0
        try clear c80
        try clear hcz13_0
        try clear hcz13_1
        try clear hcz20_0
        try clear hcz20_1
        try clear hcz20_2
        try clear hcz20_3
        try clear hcz20_4
        try clear hcz36_0
        try clear hcz36_1
        try clear hcz46_0
        try clear hcz46_1
        try clear hcz46_2
        try clear hcz46_3
        try clear hcz46_4
        try clear hcz48_0
        try clear hcz48_1
        try clear hcz48_2
        try clear hcz48_3
        try clear hcz48_4
        try clear hcz53_0
        try clear hcz53_1
        try clear hcz53_2
        try clear hcz53_3
        try clear hcz53_4
        try clear hcz55_0
        try clear hcz55_1
        try clear hcz55_2
        try clear hcz55_3
        try clear hcz55_4
        try clear hcz58_0
        try clear hcz58_1
        try clear hcz58_2
        try clear hcz58_3
        try clear hcz58_4
        try clear hcz5_0
        try clear hcz5_1
        try clear hcz6_0
        try clear hcz6_1
        try clear hfz13_0
        try clear hfz13_1
        try clear hfz20_0
        try clear hfz20_1
        try clear hfz20_2
        try clear hfz20_3
        try clear hfz20_4
        try clear hfz36_0
        try clear hfz36_1
        try clear hfz46_0
        try clear hfz46_1
        try clear hfz46_2
        try clear hfz46_3
        try clear hfz46_4
        try clear hfz48_0
        try clear hfz48_1
        try clear hfz48_2
        try clear hfz48_3
        try clear hfz48_4
        try clear hfz53_0
        try clear hfz53_1
        try clear hfz53_2
        try clear hfz53_3
        try clear hfz53_4
        try clear hfz55_0
        try clear hfz55_1
        try clear hfz55_2
        try clear hfz55_3
        try clear hfz55_4
        try clear hfz58_0
        try clear hfz58_1
        try clear hfz58_2
        try clear hfz58_3
        try clear hfz58_4
        try clear hfz5_0
        try clear hfz5_1
        try clear hfz6_0
        try clear hfz6_1
        try clear hx208_0
        try clear hx208_1
        try clear hx208_2
        try clear hx208_3
        try clear hx208_4
        try clear hx216_0
        try clear hx216_1
        try clear hx216_2
        try clear hx216_3
        try clear hx216_4
        try clear hx219_0
        try clear hx221_0
        try clear hx223_0
        try clear hx224_0
        try clear hx62_0
        try clear p2
        try clear p20
        try clear p208
        try clear p21
        try clear p216
        try clear p219
        try clear p22
        try clear p221
        try clear p223
        try clear p224
        try clear p6
        try clear p62
        try clear p64
        try clear q2
        try clear q20
        try clear q208
        try clear q21
        try clear q216
        try clear q219
        try clear q22
        try clear q221
        try clear q223
        try clear q224
        try clear q3
        try clear q37
        try clear q6
        try clear q62
        obtain ⟨x11_4,x12_4,rfl,rfl,HA,HK4,HO_93,BK201,HB⟩:=hrel
        cases gk with
        |zero=>exact absurd HA.out (by simp [spec_GoodSkip.l4])
        |succ k4 =>
         have H:=HA.out
         clear HA
         simp only [spec_GoodSkip.l4] at H
         by_cases c82:x11_4 > 0
         rotate_left
         · rw [if_neg c82] at H
           have c82b0:decide (0 < x11_4)=false:=decide_eq_false c82
           clear c82
           replace H:=Option.bind_eq_some_iff.mp H
           obtain ⟨t231,A1010,H⟩:=H
           replace H:(if t231=(-1) then (spec_GoodSkip.l3 k4 x4_2 (x4_2.length:Int) (wrap64 (x95_3 + 1)) l0_0 l0_1) else (some false))=some r:=H
           have A101:=AsZ.mk A1010
           clear A1010
           by_cases c102:t231=(-1)
           rotate_left
           · rw [if_neg c102] at H
             have c102b0:(t231 == (-1))=false:=beq_eq_false_iff_ne.mpr c102
             have c102b1:(t231 != (-1))=true:=bne_iff_ne.mpr c102
             obtain rfl:=zI H
             have hcz105_0:wr.cell? ⟨gb201,0,none⟩=some (.slice (some ad224) l0_0.length c0_0):=(kc BK201.out 0).trans rfl
             have hcz105_1:wr.cell? ⟨gb201,1,none⟩=some (.slice A0_1 l0_1.length c0_1):=(kc BK201.out 1).trans rfl
             have hfz105_0:=kf BK201.out 0
             have hfz105_1:=kf BK201.out 1
             go_wp2_with (first|((with_reducible refine gcl (f:=72) rfl ?_);refine goesL_ (some 156) rfl rfl Tryd.func72 (by kernel_rfl) rfl #[.agg #[.slice (some ad224) l0_0.length c0_0,.slice A0_1 l0_1.length c0_1],.int .i64 x12_4,.int .i64 x95_3] rfl (by (try simp only [zA,zC,zN]);first|done|rfl|(simp only [zM,zL];rfl)) ?_;(with_reducible refine (spec_l4Next.calls _ _ l0_0 _ _ l0_1 x12_4 x95_3 t231 _ ?side1 ?side2 ?side3 ?side4 A101.out).mono ?_);(case side1=>repeat (first|exact (Kd.C_below HR0_0.out HB.out)|(with_reducible refine Kd.C_alloc ?_ _)|(with_reducible refine Kd.C_drewN ?_ _)|(with_reducible refine Kd.C_drew ?_)));(case side2=>exact HC0_0.out);(case side3=>repeat (first|exact (Kd.C_below HR0_1.out HB.out)|(with_reducible refine Kd.C_alloc ?_ _)|(with_reducible refine Kd.C_drewN ?_ _)|(with_reducible refine Kd.C_drew ?_)));(case side4=>exact HC0_1.out);rintro e w106 ⟨rfl,hb⟩;refine ⟨_,rfl,?_⟩;have n0_:=AsZ.mk (Kd.R_below (by (with_reducible repeat (first|apply Kd.R_alloc|apply Kd.R_drewN|apply Kd.R_drew));exact HO_93.out) hb);have n1_:=AsZ.mk (kb (g:=gb201) (o := .cells #[.slice (some ad224) l0_0.length c0_0,.slice A0_1 l0_1.length c0_1] 26 (0,0)) (by (with_reducible repeat (first|refine kdN ?_ _|refine kd ?_|refine ka ?_ _));exact BK201.out) hb);have n2_:=AsZ.mk (bwp (by repeat (first|(with_reducible first|exact HB.out|apply bwa|apply pbN|apply bw1|refine bws ?_ GE201.out)|exact HB.out)) hb);clear HO_93;clear BK201;clear HB;have HO_93:=n0_;have BK201:=n1_;have HB:=n2_;clear n0_ n1_ n2_;(try clear hb);(try clear hb2);(try clear hk);(try clear hi)))
             go_ret
             exact ⟨by first|rfl|(simp [errW_none,errW_some]<;>rfl)|(simp [*,errW_none,errW_some]<;>rfl),by repeat (first|(with_reducible first|exact HB.out|apply bwa|apply pbN|apply bw1|refine bws ?_ GE201.out)|exact HB.out)⟩
           rw [if_pos c102] at H
           have c102b0:(t231 == (-1))=true:=beq_iff_eq.mpr c102
           have c102b1:(t231 != (-1))=false:=bne_eq_false_iff_eq.mpr c102
           clear c102
           have H':=AsZ.mk H
           clear H
           have hcz103_0:wr.cell? ⟨gb201,0,none⟩=some (.slice (some ad224) l0_0.length c0_0):=(kc BK201.out 0).trans rfl
           have hcz103_1:wr.cell? ⟨gb201,1,none⟩=some (.slice A0_1 l0_1.length c0_1):=(kc BK201.out 1).trans rfl
           have hfz103_0:=kf BK201.out 0
           have hfz103_1:=kf BK201.out 1
           go_wp2_with (first|((with_reducible refine gcl (f:=72) rfl ?_);refine goesL_ (some 156) rfl rfl Tryd.func72 (by kernel_rfl) rfl #[.agg #[.slice (some ad224) l0_0.length c0_0,.slice A0_1 l0_1.length c0_1],.int .i64 x12_4,.int .i64 x95_3] rfl (by (try simp only [zA,zC,zN]);first|done|rfl|(simp only [zM,zL];rfl)) ?_;(with_reducible refine (spec_l4Next.calls _ _ l0_0 _ _ l0_1 x12_4 x95_3 t231 _ ?side1 ?side2 ?side3 ?side4 A101.out).mono ?_);(case side1=>repeat (first|exact (Kd.C_below HR0_0.out HB.out)|(with_reducible refine Kd.C_alloc ?_ _)|(with_reducible refine Kd.C_drewN ?_ _)|(with_reducible refine Kd.C_drew ?_)));(case side2=>exact HC0_0.out);(case side3=>repeat (first|exact (Kd.C_below HR0_1.out HB.out)|(with_reducible refine Kd.C_alloc ?_ _)|(with_reducible refine Kd.C_drewN ?_ _)|(with_reducible refine Kd.C_drew ?_)));(case side4=>exact HC0_1.out);rintro e w104 ⟨rfl,hb⟩;refine ⟨_,rfl,?_⟩;have n0_:=AsZ.mk (Kd.R_below (by (with_reducible repeat (first|apply Kd.R_alloc|apply Kd.R_drewN|apply Kd.R_drew));exact HO_93.out) hb);have n1_:=AsZ.mk (kb (g:=gb201) (o := .cells #[.slice (some ad224) l0_0.length c0_0,.slice A0_1 l0_1.length c0_1] 26 (0,0)) (by (with_reducible repeat (first|refine kdN ?_ _|refine kd ?_|refine ka ?_ _));exact BK201.out) hb);have n2_:=AsZ.mk (bwp (by repeat (first|(with_reducible first|exact HB.out|apply bwa|apply pbN|apply bw1|refine bws ?_ GE201.out)|exact HB.out)) hb);clear HO_93;clear BK201;clear HB;have HO_93:=n0_;have BK201:=n1_;have HB:=n2_;clear n0_ n1_ n2_;(try clear hb);(try clear hb2);(try clear hk);(try clear hi)))
           go_roundg k4
           case measure=>have:=HJ1.out;have:=HK2.out;have:=HK3.out;have:=HK4.out;omega
           case rel=>exact ⟨(wrap64 (x95_3 + 1)),(by first|rfl|(simp;done)|(simp [*];done)),H',⟨by have:=HJ1.out;have:=HK2.out;have:=HK3.out;have:=HK4.out;omega⟩,⟨by (with_reducible repeat (first|apply Kd.R_alloc|apply Kd.R_drewN|apply Kd.R_drew));exact HO_93.out⟩,⟨by (with_reducible repeat (first|refine kdN ?_ _|refine kd ?_|refine ka ?_ _));exact BK201.out⟩,⟨by repeat (first|(with_reducible first|exact HB.out|apply bwa|apply pbN|apply bw1|refine bws ?_ GE201.out)|exact HB.out)⟩⟩
         rw [if_pos c82] at H
         have c82b0:decide (0 < x11_4)=true:=zE c82
         clear c82
         replace H:=Option.bind_eq_some_iff.mp H
         obtain ⟨t226,A830,H⟩:=H
         replace H:(if t226 < 0 then (spec_GoodSkip.j7 k4 x95_3 x11_4 t226 x4_2 (x4_2.length:Int) x95_3 true l0_0 l0_1) else (if 0≤t226 then (if t226 < (l0_1.length:Int) then (if (((rd_T77 l0_1 t226).f1).length:Int)≤x95_3 then (spec_GoodSkip.j7 k4 x95_3 x11_4 t226 x4_2 (x4_2.length:Int) x95_3 true l0_0 l0_1) else (if x12_4 ≥ 0 then (if 0≤x12_4 then (if x12_4 < (l0_1.length:Int) then ((spec_l4Compare.f k4 ((rd_T77 l0_1 x12_4).f0.f0) ((rd_T77 l0_1 x12_4).f0.f1) ((rd_T77 l0_1 x12_4).f0.f2) ((rd_T77 l0_1 x12_4).f0.f3) ((rd_T77 l0_1 t226).f0.f0) ((rd_T77 l0_1 t226).f0.f1) ((rd_T77 l0_1 t226).f0.f2) ((rd_T77 l0_1 t226).f0.f3)).bind fun t230=>(spec_GoodSkip.j7 k4 x95_3 x11_4 t226 x4_2 (x4_2.length:Int) x95_3 (decide (t230 ≥ 0)) l0_0 l0_1)) else (none)) else (none)) else (spec_GoodSkip.j7 k4 x95_3 x11_4 t226 x4_2 (x4_2.length:Int) x95_3 false l0_0 l0_1))) else (none)) else (none)))=some r:=H
         have A83:=AsZ.mk A830
         clear A830
         have HC84:=AsZ.mk H
         clear H
         have hcz85_0:wr.cell? ⟨gb201,0,none⟩=some (.slice (some ad224) l0_0.length c0_0):=(kc BK201.out 0).trans rfl
         have hcz85_1:wr.cell? ⟨gb201,1,none⟩=some (.slice A0_1 l0_1.length c0_1):=(kc BK201.out 1).trans rfl
         have hfz85_0:=kf BK201.out 0
         have hfz85_1:=kf BK201.out 1
         go_upto_region 33 with (first|((with_reducible refine gcl (f:=72) rfl ?_);refine goesL_ (some 118) rfl rfl Tryd.func72 (by kernel_rfl) rfl #[.agg #[.slice (some ad224) l0_0.length c0_0,.slice A0_1 l0_1.length c0_1],.int .i64 x12_4,.int .i64 x95_3] rfl (by (try simp only [zA,zC,zN]);first|done|rfl|(simp only [zM,zL];rfl)) ?_;(with_reducible refine (spec_l4Next.calls _ _ l0_0 _ _ l0_1 x12_4 x95_3 t226 _ ?side1 ?side2 ?side3 ?side4 A83.out).mono ?_);(case side1=>repeat (first|exact (Kd.C_below HR0_0.out HB.out)|(with_reducible refine Kd.C_alloc ?_ _)|(with_reducible refine Kd.C_drewN ?_ _)|(with_reducible refine Kd.C_drew ?_)));(case side2=>exact HC0_0.out);(case side3=>repeat (first|exact (Kd.C_below HR0_1.out HB.out)|(with_reducible refine Kd.C_alloc ?_ _)|(with_reducible refine Kd.C_drewN ?_ _)|(with_reducible refine Kd.C_drew ?_)));(case side4=>exact HC0_1.out);rintro e w86 ⟨rfl,hb⟩;refine ⟨_,rfl,?_⟩;have n0_:=AsZ.mk (Kd.R_below (by (with_reducible repeat (first|apply Kd.R_alloc|apply Kd.R_drewN|apply Kd.R_drew));exact HO_93.out) hb);have n1_:=AsZ.mk (kb (g:=gb201) (o := .cells #[.slice (some ad224) l0_0.length c0_0,.slice A0_1 l0_1.length c0_1] 26 (0,0)) (by (with_reducible repeat (first|refine kdN ?_ _|refine kd ?_|refine ka ?_ _));exact BK201.out) hb);have n2_:=AsZ.mk (bwp (by repeat (first|(with_reducible first|exact HB.out|apply bwa|apply pbN|apply bw1|refine bws ?_ GE201.out)|exact HB.out)) hb);clear HO_93;clear BK201;clear HB;have HO_93:=n0_;have BK201:=n1_;have HB:=n2_;clear n0_ n1_ n2_;(try clear hb);(try clear hb2);(try clear hk);(try clear hi)))
         (try simp only [Act.put,zS,zT,zU])
         go_cut [151] (fun v151 wc => ∃ (kq:Nat) (x151_83:Bool),v151 = .bool x151_83∧AsZ (spec_GoodSkip.j7 kq x95_3 x11_4 t226 x4_2 (x4_2.length:Int) x95_3 x151_83 l0_0 l0_1=some r)∧AsZ (kq≤k4)∧AsZ (Kd.R (Kd.int .i64) 3 wc w.heap.size (fun _=>True) (.slice (some ad223) x4_2.length co74) x4_2)∧AsZ (wc.heap[gb201]? = some (.cells #[(.slice (some ad224) l0_0.length c0_0),(.slice A0_1 l0_1.length c0_1)] 26 (0,0)))∧AsZ (Below w.heap.size w wc))
         case first =>
          have H:=HC84.out
          clear HC84
          by_cases c87:t226 < 0
          · rw [if_pos c87] at H
            have c87b0:decide (t226 < 0)=true:=zE c87
            clear c87
            (first|rw [c87b0]|(simp only [i64_w,i32_w];rw [c87b0])|rw [c87b1]|skip)
            have H':=AsZ.mk H
            clear H
            try go_wp2
            have n0_:=AsZ.mk (Kd.R_drew HO_93.out)
            have n1_:=AsZ.mk (kd BK201.out)
            have n2_:=AsZ.mk (bw1 HB.out)
            clear HO_93 BK201 HB
            have HO_93:=n0_
            have BK201:=n1_
            have HB:=n2_
            clear n0_ n1_ n2_
            refine start_ (n:=33) (S:=fun w'=>True) (ds:=[]) (b_ 0 33) (by kernel_rfl) rfl rfl trivial (fun hHeld=>?_);refine with_tabW spec_GoodSkip.tab33 spec_GoodSkip.bits33 (fun HT_ HW_=>?_)
            generalize w86.drew=w88 at HO_93 BK201 HB hHeld ⊢
            refine pure_ (i:=0) (N:=some 119) (v:=?_) (a':=?_) (b_ 1 32) rfl rfl (anO HT_.out (by kernel_rfl)) (fun _ _ _ h=>h) (Or.inl ⟨by rfl,?_⟩) ?_ ?_
            rotate_left
            · intro w'
              go_simp
              with_reducible rfl
            rotate_left
            · simp only [Act.put,zS,zT,zU,i64_w,i32_w]
              rfl
            refine pure_ (i:=1) (N:=some 120) (v:=?_) (a':=?_) (b_ 2 31) rfl rfl (anO HT_.out (by kernel_rfl)) (fun _ _ _ h=>h) (Or.inl ⟨by rfl,?_⟩) ?_ ?_
            rotate_left
            · intro w'
              go_simp
              with_reducible rfl
            rotate_left
            · simp only [Act.put,zS,zT,zU,i64_w,i32_w]
              rfl
            refine pure_ (i:=2) (N:=some 121) (v:=?_) (a':=?_) (b_ 3 30) rfl rfl (anO HT_.out (by kernel_rfl)) (fun _ _ _ h=>h) (Or.inl ⟨by rfl,?_⟩) ?_ ?_
            rotate_left
            · intro w'
              go_simp
              with_reducible rfl
            rotate_left
            · simp only [Act.put,zS,zT,zU,i64_w,i32_w]
              rfl
            refine pure_ (i:=3) (N:=some 122) (v:=undef) (a':=?_) (b_ 4 29) rfl rfl (anO HT_.out (by kernel_rfl)) (fun _ _ _ h=>h) (Or.inr ⟨by rfl,rfl⟩) ?_ ?_
            rotate_left
            · simp only [Act.put,zS,zT,zU,i64_w,i32_w]
              rfl
            refine pure_ (i:=4) (N:=some 123) (v:=undef) (a':=?_) (b_ 5 28) rfl rfl (anO HT_.out (by kernel_rfl)) (fun _ _ _ h=>h) (Or.inr ⟨by rfl,rfl⟩) ?_ ?_
            rotate_left
            · simp only [Act.put,zS,zT,zU,i64_w,i32_w]
              rfl
            refine pure_ (i:=5) (N:=some 124) (v:=undef) (a':=?_) (b_ 6 27) rfl rfl (anO HT_.out (by kernel_rfl)) (fun _ _ _ h=>h) (Or.inr ⟨by rfl,rfl⟩) ?_ ?_
            rotate_left
            · simp only [Act.put,zS,zT,zU,i64_w,i32_w]
              rfl
            refine pure_ (i:=6) (N:=some 125) (v:=undef) (a':=?_) (b_ 7 26) rfl rfl (anO HT_.out (by kernel_rfl)) (fun _ _ _ h=>h) (Or.inr ⟨by rfl,rfl⟩) ?_ ?_
            rotate_left
            · simp only [Act.put,zS,zT,zU,i64_w,i32_w]
              rfl
            refine pure_ (i:=7) (N:=some 126) (v:=undef) (a':=?_) (b_ 8 25) rfl rfl (anO HT_.out (by kernel_rfl)) (fun _ _ _ h=>h) (Or.inr ⟨by rfl,rfl⟩) ?_ ?_
            rotate_left
            · simp only [Act.put,zS,zT,zU,i64_w,i32_w]
              rfl
            refine pure_ (i:=8) (N:=some 127) (v:=undef) (a':=?_) (b_ 9 24) rfl rfl (anO HT_.out (by kernel_rfl)) (fun _ _ _ h=>h) (Or.inr ⟨by rfl,rfl⟩) ?_ ?_
            rotate_left
            · simp only [Act.put,zS,zT,zU,i64_w,i32_w]
              rfl
            refine pure_ (i:=9) (N:=some 128) (v:=undef) (a':=?_) (b_ 10 23) rfl rfl (anO HT_.out (by kernel_rfl)) (fun _ _ _ h=>h) (Or.inr ⟨by rfl,rfl⟩) ?_ ?_
            rotate_left
            · simp only [Act.put,zS,zT,zU,i64_w,i32_w]
              rfl
            refine pure_ (i:=10) (N:=some 129) (v:=undef) (a':=?_) (b_ 11 22) rfl rfl (anO HT_.out (by kernel_rfl)) (fun _ _ _ h=>h) (Or.inr ⟨by rfl,rfl⟩) ?_ ?_
            rotate_left
            · simp only [Act.put,zS,zT,zU,i64_w,i32_w]
              rfl
            refine pure_ (i:=11) (N:=some 130) (v:=undef) (a':=?_) (b_ 12 21) rfl rfl (anO HT_.out (by kernel_rfl)) (fun _ _ _ h=>h) (Or.inr ⟨by rfl,rfl⟩) ?_ ?_
            rotate_left
            · simp only [Act.put,zS,zT,zU,i64_w,i32_w]
              rfl
            refine pure_ (i:=12) (N:=some 131) (v:=?_) (a':=?_) (b_ 13 20) rfl rfl (anO HT_.out (by kernel_rfl)) (fun _ _ _ h=>h) (Or.inl ⟨by rfl,?_⟩) ?_ ?_
            rotate_left
            · intro w'
              go_simp
              with_reducible rfl
            rotate_left
            · simp only [Act.put,zS,zT,zU,i64_w,i32_w]
              rfl
            refine pure_ (i:=13) (N:=some 132) (v:=?_) (a':=?_) (b_ 14 19) rfl rfl (anO HT_.out (by kernel_rfl)) (fun _ _ _ h=>h) (Or.inl ⟨by rfl,?_⟩) ?_ ?_
            rotate_left
            · intro w'
              go_simp
              with_reducible rfl
            rotate_left
            · simp only [Act.put,zS,zT,zU,i64_w,i32_w]
              rfl
            refine pure_ (i:=14) (N:=some 133) (v:=undef) (a':=?_) (b_ 15 18) rfl rfl (anO HT_.out (by kernel_rfl)) (fun _ _ _ h=>h) (Or.inr ⟨by rfl,rfl⟩) ?_ ?_
            rotate_left
            · simp only [Act.put,zS,zT,zU,i64_w,i32_w]
              rfl
            refine pure_ (i:=15) (N:=some 134) (v:=undef) (a':=?_) (b_ 16 17) rfl rfl (anO HT_.out (by kernel_rfl)) (fun _ _ _ h=>h) (Or.inr ⟨by rfl,rfl⟩) ?_ ?_
            rotate_left
            · simp only [Act.put,zS,zT,zU,i64_w,i32_w]
              rfl
            refine pure_ (i:=16) (N:=some 135) (v:=undef) (a':=?_) (b_ 17 16) rfl rfl (anO HT_.out (by kernel_rfl)) (fun _ _ _ h=>h) (Or.inr ⟨by rfl,rfl⟩) ?_ ?_
            rotate_left
            · simp only [Act.put,zS,zT,zU,i64_w,i32_w]
              rfl
            refine pure_ (i:=17) (N:=some 136) (v:=undef) (a':=?_) (b_ 18 15) rfl rfl (anO HT_.out (by kernel_rfl)) (fun _ _ _ h=>h) (Or.inr ⟨by rfl,rfl⟩) ?_ ?_
            rotate_left
            · simp only [Act.put,zS,zT,zU,i64_w,i32_w]
              rfl
            refine pure_ (i:=18) (N:=some 137) (v:=undef) (a':=?_) (b_ 19 14) rfl rfl (anO HT_.out (by kernel_rfl)) (fun _ _ _ h=>h) (Or.inr ⟨by rfl,rfl⟩) ?_ ?_
            rotate_left
            · simp only [Act.put,zS,zT,zU,i64_w,i32_w]
              rfl
            refine pure_ (i:=19) (N:=some 138) (v:=undef) (a':=?_) (b_ 20 13) rfl rfl (anO HT_.out (by kernel_rfl)) (fun _ _ _ h=>h) (Or.inr ⟨by rfl,rfl⟩) ?_ ?_
            rotate_left
            · simp only [Act.put,zS,zT,zU,i64_w,i32_w]
              rfl
            refine pure_ (i:=20) (N:=some 139) (v:=undef) (a':=?_) (b_ 21 12) rfl rfl (anO HT_.out (by kernel_rfl)) (fun _ _ _ h=>h) (Or.inr ⟨by rfl,rfl⟩) ?_ ?_
            rotate_left
            · simp only [Act.put,zS,zT,zU,i64_w,i32_w]
              rfl
            refine pure_ (i:=21) (N:=some 140) (v:=undef) (a':=?_) (b_ 22 11) rfl rfl (anO HT_.out (by kernel_rfl)) (fun _ _ _ h=>h) (Or.inr ⟨by rfl,rfl⟩) ?_ ?_
            rotate_left
            · simp only [Act.put,zS,zT,zU,i64_w,i32_w]
              rfl
            refine pure_ (i:=22) (N:=some 141) (v:=undef) (a':=?_) (b_ 23 10) rfl rfl (anO HT_.out (by kernel_rfl)) (fun _ _ _ h=>h) (Or.inr ⟨by rfl,rfl⟩) ?_ ?_
            rotate_left
            · simp only [Act.put,zS,zT,zU,i64_w,i32_w]
              rfl
            refine pure_ (i:=23) (N:=some 142) (v:=undef) (a':=?_) (b_ 24 9) rfl rfl (anO HT_.out (by kernel_rfl)) (fun _ _ _ h=>h) (Or.inr ⟨by rfl,rfl⟩) ?_ ?_
            rotate_left
            · simp only [Act.put,zS,zT,zU,i64_w,i32_w]
              rfl
            refine pure_ (i:=24) (N:=some 143) (v:=undef) (a':=?_) (b_ 25 8) rfl rfl (anO HT_.out (by kernel_rfl)) (fun _ _ _ h=>h) (Or.inr ⟨by rfl,rfl⟩) ?_ ?_
            rotate_left
            · simp only [Act.put,zS,zT,zU,i64_w,i32_w]
              rfl
            refine pure_ (i:=25) (N:=some 144) (v:=undef) (a':=?_) (b_ 26 7) rfl rfl (anO HT_.out (by kernel_rfl)) (fun _ _ _ h=>h) (Or.inr ⟨by rfl,rfl⟩) ?_ ?_
            rotate_left
            · simp only [Act.put,zS,zT,zU,i64_w,i32_w]
              rfl
            refine pure_ (i:=26) (N:=some 145) (v:=undef) (a':=?_) (b_ 27 6) rfl rfl (anO HT_.out (by kernel_rfl)) (fun _ _ _ h=>h) (Or.inr ⟨by rfl,rfl⟩) ?_ ?_
            rotate_left
            · simp only [Act.put,zS,zT,zU,i64_w,i32_w]
              rfl
            refine pure_ (i:=27) (N:=some 146) (v:=undef) (a':=?_) (b_ 28 5) rfl rfl (anO HT_.out (by kernel_rfl)) (fun _ _ _ h=>h) (Or.inr ⟨by rfl,rfl⟩) ?_ ?_
            rotate_left
            · simp only [Act.put,zS,zT,zU,i64_w,i32_w]
              rfl
            refine pure_ (i:=28) (N:=some 147) (v:=undef) (a':=?_) (b_ 29 4) rfl rfl (anO HT_.out (by kernel_rfl)) (fun _ _ _ h=>h) (Or.inr ⟨by rfl,rfl⟩) ?_ ?_
            rotate_left
            · simp only [Act.put,zS,zT,zU,i64_w,i32_w]
              rfl
            refine pure_ (i:=29) (N:=some 148) (v:=undef) (a':=?_) (b_ 30 3) rfl rfl (anO HT_.out (by kernel_rfl)) (fun _ _ _ h=>h) (Or.inr ⟨by rfl,rfl⟩) ?_ ?_
            rotate_left
            · simp only [Act.put,zS,zT,zU,i64_w,i32_w]
              rfl
            refine pure_ (i:=30) (N:=some 149) (v:=undef) (a':=?_) (b_ 31 2) rfl rfl (anO HT_.out (by kernel_rfl)) (fun _ _ _ h=>h) (Or.inr ⟨by rfl,rfl⟩) ?_ ?_
            rotate_left
            · simp only [Act.put,zS,zT,zU,i64_w,i32_w]
              rfl
            refine pure_ (i:=31) (N:=some 150) (v:=undef) (a':=?_) (b_ 32 1) rfl rfl (anO HT_.out (by kernel_rfl)) (fun _ _ _ h=>h) (Or.inr ⟨by rfl,rfl⟩) ?_ ?_
            rotate_left
            · simp only [Act.put,zS,zT,zU,i64_w,i32_w]
              rfl
            refine pure_ (i:=32) (N:=some 151) (v:=?_) (a':=?_) (b_ 33 0) rfl rfl (anO HT_.out (by kernel_rfl)) (fun _ _ _ h=>h) (Or.inl ⟨by rfl,?_⟩) ?_ ?_
            rotate_left
            · intro w'
              go_simp
              with_reducible rfl
            rotate_left
            · simp only [Act.put,zS,zT,zU,i64_w,i32_w]
              rfl
            refine dn_ (dnO HT_.out (by kernel_rfl)) ?_
            try go_wp2
            go_meet
            case rel=>exact ⟨_,(true),(by first|rfl|(simp;done)|(simp [*];done)),H',⟨by have:=HJ1.out;have:=HK2.out;have:=HK3.out;have:=HK4.out;first|omega|exact Nat.le_refl _⟩,⟨by (with_reducible repeat (first|apply Kd.R_alloc|apply Kd.R_drewN|apply Kd.R_drew));exact HO_93.out⟩,⟨by (with_reducible repeat (first|refine kdN ?_ _|refine kd ?_|refine ka ?_ _));exact BK201.out⟩,⟨by repeat (first|(with_reducible first|exact HB.out|apply bwa|apply pbN|apply bw1|refine bws ?_ GE201.out)|exact HB.out)⟩⟩
          rw [if_neg c87] at H
          have c87b0:decide (t226 < 0)=false:=decide_eq_false c87
          clear c87
          (first|rw [c87b0]|(simp only [i64_w,i32_w];rw [c87b0])|rw [c87b1]|skip)
          by_cases c89:0≤t226
          rotate_left
          · rw [if_neg c89] at H
            exact absurd H (by simp)
          rw [if_pos c89] at H
          have c89b0:decide (0≤t226)=true:=zE c89
          clear c89
          by_cases c90:t226 < (l0_1.length:Int)
          rotate_left
          · rw [if_neg c90] at H
            exact absurd H (by simp)
          rw [if_pos c90] at H
          have c90b0:decide (t226 < (l0_1.length:Int))=true:=zE c90
          clear c90
          by_cases c91:(((rd_T77 l0_1 t226).f1).length:Int)≤x95_3
          · rw [if_pos c91] at H
            have c91b0:decide ((((rd_T77 l0_1 t226).f1).length:Int)≤x95_3)=true:=zE c91
            clear c91
            have H':=AsZ.mk H
            clear H
            try go_wp2
            have n0_:=AsZ.mk (Kd.R_drew HO_93.out)
            have n1_:=AsZ.mk (kd BK201.out)
            have n2_:=AsZ.mk (bw1 HB.out)
            clear HO_93 BK201 HB
            have HO_93:=n0_
            have BK201:=n1_
            have HB:=n2_
            clear n0_ n1_ n2_
            have p227:0≤(t226:Int):=zD (by first|(with_reducible assumption)|assumption)
            have q227:t226 < (l0_1.length:Int):=zD (by first|(with_reducible assumption)|assumption)
            obtain ⟨ad227,A227_4,c227_4,e227,hx227_0,hx227_1,hx227_2,hx227_3,hx227_4,hl227_4,hi227_4⟩:=at_T77 HR0_1.out t226 p227 q227
            have hw227_4:=hx227_4
            have hw227_3:=hx227_3
            have hw227_2:=hx227_2
            have hw227_1:=hx227_1
            have hw227_0:=hx227_0
            cases e227
            replace hx227_0:=(HB.out.cell (zB w _ hx227_0)).trans hx227_0
            replace hx227_1:=(HB.out.cell (zB w _ hx227_1)).trans hx227_1
            replace hx227_2:=(HB.out.cell (zB w _ hx227_2)).trans hx227_2
            replace hx227_3:=(HB.out.cell (zB w _ hx227_3)).trans hx227_3
            replace hx227_4:=(HB.out.cell (zB w _ hx227_4)).trans hx227_4
            have HR227_4:=AsZ.mk hi227_4
            have HC227_4:=AsZ.mk hl227_4
            clear hi227_4 hl227_4
            replace p227:=eq_true p227
            replace q227:=eq_true q227
            refine start_ (n:=33) (S:=fun w'=>w'.cell? ⟨gb201,0,none⟩=some (.slice (some ad224) l0_0.length c0_0)∧w'.cell? ⟨gb201,1,none⟩=some (.slice (some ad227) l0_1.length c0_1)∧w'.cell? (ad227.add ((t226).toNat * 5))=some (.string ((rd_T77 l0_1 t226).f0.f0))∧w'.cell? ⟨(ad227.add ((t226).toNat * 5)).block,(ad227.add ((t226).toNat * 5)).off + 1,none⟩=some (.int .i64 ((rd_T77 l0_1 t226).f0.f1))∧w'.cell? ⟨(ad227.add ((t226).toNat * 5)).block,(ad227.add ((t226).toNat * 5)).off + 2,none⟩=some (.int .i64 ((rd_T77 l0_1 t226).f0.f2))∧w'.cell? ⟨(ad227.add ((t226).toNat * 5)).block,(ad227.add ((t226).toNat * 5)).off + 3,none⟩=some (.string ((rd_T77 l0_1 t226).f0.f3))∧w'.cell? ⟨(ad227.add ((t226).toNat * 5)).block,(ad227.add ((t226).toNat * 5)).off + 4,none⟩=some (.slice A227_4 ((rd_T77 l0_1 t226).f1).length c227_4)) (ds:=[]) (b_ 0 33) (by kernel_rfl) rfl rfl ⟨(kc BK201.out 0).trans rfl,(kc BK201.out 1).trans rfl,((HB.out.cell (zB w _ hw227_0)).trans hw227_0),((HB.out.cell (zB w _ hw227_1)).trans hw227_1),((HB.out.cell (zB w _ hw227_2)).trans hw227_2),((HB.out.cell (zB w _ hw227_3)).trans hw227_3),((HB.out.cell (zB w _ hw227_4)).trans hw227_4)⟩ (fun hHeld=>?_);refine with_tabW spec_GoodSkip.tab33 spec_GoodSkip.bits33 (fun HT_ HW_=>?_)
            generalize w86.drew=w92 at HO_93 BK201 HB HR227_4 hx227_0 hx227_1 hx227_2 hx227_3 hx227_4 hHeld ⊢
            refine pure_ (i:=0) (N:=some 119) (v:=?_) (a':=?_) (b_ 1 32) rfl rfl (anO HT_.out (by kernel_rfl)) (fun _ _ _ h=>h) (Or.inl ⟨by rfl,?_⟩) ?_ ?_
            rotate_left
            · intro w'
              go_simp
              with_reducible rfl
            rotate_left
            · simp only [Act.put,zS,zT,zU,i64_w,i32_w]
              rfl
            refine pure_ (i:=1) (N:=some 120) (v:=?_) (a':=?_) (b_ 2 31) rfl rfl (anO HT_.out (by kernel_rfl)) (fun _ _ _ h=>h) (Or.inl ⟨by rfl,?_⟩) ?_ ?_
            rotate_left
            · intro w'
              go_simp
              with_reducible rfl
            rotate_left
            · simp only [Act.put,zS,zT,zU,i64_w,i32_w]
              rfl
            refine pure_ (i:=2) (N:=some 121) (v:=?_) (a':=?_) (b_ 3 30) rfl rfl (anO HT_.out (by kernel_rfl)) (fun _ _ _ h=>h) (Or.inl ⟨by rfl,?_⟩) ?_ ?_
            rotate_left
            · intro w'
              go_simp
              with_reducible rfl
            rotate_left
            · simp only [Act.put,zS,zT,zU,i64_w,i32_w]
              rfl
            refine pure_ (i:=3) (N:=some 122) (v:=?_) (a':=?_) (b_ 4 29) rfl rfl (anO HT_.out (by kernel_rfl)) (fun _ _ _ h=>h) (Or.inl ⟨by rfl,?_⟩) ?_ ?_
            rotate_left
            · intro w'
              go_simp
              with_reducible rfl
            rotate_left
            · simp only [Act.put,zS,zT,zU,i64_w,i32_w]
              rfl
            refine pure_ (i:=5) (N:=some 124) (v:=?_) (a':=?_) #[true,true,true,true,false,true,false,false,false,false,false,false,false,false,false,false,false,false,false,false,false,false,false,false,false,false,false,false,false,false,false,false,false] rfl rfl (anO HT_.out (by kernel_rfl)) (fun _ _ _ h=>h) (Or.inl ⟨by rfl,?_⟩) ?_ ?_
            rotate_left
            · intro w'
              go_simp
              with_reducible rfl
            rotate_left
            · simp only [Act.put,zS,zT,zU,i64_w,i32_w]
              rfl
            refine pure_ (i:=10) (N:=some 129) (v:=?_) (a':=?_) #[true,true,true,true,false,true,false,false,false,false,true,false,false,false,false,false,false,false,false,false,false,false,false,false,false,false,false,false,false,false,false,false,false] rfl rfl (anO HT_.out (by kernel_rfl)) (fun _ _ _ h=>h) (Or.inl ⟨by rfl,?_⟩) ?_ ?_
            rotate_left
            · intro w'
              go_simp
              with_reducible rfl
            rotate_left
            · simp only [Act.put,zS,zT,zU,i64_w,i32_w]
              rfl
            refine take_ (i:=4) (N:=some 123) (v:=?_) (a':=?_) #[true,true,true,true,true,true,false,false,false,false,true,false,false,false,false,false,false,false,false,false,false,false,false,false,false,false,false,false,false,false,false,false,false] rfl rfl (tkO HT_.out HW_.out (by kernel_rfl)) (fun _ _ _ h=>h) (Or.inl ⟨by rfl,?_⟩) hHeld ?_ ?_
            rotate_left
            · rintro w' ⟨s0,s1,s2,s3,s4,s5,s6⟩
              go_simp
              with_reducible rfl
            rotate_left
            · simp only [Act.put,zS,zT,zU,i64_w,i32_w]
              rfl
            refine pure_ (i:=6) (N:=some 125) (v:=?_) (a':=?_) #[true,true,true,true,true,true,true,false,false,false,true,false,false,false,false,false,false,false,false,false,false,false,false,false,false,false,false,false,false,false,false,false,false] rfl rfl (anO HT_.out (by kernel_rfl)) (fun _ _ _ h=>h) (Or.inl ⟨by rfl,?_⟩) ?_ ?_
            rotate_left
            · intro w'
              go_simp
              with_reducible rfl
            rotate_left
            · simp only [Act.put,zS,zT,zU,i64_w,i32_w]
              rfl
            refine pure_ (i:=7) (N:=some 126) (v:=?_) (a':=?_) #[true,true,true,true,true,true,true,true,false,false,true,false,false,false,false,false,false,false,false,false,false,false,false,false,false,false,false,false,false,false,false,false,false] rfl rfl (anO HT_.out (by kernel_rfl)) (fun _ _ _ h=>h) (Or.inl ⟨by rfl,?_⟩) ?_ ?_
            rotate_left
            · intro w'
              go_simp
              with_reducible rfl
            rotate_left
            · simp only [Act.put,zS,zT,zU,i64_w,i32_w]
              rfl
            refine take_ (i:=8) (N:=some 127) (v:=?_) (a':=?_) #[true,true,true,true,true,true,true,true,true,false,true,false,false,false,false,false,false,false,false,false,false,false,false,false,false,false,false,false,false,false,false,false,false] rfl rfl (tkO HT_.out HW_.out (by kernel_rfl)) (fun _ _ _ h=>h) (Or.inl ⟨by rfl,?_⟩) hHeld ?_ ?_
            rotate_left
            · rintro w' ⟨s0,s1,s2,s3,s4,s5,s6⟩
              go_simp
              with_reducible rfl
            rotate_left
            · simp only [Act.put,zS,zT,zU,i64_w,i32_w]
              rfl
            refine pure_ (i:=9) (N:=some 128) (v:=?_) (a':=?_) (b_ 11 22) rfl rfl (anO HT_.out (by kernel_rfl)) (fun _ _ _ h=>h) (Or.inl ⟨by rfl,?_⟩) ?_ ?_
            rotate_left
            · intro w'
              go_simp
              with_reducible rfl
            rotate_left
            · simp only [Act.put,zS,zT,zU,i64_w,i32_w]
              rfl
            refine pure_ (i:=11) (N:=some 130) (v:=?_) (a':=?_) (b_ 12 21) rfl rfl (anO HT_.out (by kernel_rfl)) (fun _ _ _ h=>h) (Or.inl ⟨by rfl,?_⟩) ?_ ?_
            rotate_left
            · intro w'
              go_simp
              with_reducible rfl
            rotate_left
            · simp only [Act.put,zS,zT,zU,i64_w,i32_w]
              rfl
            refine pure_ (i:=12) (N:=some 131) (v:=?_) (a':=?_) (b_ 13 20) rfl rfl (anO HT_.out (by kernel_rfl)) (fun _ _ _ h=>h) (Or.inl ⟨by rfl,?_⟩) ?_ ?_
            rotate_left
            · intro w'
              go_simp
              with_reducible rfl
            rotate_left
            · simp only [Act.put,zS,zT,zU,i64_w,i32_w]
              rfl
            refine pure_ (i:=13) (N:=some 132) (v:=?_) (a':=?_) (b_ 14 19) rfl rfl (anO HT_.out (by kernel_rfl)) (fun _ _ _ h=>h) (Or.inl ⟨by rfl,?_⟩) ?_ ?_
            rotate_left
            · intro w'
              go_simp
              with_reducible rfl
            rotate_left
            · simp only [Act.put,zS,zT,zU,i64_w,i32_w]
              rfl
            refine pure_ (i:=14) (N:=some 133) (v:=undef) (a':=?_) (b_ 15 18) rfl rfl (anO HT_.out (by kernel_rfl)) (fun _ _ _ h=>h) (Or.inr ⟨by rfl,rfl⟩) ?_ ?_
            rotate_left
            · simp only [Act.put,zS,zT,zU,i64_w,i32_w]
              rfl
            refine pure_ (i:=15) (N:=some 134) (v:=undef) (a':=?_) (b_ 16 17) rfl rfl (anO HT_.out (by kernel_rfl)) (fun _ _ _ h=>h) (Or.inr ⟨by rfl,rfl⟩) ?_ ?_
            rotate_left
            · simp only [Act.put,zS,zT,zU,i64_w,i32_w]
              rfl
            refine pure_ (i:=16) (N:=some 135) (v:=undef) (a':=?_) (b_ 17 16) rfl rfl (anO HT_.out (by kernel_rfl)) (fun _ _ _ h=>h) (Or.inr ⟨by rfl,rfl⟩) ?_ ?_
            rotate_left
            · simp only [Act.put,zS,zT,zU,i64_w,i32_w]
              rfl
            refine pure_ (i:=17) (N:=some 136) (v:=undef) (a':=?_) (b_ 18 15) rfl rfl (anO HT_.out (by kernel_rfl)) (fun _ _ _ h=>h) (Or.inr ⟨by rfl,rfl⟩) ?_ ?_
            rotate_left
            · simp only [Act.put,zS,zT,zU,i64_w,i32_w]
              rfl
            refine pure_ (i:=18) (N:=some 137) (v:=undef) (a':=?_) (b_ 19 14) rfl rfl (anO HT_.out (by kernel_rfl)) (fun _ _ _ h=>h) (Or.inr ⟨by rfl,rfl⟩) ?_ ?_
            rotate_left
            · simp only [Act.put,zS,zT,zU,i64_w,i32_w]
              rfl
            refine pure_ (i:=19) (N:=some 138) (v:=undef) (a':=?_) (b_ 20 13) rfl rfl (anO HT_.out (by kernel_rfl)) (fun _ _ _ h=>h) (Or.inr ⟨by rfl,rfl⟩) ?_ ?_
            rotate_left
            · simp only [Act.put,zS,zT,zU,i64_w,i32_w]
              rfl
            refine pure_ (i:=20) (N:=some 139) (v:=undef) (a':=?_) (b_ 21 12) rfl rfl (anO HT_.out (by kernel_rfl)) (fun _ _ _ h=>h) (Or.inr ⟨by rfl,rfl⟩) ?_ ?_
            rotate_left
            · simp only [Act.put,zS,zT,zU,i64_w,i32_w]
              rfl
            refine pure_ (i:=21) (N:=some 140) (v:=undef) (a':=?_) (b_ 22 11) rfl rfl (anO HT_.out (by kernel_rfl)) (fun _ _ _ h=>h) (Or.inr ⟨by rfl,rfl⟩) ?_ ?_
            rotate_left
            · simp only [Act.put,zS,zT,zU,i64_w,i32_w]
              rfl
            refine pure_ (i:=22) (N:=some 141) (v:=undef) (a':=?_) (b_ 23 10) rfl rfl (anO HT_.out (by kernel_rfl)) (fun _ _ _ h=>h) (Or.inr ⟨by rfl,rfl⟩) ?_ ?_
            rotate_left
            · simp only [Act.put,zS,zT,zU,i64_w,i32_w]
              rfl
            refine pure_ (i:=23) (N:=some 142) (v:=undef) (a':=?_) (b_ 24 9) rfl rfl (anO HT_.out (by kernel_rfl)) (fun _ _ _ h=>h) (Or.inr ⟨by rfl,rfl⟩) ?_ ?_
            rotate_left
            · simp only [Act.put,zS,zT,zU,i64_w,i32_w]
              rfl
            refine pure_ (i:=24) (N:=some 143) (v:=undef) (a':=?_) (b_ 25 8) rfl rfl (anO HT_.out (by kernel_rfl)) (fun _ _ _ h=>h) (Or.inr ⟨by rfl,rfl⟩) ?_ ?_
            rotate_left
            · simp only [Act.put,zS,zT,zU,i64_w,i32_w]
              rfl
            refine pure_ (i:=25) (N:=some 144) (v:=undef) (a':=?_) (b_ 26 7) rfl rfl (anO HT_.out (by kernel_rfl)) (fun _ _ _ h=>h) (Or.inr ⟨by rfl,rfl⟩) ?_ ?_
            rotate_left
            · simp only [Act.put,zS,zT,zU,i64_w,i32_w]
              rfl
            refine pure_ (i:=26) (N:=some 145) (v:=undef) (a':=?_) (b_ 27 6) rfl rfl (anO HT_.out (by kernel_rfl)) (fun _ _ _ h=>h) (Or.inr ⟨by rfl,rfl⟩) ?_ ?_
            rotate_left
            · simp only [Act.put,zS,zT,zU,i64_w,i32_w]
              rfl
            refine pure_ (i:=27) (N:=some 146) (v:=undef) (a':=?_) (b_ 28 5) rfl rfl (anO HT_.out (by kernel_rfl)) (fun _ _ _ h=>h) (Or.inr ⟨by rfl,rfl⟩) ?_ ?_
            rotate_left
            · simp only [Act.put,zS,zT,zU,i64_w,i32_w]
              rfl
            refine pure_ (i:=28) (N:=some 147) (v:=undef) (a':=?_) (b_ 29 4) rfl rfl (anO HT_.out (by kernel_rfl)) (fun _ _ _ h=>h) (Or.inr ⟨by rfl,rfl⟩) ?_ ?_
            rotate_left
            · simp only [Act.put,zS,zT,zU,i64_w,i32_w]
              rfl
            refine pure_ (i:=29) (N:=some 148) (v:=undef) (a':=?_) (b_ 30 3) rfl rfl (anO HT_.out (by kernel_rfl)) (fun _ _ _ h=>h) (Or.inr ⟨by rfl,rfl⟩) ?_ ?_
            rotate_left
            · simp only [Act.put,zS,zT,zU,i64_w,i32_w]
              rfl
            refine pure_ (i:=30) (N:=some 149) (v:=undef) (a':=?_) (b_ 31 2) rfl rfl (anO HT_.out (by kernel_rfl)) (fun _ _ _ h=>h) (Or.inr ⟨by rfl,rfl⟩) ?_ ?_
            rotate_left
            · simp only [Act.put,zS,zT,zU,i64_w,i32_w]
              rfl
            refine pure_ (i:=31) (N:=some 150) (v:=undef) (a':=?_) (b_ 32 1) rfl rfl (anO HT_.out (by kernel_rfl)) (fun _ _ _ h=>h) (Or.inr ⟨by rfl,rfl⟩) ?_ ?_
            rotate_left
            · simp only [Act.put,zS,zT,zU,i64_w,i32_w]
              rfl
            refine pure_ (i:=32) (N:=some 151) (v:=?_) (a':=?_) (b_ 33 0) rfl rfl (anO HT_.out (by kernel_rfl)) (fun _ _ _ h=>h) (Or.inl ⟨by rfl,?_⟩) ?_ ?_
            rotate_left
            · intro w'
              go_simp
              with_reducible rfl
            rotate_left
            · simp only [Act.put,zS,zT,zU,i64_w,i32_w]
              rfl
            refine dn_ (dnO HT_.out (by kernel_rfl)) ?_
            try go_wp2
            go_meet
            case rel=>exact ⟨_,(true),(by first|rfl|(simp;done)|(simp [*];done)),H',⟨by have:=HJ1.out;have:=HK2.out;have:=HK3.out;have:=HK4.out;first|omega|exact Nat.le_refl _⟩,⟨by (with_reducible repeat (first|apply Kd.R_alloc|apply Kd.R_drewN|apply Kd.R_drew));exact HO_93.out⟩,⟨by (with_reducible repeat (first|refine kdN ?_ _|refine kd ?_|refine ka ?_ _));exact BK201.out⟩,⟨by repeat (first|(with_reducible first|exact HB.out|apply bwa|apply pbN|apply bw1|refine bws ?_ GE201.out)|exact HB.out)⟩⟩
          rw [if_neg c91] at H
          have c91b0:decide ((((rd_T77 l0_1 t226).f1).length:Int)≤x95_3)=false:=decide_eq_false c91
          clear c91
          by_cases c93:x12_4 ≥ 0
          rotate_left
          · rw [if_neg c93] at H
            have c93b0:decide (0≤x12_4)=false:=decide_eq_false c93
            clear c93
            have H':=AsZ.mk H
            clear H
            try go_wp2
            have n0_:=AsZ.mk (Kd.R_drew HO_93.out)
            have n1_:=AsZ.mk (kd BK201.out)
            have n2_:=AsZ.mk (bw1 HB.out)
            clear HO_93 BK201 HB
            have HO_93:=n0_
            have BK201:=n1_
            have HB:=n2_
            clear n0_ n1_ n2_
            have p227:0≤(t226:Int):=zD (by first|(with_reducible assumption)|assumption)
            have q227:t226 < (l0_1.length:Int):=zD (by first|(with_reducible assumption)|assumption)
            obtain ⟨ad227,A227_4,c227_4,e227,hx227_0,hx227_1,hx227_2,hx227_3,hx227_4,hl227_4,hi227_4⟩:=at_T77 HR0_1.out t226 p227 q227
            have hw227_4:=hx227_4
            have hw227_3:=hx227_3
            have hw227_2:=hx227_2
            have hw227_1:=hx227_1
            have hw227_0:=hx227_0
            cases e227
            replace hx227_0:=(HB.out.cell (zB w _ hx227_0)).trans hx227_0
            replace hx227_1:=(HB.out.cell (zB w _ hx227_1)).trans hx227_1
            replace hx227_2:=(HB.out.cell (zB w _ hx227_2)).trans hx227_2
            replace hx227_3:=(HB.out.cell (zB w _ hx227_3)).trans hx227_3
            replace hx227_4:=(HB.out.cell (zB w _ hx227_4)).trans hx227_4
            have HR227_4:=AsZ.mk hi227_4
            have HC227_4:=AsZ.mk hl227_4
            clear hi227_4 hl227_4
            replace p227:=eq_true p227
            replace q227:=eq_true q227
            refine start_ (n:=33) (S:=fun w'=>w'.cell? ⟨gb201,0,none⟩=some (.slice (some ad224) l0_0.length c0_0)∧w'.cell? ⟨gb201,1,none⟩=some (.slice (some ad227) l0_1.length c0_1)∧w'.cell? (ad227.add ((t226).toNat * 5))=some (.string ((rd_T77 l0_1 t226).f0.f0))∧w'.cell? ⟨(ad227.add ((t226).toNat * 5)).block,(ad227.add ((t226).toNat * 5)).off + 1,none⟩=some (.int .i64 ((rd_T77 l0_1 t226).f0.f1))∧w'.cell? ⟨(ad227.add ((t226).toNat * 5)).block,(ad227.add ((t226).toNat * 5)).off + 2,none⟩=some (.int .i64 ((rd_T77 l0_1 t226).f0.f2))∧w'.cell? ⟨(ad227.add ((t226).toNat * 5)).block,(ad227.add ((t226).toNat * 5)).off + 3,none⟩=some (.string ((rd_T77 l0_1 t226).f0.f3))∧w'.cell? ⟨(ad227.add ((t226).toNat * 5)).block,(ad227.add ((t226).toNat * 5)).off + 4,none⟩=some (.slice A227_4 ((rd_T77 l0_1 t226).f1).length c227_4)) (ds:=[]) (b_ 0 33) (by kernel_rfl) rfl rfl ⟨(kc BK201.out 0).trans rfl,(kc BK201.out 1).trans rfl,((HB.out.cell (zB w _ hw227_0)).trans hw227_0),((HB.out.cell (zB w _ hw227_1)).trans hw227_1),((HB.out.cell (zB w _ hw227_2)).trans hw227_2),((HB.out.cell (zB w _ hw227_3)).trans hw227_3),((HB.out.cell (zB w _ hw227_4)).trans hw227_4)⟩ (fun hHeld=>?_);refine with_tabW spec_GoodSkip.tab33 spec_GoodSkip.bits33 (fun HT_ HW_=>?_)
            generalize w86.drew=w99 at HO_93 BK201 HB HR227_4 hx227_0 hx227_1 hx227_2 hx227_3 hx227_4 hHeld ⊢
            refine pure_ (i:=0) (N:=some 119) (v:=?_) (a':=?_) (b_ 1 32) rfl rfl (anO HT_.out (by kernel_rfl)) (fun _ _ _ h=>h) (Or.inl ⟨by rfl,?_⟩) ?_ ?_
            rotate_left
            · intro w'
              go_simp
              with_reducible rfl
            rotate_left
            · simp only [Act.put,zS,zT,zU,i64_w,i32_w]
              rfl
            refine pure_ (i:=1) (N:=some 120) (v:=?_) (a':=?_) (b_ 2 31) rfl rfl (anO HT_.out (by kernel_rfl)) (fun _ _ _ h=>h) (Or.inl ⟨by rfl,?_⟩) ?_ ?_
            rotate_left
            · intro w'
              go_simp
              with_reducible rfl
            rotate_left
            · simp only [Act.put,zS,zT,zU,i64_w,i32_w]
              rfl
            refine pure_ (i:=2) (N:=some 121) (v:=?_) (a':=?_) (b_ 3 30) rfl rfl (anO HT_.out (by kernel_rfl)) (fun _ _ _ h=>h) (Or.inl ⟨by rfl,?_⟩) ?_ ?_
            rotate_left
            · intro w'
              go_simp
              with_reducible rfl
            rotate_left
            · simp only [Act.put,zS,zT,zU,i64_w,i32_w]
              rfl
            refine pure_ (i:=3) (N:=some 122) (v:=?_) (a':=?_) (b_ 4 29) rfl rfl (anO HT_.out (by kernel_rfl)) (fun _ _ _ h=>h) (Or.inl ⟨by rfl,?_⟩) ?_ ?_
            rotate_left
            · intro w'
              go_simp
              with_reducible rfl
            rotate_left
            · simp only [Act.put,zS,zT,zU,i64_w,i32_w]
              rfl
            refine pure_ (i:=5) (N:=some 124) (v:=?_) (a':=?_) #[true,true,true,true,false,true,false,false,false,false,false,false,false,false,false,false,false,false,false,false,false,false,false,false,false,false,false,false,false,false,false,false,false] rfl rfl (anO HT_.out (by kernel_rfl)) (fun _ _ _ h=>h) (Or.inl ⟨by rfl,?_⟩) ?_ ?_
            rotate_left
            · intro w'
              go_simp
              with_reducible rfl
            rotate_left
            · simp only [Act.put,zS,zT,zU,i64_w,i32_w]
              rfl
            refine pure_ (i:=10) (N:=some 129) (v:=?_) (a':=?_) #[true,true,true,true,false,true,false,false,false,false,true,false,false,false,false,false,false,false,false,false,false,false,false,false,false,false,false,false,false,false,false,false,false] rfl rfl (anO HT_.out (by kernel_rfl)) (fun _ _ _ h=>h) (Or.inl ⟨by rfl,?_⟩) ?_ ?_
            rotate_left
            · intro w'
              go_simp
              with_reducible rfl
            rotate_left
            · simp only [Act.put,zS,zT,zU,i64_w,i32_w]
              rfl
            refine take_ (i:=4) (N:=some 123) (v:=?_) (a':=?_) #[true,true,true,true,true,true,false,false,false,false,true,false,false,false,false,false,false,false,false,false,false,false,false,false,false,false,false,false,false,false,false,false,false] rfl rfl (tkO HT_.out HW_.out (by kernel_rfl)) (fun _ _ _ h=>h) (Or.inl ⟨by rfl,?_⟩) hHeld ?_ ?_
            rotate_left
            · rintro w' ⟨s0,s1,s2,s3,s4,s5,s6⟩
              go_simp
              with_reducible rfl
            rotate_left
            · simp only [Act.put,zS,zT,zU,i64_w,i32_w]
              rfl
            refine pure_ (i:=6) (N:=some 125) (v:=?_) (a':=?_) #[true,true,true,true,true,true,true,false,false,false,true,false,false,false,false,false,false,false,false,false,false,false,false,false,false,false,false,false,false,false,false,false,false] rfl rfl (anO HT_.out (by kernel_rfl)) (fun _ _ _ h=>h) (Or.inl ⟨by rfl,?_⟩) ?_ ?_
            rotate_left
            · intro w'
              go_simp
              with_reducible rfl
            rotate_left
            · simp only [Act.put,zS,zT,zU,i64_w,i32_w]
              rfl
            refine pure_ (i:=7) (N:=some 126) (v:=?_) (a':=?_) #[true,true,true,true,true,true,true,true,false,false,true,false,false,false,false,false,false,false,false,false,false,false,false,false,false,false,false,false,false,false,false,false,false] rfl rfl (anO HT_.out (by kernel_rfl)) (fun _ _ _ h=>h) (Or.inl ⟨by rfl,?_⟩) ?_ ?_
            rotate_left
            · intro w'
              go_simp
              with_reducible rfl
            rotate_left
            · simp only [Act.put,zS,zT,zU,i64_w,i32_w]
              rfl
            refine take_ (i:=8) (N:=some 127) (v:=?_) (a':=?_) #[true,true,true,true,true,true,true,true,true,false,true,false,false,false,false,false,false,false,false,false,false,false,false,false,false,false,false,false,false,false,false,false,false] rfl rfl (tkO HT_.out HW_.out (by kernel_rfl)) (fun _ _ _ h=>h) (Or.inl ⟨by rfl,?_⟩) hHeld ?_ ?_
            rotate_left
            · rintro w' ⟨s0,s1,s2,s3,s4,s5,s6⟩
              go_simp
              with_reducible rfl
            rotate_left
            · simp only [Act.put,zS,zT,zU,i64_w,i32_w]
              rfl
            refine pure_ (i:=9) (N:=some 128) (v:=?_) (a':=?_) (b_ 11 22) rfl rfl (anO HT_.out (by kernel_rfl)) (fun _ _ _ h=>h) (Or.inl ⟨by rfl,?_⟩) ?_ ?_
            rotate_left
            · intro w'
              go_simp
              with_reducible rfl
            rotate_left
            · simp only [Act.put,zS,zT,zU,i64_w,i32_w]
              rfl
            refine pure_ (i:=11) (N:=some 130) (v:=?_) (a':=?_) (b_ 12 21) rfl rfl (anO HT_.out (by kernel_rfl)) (fun _ _ _ h=>h) (Or.inl ⟨by rfl,?_⟩) ?_ ?_
            rotate_left
            · intro w'
              go_simp
              with_reducible rfl
            rotate_left
            · simp only [Act.put,zS,zT,zU,i64_w,i32_w]
              rfl
            refine pure_ (i:=12) (N:=some 131) (v:=?_) (a':=?_) (b_ 13 20) rfl rfl (anO HT_.out (by kernel_rfl)) (fun _ _ _ h=>h) (Or.inl ⟨by rfl,?_⟩) ?_ ?_
            rotate_left
            · intro w'
              go_simp
              with_reducible rfl
            rotate_left
            · simp only [Act.put,zS,zT,zU,i64_w,i32_w]
              rfl
            refine pure_ (i:=13) (N:=some 132) (v:=?_) (a':=?_) (b_ 14 19) rfl rfl (anO HT_.out (by kernel_rfl)) (fun _ _ _ h=>h) (Or.inl ⟨by rfl,?_⟩) ?_ ?_
            rotate_left
            · intro w'
              go_simp
              with_reducible rfl
            rotate_left
            · simp only [Act.put,zS,zT,zU,i64_w,i32_w]
              rfl
            refine pure_ (i:=14) (N:=some 133) (v:=?_) (a':=?_) (b_ 15 18) rfl rfl (anO HT_.out (by kernel_rfl)) (fun _ _ _ h=>h) (Or.inl ⟨by rfl,?_⟩) ?_ ?_
            rotate_left
            · intro w'
              go_simp
              with_reducible rfl
            rotate_left
            · simp only [Act.put,zS,zT,zU,i64_w,i32_w]
              rfl
            refine pure_ (i:=15) (N:=some 134) (v:=?_) (a':=?_) (b_ 16 17) rfl rfl (anO HT_.out (by kernel_rfl)) (fun _ _ _ h=>h) (Or.inl ⟨by rfl,?_⟩) ?_ ?_
            rotate_left
            · intro w'
              go_simp
              with_reducible rfl
            rotate_left
            · simp only [Act.put,zS,zT,zU,i64_w,i32_w]
              rfl
            refine pure_ (i:=16) (N:=some 135) (v:=?_) (a':=?_) (b_ 17 16) rfl rfl (anO HT_.out (by kernel_rfl)) (fun _ _ _ h=>h) (Or.inl ⟨by rfl,?_⟩) ?_ ?_
            rotate_left
            · intro w'
              go_simp
              with_reducible rfl
            rotate_left
            · simp only [Act.put,zS,zT,zU,i64_w,i32_w]
              rfl
            refine pure_ (i:=17) (N:=some 136) (v:=undef) (a':=?_) (b_ 18 15) rfl rfl (anO HT_.out (by kernel_rfl)) (fun _ _ _ h=>h) (Or.inr ⟨by rfl,rfl⟩) ?_ ?_
            rotate_left
            · simp only [Act.put,zS,zT,zU,i64_w,i32_w]
              rfl
            refine pure_ (i:=18) (N:=some 137) (v:=undef) (a':=?_) (b_ 19 14) rfl rfl (anO HT_.out (by kernel_rfl)) (fun _ _ _ h=>h) (Or.inr ⟨by rfl,rfl⟩) ?_ ?_
            rotate_left
            · simp only [Act.put,zS,zT,zU,i64_w,i32_w]
              rfl
            refine pure_ (i:=19) (N:=some 138) (v:=undef) (a':=?_) (b_ 20 13) rfl rfl (anO HT_.out (by kernel_rfl)) (fun _ _ _ h=>h) (Or.inr ⟨by rfl,rfl⟩) ?_ ?_
            rotate_left
            · simp only [Act.put,zS,zT,zU,i64_w,i32_w]
              rfl
            refine pure_ (i:=20) (N:=some 139) (v:=undef) (a':=?_) (b_ 21 12) rfl rfl (anO HT_.out (by kernel_rfl)) (fun _ _ _ h=>h) (Or.inr ⟨by rfl,rfl⟩) ?_ ?_
            rotate_left
            · simp only [Act.put,zS,zT,zU,i64_w,i32_w]
              rfl
            refine pure_ (i:=21) (N:=some 140) (v:=undef) (a':=?_) (b_ 22 11) rfl rfl (anO HT_.out (by kernel_rfl)) (fun _ _ _ h=>h) (Or.inr ⟨by rfl,rfl⟩) ?_ ?_
            rotate_left
            · simp only [Act.put,zS,zT,zU,i64_w,i32_w]
              rfl
            refine pure_ (i:=22) (N:=some 141) (v:=undef) (a':=?_) (b_ 23 10) rfl rfl (anO HT_.out (by kernel_rfl)) (fun _ _ _ h=>h) (Or.inr ⟨by rfl,rfl⟩) ?_ ?_
            rotate_left
            · simp only [Act.put,zS,zT,zU,i64_w,i32_w]
              rfl
            refine pure_ (i:=23) (N:=some 142) (v:=undef) (a':=?_) (b_ 24 9) rfl rfl (anO HT_.out (by kernel_rfl)) (fun _ _ _ h=>h) (Or.inr ⟨by rfl,rfl⟩) ?_ ?_
            rotate_left
            · simp only [Act.put,zS,zT,zU,i64_w,i32_w]
              rfl
            refine pure_ (i:=24) (N:=some 143) (v:=undef) (a':=?_) (b_ 25 8) rfl rfl (anO HT_.out (by kernel_rfl)) (fun _ _ _ h=>h) (Or.inr ⟨by rfl,rfl⟩) ?_ ?_
            rotate_left
            · simp only [Act.put,zS,zT,zU,i64_w,i32_w]
              rfl
            refine pure_ (i:=25) (N:=some 144) (v:=undef) (a':=?_) (b_ 26 7) rfl rfl (anO HT_.out (by kernel_rfl)) (fun _ _ _ h=>h) (Or.inr ⟨by rfl,rfl⟩) ?_ ?_
            rotate_left
            · simp only [Act.put,zS,zT,zU,i64_w,i32_w]
              rfl
            refine pure_ (i:=26) (N:=some 145) (v:=undef) (a':=?_) (b_ 27 6) rfl rfl (anO HT_.out (by kernel_rfl)) (fun _ _ _ h=>h) (Or.inr ⟨by rfl,rfl⟩) ?_ ?_
            rotate_left
            · simp only [Act.put,zS,zT,zU,i64_w,i32_w]
              rfl
            refine pure_ (i:=27) (N:=some 146) (v:=undef) (a':=?_) (b_ 28 5) rfl rfl (anO HT_.out (by kernel_rfl)) (fun _ _ _ h=>h) (Or.inr ⟨by rfl,rfl⟩) ?_ ?_
            rotate_left
            · simp only [Act.put,zS,zT,zU,i64_w,i32_w]
              rfl
            refine pure_ (i:=28) (N:=some 147) (v:=undef) (a':=?_) (b_ 29 4) rfl rfl (anO HT_.out (by kernel_rfl)) (fun _ _ _ h=>h) (Or.inr ⟨by rfl,rfl⟩) ?_ ?_
            rotate_left
            · simp only [Act.put,zS,zT,zU,i64_w,i32_w]
              rfl
            refine pure_ (i:=29) (N:=some 148) (v:=undef) (a':=?_) (b_ 30 3) rfl rfl (anO HT_.out (by kernel_rfl)) (fun _ _ _ h=>h) (Or.inr ⟨by rfl,rfl⟩) ?_ ?_
            rotate_left
            · simp only [Act.put,zS,zT,zU,i64_w,i32_w]
              rfl
            refine pure_ (i:=30) (N:=some 149) (v:=undef) (a':=?_) (b_ 31 2) rfl rfl (anO HT_.out (by kernel_rfl)) (fun _ _ _ h=>h) (Or.inr ⟨by rfl,rfl⟩) ?_ ?_
            rotate_left
            · simp only [Act.put,zS,zT,zU,i64_w,i32_w]
              rfl
            refine pure_ (i:=31) (N:=some 150) (v:=?_) (a':=?_) (b_ 32 1) rfl rfl (anO HT_.out (by kernel_rfl)) (fun _ _ _ h=>h) (Or.inl ⟨by rfl,?_⟩) ?_ ?_
            rotate_left
            · intro w'
              go_simp
              with_reducible rfl
            rotate_left
            · simp only [Act.put,zS,zT,zU,i64_w,i32_w]
              rfl
            refine pure_ (i:=32) (N:=some 151) (v:=?_) (a':=?_) (b_ 33 0) rfl rfl (anO HT_.out (by kernel_rfl)) (fun _ _ _ h=>h) (Or.inl ⟨by rfl,?_⟩) ?_ ?_
            rotate_left
            · intro w'
              go_simp
              with_reducible rfl
            rotate_left
            · simp only [Act.put,zS,zT,zU,i64_w,i32_w]
              rfl
            refine dn_ (dnO HT_.out (by kernel_rfl)) ?_
            try go_wp2
            go_meet
            case rel=>exact ⟨_,(false),(by first|rfl|(simp;done)|(simp [*];done)),H',⟨by have:=HJ1.out;have:=HK2.out;have:=HK3.out;have:=HK4.out;first|omega|exact Nat.le_refl _⟩,⟨by (with_reducible repeat (first|apply Kd.R_alloc|apply Kd.R_drewN|apply Kd.R_drew));exact HO_93.out⟩,⟨by (with_reducible repeat (first|refine kdN ?_ _|refine kd ?_|refine ka ?_ _));exact BK201.out⟩,⟨by repeat (first|(with_reducible first|exact HB.out|apply bwa|apply pbN|apply bw1|refine bws ?_ GE201.out)|exact HB.out)⟩⟩
          rw [if_pos c93] at H
          have c93b0:decide (0≤x12_4)=true:=zE c93
          clear c93
          by_cases c94:0≤x12_4
          rotate_left
          · rw [if_neg c94] at H
            exact absurd H (by simp)
          rw [if_pos c94] at H
          have c94b0:decide (0≤x12_4)=true:=zE c94
          clear c94
          by_cases c95:x12_4 < (l0_1.length:Int)
          rotate_left
          · rw [if_neg c95] at H
            exact absurd H (by simp)
          rw [if_pos c95] at H
          have c95b0:decide (x12_4 < (l0_1.length:Int))=true:=zE c95
          clear c95
          replace H:=Option.bind_eq_some_iff.mp H
          obtain ⟨t230,A960,H⟩:=H
          replace H:(spec_GoodSkip.j7 k4 x95_3 x11_4 t226 x4_2 (x4_2.length:Int) x95_3 (decide (t230 ≥ 0)) l0_0 l0_1)=some r:=H
          have A96:=AsZ.mk A960
          clear A960
          have H':=AsZ.mk H
          clear H
          try go_wp2
          have n0_:=AsZ.mk (Kd.R_drew HO_93.out)
          have n1_:=AsZ.mk (kd BK201.out)
          have n2_:=AsZ.mk (bw1 HB.out)
          clear HO_93 BK201 HB
          have HO_93:=n0_
          have BK201:=n1_
          have HB:=n2_
          clear n0_ n1_ n2_
          have p227:0≤(t226:Int):=zD (by first|(with_reducible assumption)|assumption)
          have q227:t226 < (l0_1.length:Int):=zD (by first|(with_reducible assumption)|assumption)
          obtain ⟨ad227,A227_4,c227_4,e227,hx227_0,hx227_1,hx227_2,hx227_3,hx227_4,hl227_4,hi227_4⟩:=at_T77 HR0_1.out t226 p227 q227
          have hw227_4:=hx227_4
          have hw227_3:=hx227_3
          have hw227_2:=hx227_2
          have hw227_1:=hx227_1
          have hw227_0:=hx227_0
          cases e227
          replace hx227_0:=(HB.out.cell (zB w _ hx227_0)).trans hx227_0
          replace hx227_1:=(HB.out.cell (zB w _ hx227_1)).trans hx227_1
          replace hx227_2:=(HB.out.cell (zB w _ hx227_2)).trans hx227_2
          replace hx227_3:=(HB.out.cell (zB w _ hx227_3)).trans hx227_3
          replace hx227_4:=(HB.out.cell (zB w _ hx227_4)).trans hx227_4
          have HR227_4:=AsZ.mk hi227_4
          have HC227_4:=AsZ.mk hl227_4
          clear hi227_4 hl227_4
          replace p227:=eq_true p227
          replace q227:=eq_true q227
          have p228:0≤(x12_4:Int):=zD (by first|(with_reducible assumption)|assumption)
          have q228:x12_4 < (l0_1.length:Int):=zD (by first|(with_reducible assumption)|assumption)
          obtain ⟨ad228,A228_4,c228_4,e228,hx228_0,hx228_1,hx228_2,hx228_3,hx228_4,hl228_4,hi228_4⟩:=at_T77 HR0_1.out x12_4 p228 q228
          have hw228_4:=hx228_4
          have hw228_3:=hx228_3
          have hw228_2:=hx228_2
          have hw228_1:=hx228_1
          have hw228_0:=hx228_0
          obtain rfl:ad227=ad228:=(by injection e228)
          replace hx228_0:=(HB.out.cell (zB w _ hx228_0)).trans hx228_0
          replace hx228_1:=(HB.out.cell (zB w _ hx228_1)).trans hx228_1
          replace hx228_2:=(HB.out.cell (zB w _ hx228_2)).trans hx228_2
          replace hx228_3:=(HB.out.cell (zB w _ hx228_3)).trans hx228_3
          replace hx228_4:=(HB.out.cell (zB w _ hx228_4)).trans hx228_4
          have HR228_4:=AsZ.mk hi228_4
          have HC228_4:=AsZ.mk hl228_4
          clear hi228_4 hl228_4
          replace p228:=eq_true p228
          replace q228:=eq_true q228
          have p229:0≤(t226:Int):=zD (by first|(with_reducible assumption)|assumption)
          have q229:t226 < (l0_1.length:Int):=zD (by first|(with_reducible assumption)|assumption)
          obtain ⟨ad229,A229_4,c229_4,e229,hx229_0,hx229_1,hx229_2,hx229_3,hx229_4,hl229_4,hi229_4⟩:=at_T77 HR0_1.out t226 p229 q229
          have hw229_4:=hx229_4
          have hw229_3:=hx229_3
          have hw229_2:=hx229_2
          have hw229_1:=hx229_1
          have hw229_0:=hx229_0
          obtain rfl:ad227=ad229:=(by injection e229)
          replace hx229_0:=(HB.out.cell (zB w _ hx229_0)).trans hx229_0
          replace hx229_1:=(HB.out.cell (zB w _ hx229_1)).trans hx229_1
          replace hx229_2:=(HB.out.cell (zB w _ hx229_2)).trans hx229_2
          replace hx229_3:=(HB.out.cell (zB w _ hx229_3)).trans hx229_3
          replace hx229_4:=(HB.out.cell (zB w _ hx229_4)).trans hx229_4
          have HR229_4:=AsZ.mk hi229_4
          have HC229_4:=AsZ.mk hl229_4
          clear hi229_4 hl229_4
          replace p229:=eq_true p229
          replace q229:=eq_true q229
          have ea_:=zI (hx227_4.symm.trans hx229_4)
          injection ea_ with ea_ en_ ec_
          subst ea_
          subst ec_
          clear en_
          refine start_ (n:=33) (S:=fun w'=>w'.cell? ⟨gb201,0,none⟩=some (.slice (some ad224) l0_0.length c0_0)∧w'.cell? ⟨gb201,1,none⟩=some (.slice (some ad227) l0_1.length c0_1)∧w'.cell? (ad227.add ((t226).toNat * 5))=some (.string ((rd_T77 l0_1 t226).f0.f0))∧w'.cell? ⟨(ad227.add ((t226).toNat * 5)).block,(ad227.add ((t226).toNat * 5)).off + 1,none⟩=some (.int .i64 ((rd_T77 l0_1 t226).f0.f1))∧w'.cell? ⟨(ad227.add ((t226).toNat * 5)).block,(ad227.add ((t226).toNat * 5)).off + 2,none⟩=some (.int .i64 ((rd_T77 l0_1 t226).f0.f2))∧w'.cell? ⟨(ad227.add ((t226).toNat * 5)).block,(ad227.add ((t226).toNat * 5)).off + 3,none⟩=some (.string ((rd_T77 l0_1 t226).f0.f3))∧w'.cell? ⟨(ad227.add ((t226).toNat * 5)).block,(ad227.add ((t226).toNat * 5)).off + 4,none⟩=some (.slice A227_4 ((rd_T77 l0_1 t226).f1).length c227_4)∧w'.cell? (ad227.add ((x12_4).toNat * 5))=some (.string ((rd_T77 l0_1 x12_4).f0.f0))∧w'.cell? ⟨(ad227.add ((x12_4).toNat * 5)).block,(ad227.add ((x12_4).toNat * 5)).off + 1,none⟩=some (.int .i64 ((rd_T77 l0_1 x12_4).f0.f1))∧w'.cell? ⟨(ad227.add ((x12_4).toNat * 5)).block,(ad227.add ((x12_4).toNat * 5)).off + 2,none⟩=some (.int .i64 ((rd_T77 l0_1 x12_4).f0.f2))∧w'.cell? ⟨(ad227.add ((x12_4).toNat * 5)).block,(ad227.add ((x12_4).toNat * 5)).off + 3,none⟩=some (.string ((rd_T77 l0_1 x12_4).f0.f3))∧w'.cell? ⟨(ad227.add ((x12_4).toNat * 5)).block,(ad227.add ((x12_4).toNat * 5)).off + 4,none⟩=some (.slice A228_4 ((rd_T77 l0_1 x12_4).f1).length c228_4)∧w'.cell? (ad227.add ((t226).toNat * 5))=some (.string ((rd_T77 l0_1 t226).f0.f0))∧w'.cell? ⟨(ad227.add ((t226).toNat * 5)).block,(ad227.add ((t226).toNat * 5)).off + 1,none⟩=some (.int .i64 ((rd_T77 l0_1 t226).f0.f1))∧w'.cell? ⟨(ad227.add ((t226).toNat * 5)).block,(ad227.add ((t226).toNat * 5)).off + 2,none⟩=some (.int .i64 ((rd_T77 l0_1 t226).f0.f2))∧w'.cell? ⟨(ad227.add ((t226).toNat * 5)).block,(ad227.add ((t226).toNat * 5)).off + 3,none⟩=some (.string ((rd_T77 l0_1 t226).f0.f3))∧w'.cell? ⟨(ad227.add ((t226).toNat * 5)).block,(ad227.add ((t226).toNat * 5)).off + 4,none⟩=some (.slice A227_4 ((rd_T77 l0_1 t226).f1).length c227_4)) (ds:=[]) (b_ 0 33) (by kernel_rfl) rfl rfl ⟨(kc BK201.out 0).trans rfl,(kc BK201.out 1).trans rfl,((HB.out.cell (zB w _ hw227_0)).trans hw227_0),((HB.out.cell (zB w _ hw227_1)).trans hw227_1),((HB.out.cell (zB w _ hw227_2)).trans hw227_2),((HB.out.cell (zB w _ hw227_3)).trans hw227_3),((HB.out.cell (zB w _ hw227_4)).trans hw227_4),((HB.out.cell (zB w _ hw228_0)).trans hw228_0),((HB.out.cell (zB w _ hw228_1)).trans hw228_1),((HB.out.cell (zB w _ hw228_2)).trans hw228_2),((HB.out.cell (zB w _ hw228_3)).trans hw228_3),((HB.out.cell (zB w _ hw228_4)).trans hw228_4),((HB.out.cell (zB w _ hw229_0)).trans hw229_0),((HB.out.cell (zB w _ hw229_1)).trans hw229_1),((HB.out.cell (zB w _ hw229_2)).trans hw229_2),((HB.out.cell (zB w _ hw229_3)).trans hw229_3),((HB.out.cell (zB w _ hw229_4)).trans hw229_4)⟩ (fun hHeld=>?_);refine with_tabW spec_GoodSkip.tab33 spec_GoodSkip.bits33 (fun HT_ HW_=>?_)
          generalize w86.drew=w97 at HO_93 BK201 HB HR227_4 HR228_4 HR229_4 hx227_0 hx227_1 hx227_2 hx227_3 hx227_4 hx228_0 hx228_1 hx228_2 hx228_3 hx228_4 hx229_0 hx229_1 hx229_2 hx229_3 hx229_4 hHeld ⊢
          refine pure_ (i:=0) (N:=some 119) (v:=?_) (a':=?_) (b_ 1 32) rfl rfl (anO HT_.out (by kernel_rfl)) (fun _ _ _ h=>h) (Or.inl ⟨by rfl,?_⟩) ?_ ?_
          rotate_left
          · intro w'
            go_simp
            with_reducible rfl
          rotate_left
          · simp only [Act.put,zS,zT,zU,i64_w,i32_w]
            rfl
          refine pure_ (i:=1) (N:=some 120) (v:=?_) (a':=?_) (b_ 2 31) rfl rfl (anO HT_.out (by kernel_rfl)) (fun _ _ _ h=>h) (Or.inl ⟨by rfl,?_⟩) ?_ ?_
          rotate_left
          · intro w'
            go_simp
            with_reducible rfl
          rotate_left
          · simp only [Act.put,zS,zT,zU,i64_w,i32_w]
            rfl
          refine pure_ (i:=2) (N:=some 121) (v:=?_) (a':=?_) (b_ 3 30) rfl rfl (anO HT_.out (by kernel_rfl)) (fun _ _ _ h=>h) (Or.inl ⟨by rfl,?_⟩) ?_ ?_
          rotate_left
          · intro w'
            go_simp
            with_reducible rfl
          rotate_left
          · simp only [Act.put,zS,zT,zU,i64_w,i32_w]
            rfl
          refine pure_ (i:=3) (N:=some 122) (v:=?_) (a':=?_) (b_ 4 29) rfl rfl (anO HT_.out (by kernel_rfl)) (fun _ _ _ h=>h) (Or.inl ⟨by rfl,?_⟩) ?_ ?_
          rotate_left
          · intro w'
            go_simp
            with_reducible rfl
          rotate_left
          · simp only [Act.put,zS,zT,zU,i64_w,i32_w]
            rfl
          refine pure_ (i:=5) (N:=some 124) (v:=?_) (a':=?_) #[true,true,true,true,false,true,false,false,false,false,false,false,false,false,false,false,false,false,false,false,false,false,false,false,false,false,false,false,false,false,false,false,false] rfl rfl (anO HT_.out (by kernel_rfl)) (fun _ _ _ h=>h) (Or.inl ⟨by rfl,?_⟩) ?_ ?_
          rotate_left
          · intro w'
            go_simp
            with_reducible rfl
          rotate_left
          · simp only [Act.put,zS,zT,zU,i64_w,i32_w]
            rfl
          refine pure_ (i:=10) (N:=some 129) (v:=?_) (a':=?_) #[true,true,true,true,false,true,false,false,false,false,true,false,false,false,false,false,false,false,false,false,false,false,false,false,false,false,false,false,false,false,false,false,false] rfl rfl (anO HT_.out (by kernel_rfl)) (fun _ _ _ h=>h) (Or.inl ⟨by rfl,?_⟩) ?_ ?_
          rotate_left
          · intro w'
            go_simp
            with_reducible rfl
          rotate_left
          · simp only [Act.put,zS,zT,zU,i64_w,i32_w]
            rfl
          refine take_ (i:=4) (N:=some 123) (v:=?_) (a':=?_) #[true,true,true,true,true,true,false,false,false,false,true,false,false,false,false,false,false,false,false,false,false,false,false,false,false,false,false,false,false,false,false,false,false] rfl rfl (tkO HT_.out HW_.out (by kernel_rfl)) (fun _ _ _ h=>h) (Or.inl ⟨by rfl,?_⟩) hHeld ?_ ?_
          rotate_left
          · rintro w' ⟨s0,s1,s2,s3,s4,s5,s6,s7,s8,s9,s10,s11,s12,s13,s14,s15,s16⟩
            go_simp
            with_reducible rfl
          rotate_left
          · simp only [Act.put,zS,zT,zU,i64_w,i32_w]
            rfl
          refine pure_ (i:=6) (N:=some 125) (v:=?_) (a':=?_) #[true,true,true,true,true,true,true,false,false,false,true,false,false,false,false,false,false,false,false,false,false,false,false,false,false,false,false,false,false,false,false,false,false] rfl rfl (anO HT_.out (by kernel_rfl)) (fun _ _ _ h=>h) (Or.inl ⟨by rfl,?_⟩) ?_ ?_
          rotate_left
          · intro w'
            go_simp
            with_reducible rfl
          rotate_left
          · simp only [Act.put,zS,zT,zU,i64_w,i32_w]
            rfl
          refine pure_ (i:=7) (N:=some 126) (v:=?_) (a':=?_) #[true,true,true,true,true,true,true,true,false,false,true,false,false,false,false,false,false,false,false,false,false,false,false,false,false,false,false,false,false,false,false,false,false] rfl rfl (anO HT_.out (by kernel_rfl)) (fun _ _ _ h=>h) (Or.inl ⟨by rfl,?_⟩) ?_ ?_
          rotate_left
          · intro w'
            go_simp
            with_reducible rfl
          rotate_left
          · simp only [Act.put,zS,zT,zU,i64_w,i32_w]
            rfl
          refine take_ (i:=8) (N:=some 127) (v:=?_) (a':=?_) #[true,true,true,true,true,true,true,true,true,false,true,false,false,false,false,false,false,false,false,false,false,false,false,false,false,false,false,false,false,false,false,false,false] rfl rfl (tkO HT_.out HW_.out (by kernel_rfl)) (fun _ _ _ h=>h) (Or.inl ⟨by rfl,?_⟩) hHeld ?_ ?_
          rotate_left
          · rintro w' ⟨s0,s1,s2,s3,s4,s5,s6,s7,s8,s9,s10,s11,s12,s13,s14,s15,s16⟩
            go_simp
            with_reducible rfl
          rotate_left
          · simp only [Act.put,zS,zT,zU,i64_w,i32_w]
            rfl
          refine pure_ (i:=9) (N:=some 128) (v:=?_) (a':=?_) (b_ 11 22) rfl rfl (anO HT_.out (by kernel_rfl)) (fun _ _ _ h=>h) (Or.inl ⟨by rfl,?_⟩) ?_ ?_
          rotate_left
          · intro w'
            go_simp
            with_reducible rfl
          rotate_left
          · simp only [Act.put,zS,zT,zU,i64_w,i32_w]
            rfl
          refine pure_ (i:=11) (N:=some 130) (v:=?_) (a':=?_) (b_ 12 21) rfl rfl (anO HT_.out (by kernel_rfl)) (fun _ _ _ h=>h) (Or.inl ⟨by rfl,?_⟩) ?_ ?_
          rotate_left
          · intro w'
            go_simp
            with_reducible rfl
          rotate_left
          · simp only [Act.put,zS,zT,zU,i64_w,i32_w]
            rfl
          refine pure_ (i:=12) (N:=some 131) (v:=?_) (a':=?_) (b_ 13 20) rfl rfl (anO HT_.out (by kernel_rfl)) (fun _ _ _ h=>h) (Or.inl ⟨by rfl,?_⟩) ?_ ?_
          rotate_left
          · intro w'
            go_simp
            with_reducible rfl
          rotate_left
          · simp only [Act.put,zS,zT,zU,i64_w,i32_w]
            rfl
          refine pure_ (i:=13) (N:=some 132) (v:=?_) (a':=?_) (b_ 14 19) rfl rfl (anO HT_.out (by kernel_rfl)) (fun _ _ _ h=>h) (Or.inl ⟨by rfl,?_⟩) ?_ ?_
          rotate_left
          · intro w'
            go_simp
            with_reducible rfl
          rotate_left
          · simp only [Act.put,zS,zT,zU,i64_w,i32_w]
            rfl
          refine pure_ (i:=14) (N:=some 133) (v:=?_) (a':=?_) (b_ 15 18) rfl rfl (anO HT_.out (by kernel_rfl)) (fun _ _ _ h=>h) (Or.inl ⟨by rfl,?_⟩) ?_ ?_
          rotate_left
          · intro w'
            go_simp
            with_reducible rfl
          rotate_left
          · simp only [Act.put,zS,zT,zU,i64_w,i32_w]
            rfl
          refine pure_ (i:=15) (N:=some 134) (v:=?_) (a':=?_) (b_ 16 17) rfl rfl (anO HT_.out (by kernel_rfl)) (fun _ _ _ h=>h) (Or.inl ⟨by rfl,?_⟩) ?_ ?_
          rotate_left
          · intro w'
            go_simp
            with_reducible rfl
          rotate_left
          · simp only [Act.put,zS,zT,zU,i64_w,i32_w]
            rfl
          refine pure_ (i:=16) (N:=some 135) (v:=?_) (a':=?_) (b_ 17 16) rfl rfl (anO HT_.out (by kernel_rfl)) (fun _ _ _ h=>h) (Or.inl ⟨by rfl,?_⟩) ?_ ?_
          rotate_left
          · intro w'
            go_simp
            with_reducible rfl
          rotate_left
          · simp only [Act.put,zS,zT,zU,i64_w,i32_w]
            rfl
          refine pure_ (i:=17) (N:=some 136) (v:=?_) (a':=?_) (b_ 18 15) rfl rfl (anO HT_.out (by kernel_rfl)) (fun _ _ _ h=>h) (Or.inl ⟨by rfl,?_⟩) ?_ ?_
          rotate_left
          · intro w'
            go_simp
            with_reducible rfl
          rotate_left
          · simp only [Act.put,zS,zT,zU,i64_w,i32_w]
            rfl
          refine pure_ (i:=19) (N:=some 138) (v:=?_) (a':=?_) #[true,true,true,true,true,true,true,true,true,true,true,true,true,true,true,true,true,true,false,true,false,false,false,false,false,false,false,false,false,false,false,false,false] rfl rfl (anO HT_.out (by kernel_rfl)) (fun _ _ _ h=>h) (Or.inl ⟨by rfl,?_⟩) ?_ ?_
          rotate_left
          · intro w'
            go_simp
            with_reducible rfl
          rotate_left
          · simp only [Act.put,zS,zT,zU,i64_w,i32_w]
            rfl
          refine pure_ (i:=23) (N:=some 142) (v:=?_) (a':=?_) #[true,true,true,true,true,true,true,true,true,true,true,true,true,true,true,true,true,true,false,true,false,false,false,true,false,false,false,false,false,false,false,false,false] rfl rfl (anO HT_.out (by kernel_rfl)) (fun _ _ _ h=>h) (Or.inl ⟨by rfl,?_⟩) ?_ ?_
          rotate_left
          · intro w'
            go_simp
            with_reducible rfl
          rotate_left
          · simp only [Act.put,zS,zT,zU,i64_w,i32_w]
            rfl
          refine pure_ (i:=25) (N:=some 144) (v:=?_) (a':=?_) #[true,true,true,true,true,true,true,true,true,true,true,true,true,true,true,true,true,true,false,true,false,false,false,true,false,true,false,false,false,false,false,false,false] rfl rfl (anO HT_.out (by kernel_rfl)) (fun _ _ _ h=>h) (Or.inl ⟨by rfl,?_⟩) ?_ ?_
          rotate_left
          · intro w'
            go_simp
            with_reducible rfl
          rotate_left
          · simp only [Act.put,zS,zT,zU,i64_w,i32_w]
            rfl
          refine take_ (i:=18) (N:=some 137) (v:=?_) (a':=?_) #[true,true,true,true,true,true,true,true,true,true,true,true,true,true,true,true,true,true,true,true,false,false,false,true,false,true,false,false,false,false,false,false,false] rfl rfl (tkO HT_.out HW_.out (by kernel_rfl)) (fun _ _ _ h=>h) (Or.inl ⟨by rfl,?_⟩) hHeld ?_ ?_
          rotate_left
          · rintro w' ⟨s0,s1,s2,s3,s4,s5,s6,s7,s8,s9,s10,s11,s12,s13,s14,s15,s16⟩
            go_simp
            with_reducible rfl
          rotate_left
          · simp only [Act.put,zS,zT,zU,i64_w,i32_w]
            rfl
          refine pure_ (i:=20) (N:=some 139) (v:=?_) (a':=?_) #[true,true,true,true,true,true,true,true,true,true,true,true,true,true,true,true,true,true,true,true,true,false,false,true,false,true,false,false,false,false,false,false,false] rfl rfl (anO HT_.out (by kernel_rfl)) (fun _ _ _ h=>h) (Or.inl ⟨by rfl,?_⟩) ?_ ?_
          rotate_left
          · intro w'
            go_simp
            with_reducible rfl
          rotate_left
          · simp only [Act.put,zS,zT,zU,i64_w,i32_w]
            rfl
          refine pure_ (i:=21) (N:=some 140) (v:=?_) (a':=?_) #[true,true,true,true,true,true,true,true,true,true,true,true,true,true,true,true,true,true,true,true,true,true,false,true,false,true,false,false,false,false,false,false,false] rfl rfl (anO HT_.out (by kernel_rfl)) (fun _ _ _ h=>h) (Or.inl ⟨by rfl,?_⟩) ?_ ?_
          rotate_left
          · intro w'
            go_simp
            with_reducible rfl
          rotate_left
          · simp only [Act.put,zS,zT,zU,i64_w,i32_w]
            rfl
          refine take_ (i:=22) (N:=some 141) (v:=?_) (a':=?_) #[true,true,true,true,true,true,true,true,true,true,true,true,true,true,true,true,true,true,true,true,true,true,true,true,false,true,false,false,false,false,false,false,false] rfl rfl (tkO HT_.out HW_.out (by kernel_rfl)) (fun _ _ _ h=>h) (Or.inl ⟨by rfl,?_⟩) hHeld ?_ ?_
          rotate_left
          · rintro w' ⟨s0,s1,s2,s3,s4,s5,s6,s7,s8,s9,s10,s11,s12,s13,s14,s15,s16⟩
            go_simp
            with_reducible rfl
          rotate_left
          · simp only [Act.put,zS,zT,zU,i64_w,i32_w]
            rfl
          refine take_ (i:=24) (N:=some 143) (v:=?_) (a':=?_) (b_ 26 7) rfl rfl (tkO HT_.out HW_.out (by kernel_rfl)) (fun _ _ _ h=>h) (Or.inl ⟨by rfl,?_⟩) hHeld ?_ ?_
          rotate_left
          · rintro w' ⟨s0,s1,s2,s3,s4,s5,s6,s7,s8,s9,s10,s11,s12,s13,s14,s15,s16⟩
            go_simp
            with_reducible rfl
          rotate_left
          · simp only [Act.put,zS,zT,zU,i64_w,i32_w]
            rfl
          refine pure_ (i:=26) (N:=some 145) (v:=?_) (a':=?_) (b_ 27 6) rfl rfl (anO HT_.out (by kernel_rfl)) (fun _ _ _ h=>h) (Or.inl ⟨by rfl,?_⟩) ?_ ?_
          rotate_left
          · intro w'
            go_simp
            with_reducible rfl
          rotate_left
          · simp only [Act.put,zS,zT,zU,i64_w,i32_w]
            rfl
          refine pure_ (i:=27) (N:=some 146) (v:=?_) (a':=?_) (b_ 28 5) rfl rfl (anO HT_.out (by kernel_rfl)) (fun _ _ _ h=>h) (Or.inl ⟨by rfl,?_⟩) ?_ ?_
          rotate_left
          · intro w'
            go_simp
            with_reducible rfl
          rotate_left
          · simp only [Act.put,zS,zT,zU,i64_w,i32_w]
            rfl
          refine take_ (i:=28) (N:=some 147) (v:=?_) (a':=?_) (b_ 29 4) rfl rfl (tkO HT_.out HW_.out (by kernel_rfl)) (fun _ _ _ h=>h) (Or.inl ⟨by rfl,?_⟩) hHeld ?_ ?_
          rotate_left
          · rintro w' ⟨s0,s1,s2,s3,s4,s5,s6,s7,s8,s9,s10,s11,s12,s13,s14,s15,s16⟩
            go_simp
            with_reducible rfl
          rotate_left
          · simp only [Act.put,zS,zT,zU,i64_w,i32_w]
            rfl
          refine one_ (i:=29) (N:=some 148) (b_ 30 3) rfl rfl (one_of HT_.out (by kernel_rfl)) (by decide) (fun K hK=>?_)
          refine goes_ Tryd.func47 (by kernel_rfl) rfl #[.agg #[.string ((rd_T77 l0_1 x12_4).f0.f0),.int .i64 ((rd_T77 l0_1 x12_4).f0.f1),.int .i64 ((rd_T77 l0_1 x12_4).f0.f2),.string ((rd_T77 l0_1 x12_4).f0.f3)],.agg #[.string ((rd_T77 l0_1 t226).f0.f0),.int .i64 ((rd_T77 l0_1 t226).f0.f1),.int .i64 ((rd_T77 l0_1 t226).f0.f2),.string ((rd_T77 l0_1 t226).f0.f3)]] (by rfl) rfl rfl (by (try simp only [zA,zC,zN]);first|done|rfl|(simp only [zM,zL];rfl)) ?_
          with_reducible refine (spec_l4Compare.calls k4 ((rd_T77 l0_1 x12_4).f0.f0) ((rd_T77 l0_1 x12_4).f0.f1) ((rd_T77 l0_1 x12_4).f0.f2) ((rd_T77 l0_1 x12_4).f0.f3) ((rd_T77 l0_1 t226).f0.f0) ((rd_T77 l0_1 t226).f0.f1) ((rd_T77 l0_1 t226).f0.f2) ((rd_T77 l0_1 t226).f0.f3) t230 _ A96.out).mono ?_
          rintro e w98 ⟨rfl,hb⟩
          refine ⟨_,rfl,?_⟩
          have n0_:=AsZ.mk (Kd.R_below (by (with_reducible repeat (first|apply Kd.R_alloc|apply Kd.R_drewN|apply Kd.R_drew));exact HO_93.out) hb)
          have n1_:=AsZ.mk (kb (g:=gb201) (o := .cells #[.slice (some ad224) l0_0.length c0_0,.slice (some ad227) l0_1.length c0_1] 26 (0,0)) (by (with_reducible repeat (first|refine kdN ?_ _|refine kd ?_|refine ka ?_ _));exact BK201.out) hb)
          have n2_:=AsZ.mk (bwp (by repeat (first|(with_reducible first|exact HB.out|apply bwa|apply pbN|apply bw1|refine bws ?_ GE201.out)|exact HB.out)) hb)
          clear HO_93 BK201 HB
          have HO_93:=n0_
          have BK201:=n1_
          have HB:=n2_
          clear n0_ n1_ n2_
          (try clear hb)
          (try clear hb2)
          (try clear hk)
          (try clear hi)
          refine hK.out _ _ ⟨(kc BK201.out 0).trans rfl,(kc BK201.out 1).trans rfl,((HB.out.cell (zB w _ hw227_0)).trans hw227_0),((HB.out.cell (zB w _ hw227_1)).trans hw227_1),((HB.out.cell (zB w _ hw227_2)).trans hw227_2),((HB.out.cell (zB w _ hw227_3)).trans hw227_3),((HB.out.cell (zB w _ hw227_4)).trans hw227_4),((HB.out.cell (zB w _ hw228_0)).trans hw228_0),((HB.out.cell (zB w _ hw228_1)).trans hw228_1),((HB.out.cell (zB w _ hw228_2)).trans hw228_2),((HB.out.cell (zB w _ hw228_3)).trans hw228_3),((HB.out.cell (zB w _ hw228_4)).trans hw228_4),((HB.out.cell (zB w _ hw229_0)).trans hw229_0),((HB.out.cell (zB w _ hw229_1)).trans hw229_1),((HB.out.cell (zB w _ hw229_2)).trans hw229_2),((HB.out.cell (zB w _ hw229_3)).trans hw229_3),((HB.out.cell (zB w _ hw229_4)).trans hw229_4)⟩ (fun hHeld=>?_)
          clear hK K
          refine norm_ (a':=?_) ?_ ?_
          rotate_left
          · show Act.put _ (some 148) _=_
            simp only [Act.put,zS,zT,zU,i64_w,i32_w]
            rfl
          refine pure_ (i:=30) (N:=some 149) (v:=?_) (a':=?_) (b_ 31 2) rfl rfl (anO HT_.out (by kernel_rfl)) (fun _ _ _ h=>h) (Or.inl ⟨by rfl,?_⟩) ?_ ?_
          rotate_left
          · intro w'
            go_simp
            with_reducible rfl
          rotate_left
          · simp only [Act.put,zS,zT,zU,i64_w,i32_w]
            rfl
          refine pure_ (i:=31) (N:=some 150) (v:=?_) (a':=?_) (b_ 32 1) rfl rfl (anO HT_.out (by kernel_rfl)) (fun _ _ _ h=>h) (Or.inl ⟨by rfl,?_⟩) ?_ ?_
          rotate_left
          · intro w'
            go_simp
            with_reducible rfl
          rotate_left
          · simp only [Act.put,zS,zT,zU,i64_w,i32_w]
            rfl
          refine pure_ (i:=32) (N:=some 151) (v:=?_) (a':=?_) (b_ 33 0) rfl rfl (anO HT_.out (by kernel_rfl)) (fun _ _ _ h=>h) (Or.inl ⟨by rfl,?_⟩) ?_ ?_
          rotate_left
          · intro w'
            go_simp
            with_reducible rfl
          rotate_left
          · simp only [Act.put,zS,zT,zU,i64_w,i32_w]
            rfl
          refine dn_ (dnO HT_.out (by kernel_rfl)) ?_
          try go_wp2
          go_meet
          case rel=>exact ⟨_,(decide (t230 ≥ 0)),(by first|rfl|(simp;done)|(simp [*];done)),H',⟨by have:=HJ1.out;have:=HK2.out;have:=HK3.out;have:=HK4.out;first|omega|exact Nat.le_refl _⟩,⟨by (with_reducible repeat (first|apply Kd.R_alloc|apply Kd.R_drewN|apply Kd.R_drew));exact HO_93.out⟩,⟨by (with_reducible repeat (first|refine kdN ?_ _|refine kd ?_|refine ka ?_ _));exact BK201.out⟩,⟨by repeat (first|(with_reducible first|exact HB.out|apply bwa|apply pbN|apply bw1|refine bws ?_ GE201.out)|exact HB.out)⟩⟩
         case rest =>
          clear HC84
          try clear c2
          try clear p2
          try clear q2
          try clear hx2
          try clear c4
          try clear c8
          try clear c9
          try clear c22
          try clear p22
          try clear q22
          try clear hx22
          try clear c47
          try clear c89
          try clear c90
          try clear c93
          try clear c93b0
          try clear c94
          try clear c95
          try clear hx227_0
          try clear hx227_1
          try clear hx227_2
          try clear hx227_3
          try clear hx227_4
          try clear hx228_0
          try clear hx228_1
          try clear hx228_2
          try clear hx228_3
          try clear hx228_4
          try clear hx229_0
          try clear hx229_1
          try clear hx229_2
          try clear hx229_3
          try clear hx229_4
          try clear p227
          try clear p228
          try clear p229
          try clear q227
          try clear q228
          try clear q229
          obtain ⟨kq,x151_83,rfl,HA,HJ83,HO_93,BK201,HB⟩:=hcut
          cases kq with
          |zero=>exact absurd HA.out (by simp [spec_GoodSkip.j7])
          |succ kj83 =>
           have H:=HA.out
           clear HA
           simp only [spec_GoodSkip.j7] at H
           by_cases c100:x151_83=true
           · subst c100
             have H1:(some false)=some r:=by rw [if_pos rfl] at H;exact H
             clear H
             have H:=H1
             clear H1
             obtain rfl:=zI H
             go_wp2
             go_ret
             exact ⟨by first|rfl|(simp [errW_none,errW_some]<;>rfl)|(simp [*,errW_none,errW_some]<;>rfl),by repeat (first|(with_reducible first|exact HB.out|apply bwa|apply pbN|apply bw1|refine bws ?_ GE201.out)|exact HB.out)⟩
           replace c100:=Bool.eq_false_iff.mpr c100
           subst c100
           have H1:(spec_GoodSkip.l4 kj83 x95_3 (wrap64 (x11_4 - 1)) t226 x4_2 (x4_2.length:Int) x95_3 l0_0 l0_1)=some r:=by rw [if_neg (show ¬ (false=true) by decide)] at H;exact H
           clear H
           have H:=H1
           clear H1
           have H':=AsZ.mk H
           clear H
           go_wp2
           go_roundg kj83
           case measure=>have:=HJ1.out;have:=HK2.out;have:=HK3.out;have:=HK4.out;have:=HJ83.out;omega
           case rel=>exact ⟨(wrap64 (x11_4 - 1)),(t226),(by first|rfl|(simp;done)|(simp [*];done)),(by first|rfl|(simp;done)|(simp [*];done)),H',⟨by have:=HJ1.out;have:=HK2.out;have:=HK3.out;have:=HK4.out;have:=HJ83.out;omega⟩,⟨by (with_reducible repeat (first|apply Kd.R_alloc|apply Kd.R_drewN|apply Kd.R_drew));exact HO_93.out⟩,⟨by (with_reducible repeat (first|refine kdN ?_ _|refine kd ?_|refine ka ?_ _));exact BK201.out⟩,⟨by repeat (first|(with_reducible first|exact HB.out|apply bwa|apply pbN|apply bw1|refine bws ?_ GE201.out)|exact HB.out)⟩⟩
end Go.Proofs.YtffjlpphcjfdgaaDoor.MFnExactListSkip
