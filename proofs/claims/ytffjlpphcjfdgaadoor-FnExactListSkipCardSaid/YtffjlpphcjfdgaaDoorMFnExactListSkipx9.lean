-- Written by a program of this session out of the translation. Not trusted: Lean checks it.
import Derived.Test.YtffjlpphcjfdgaaDoorMFnExactListSkipx0
import Derived.Test.YtffjlpphcjfdgaaDoorMFnExactListSkipx5
import Derived.Test.YtffjlpphcjfdgaaDoorMFnExactListSkipx8
namespace Go.Proofs.YtffjlpphcjfdgaaDoor.MFnExactListSkip
-- short
-- shrunk
-- TAB
-- RD
open Go.Proofs.YtffjlpphcjfdgaaDoor Go.RowKit Go.Proofs.YtffjlpphcjfdgaaDoorW.PrintWords Go.Proofs.YtffjlpphcjfdgaaDoorW.PrintLast Go.Proofs.YtffjlpphcjfdgaaDoorW.PrintMore Go.Proofs.YtffjlpphcjfdgaaDoorX
attribute [local go_sem] max2_int min2_int max_two min_two max_three min_three max_four min_four str_gtr str_leq str_geq cell_twice
set_option linter.unusedVariables false
set_option linter.unusedSimpArgs false
/-! ### spec_l4List: function 60 -/
def spec_l4List.l0:Nat→Int→List (S28)→Int→List Int→List (S77)→Option ((List (S28)))
  |0,_,_,_,_,_=>none
  |k + 1,x1,x5,x6,x233000,x233001=>if x6 ≥ 0 then (if 0≤x6 then (if x6 < (x233001.length:Int) then (if x5.length < 2932031007402 then (if 0≤x1 then (if x1 < (((rd_T77 x233001 x6).f1).length:Int) then (spec_l4List.l0 k x1 (x5 ++ [(⟨(rd_T77 x233001 x6).f0.f0,(rd_T77 x233001 x6).f0.f1,(rd_T77 x233001 x6).f0.f2,(rd_T77 x233001 x6).f0.f3⟩:S28)]) (rd ((rd_T77 x233001 x6).f1) x1) x233000 x233001) else (none)) else (none)) else (none)) else (none)) else (none)) else (some x5)
def spec_l4List.f (k:Nat) (l0_0:List Int) (l0_1:List (S77)) (a1:Int):Option ((List (S28))):=if 0≤a1 then (if a1 < (l0_0.length:Int) then (spec_l4List.l0 k a1 ([]:List (S28)) (rd l0_0 a1) l0_0 l0_1) else (none)) else (none)
theorem spec_l4List.mono_l:∀ k,(∀ y0 y1 y2 y3 y4,LeO (spec_l4List.l0 k y0 y1 y2 y3 y4) (spec_l4List.l0 (k + 1) y0 y1 y2 y3 y4))
  |0=>fun _ _ _ _ _ r h=>by simp [spec_l4List.l0] at h
  |k + 1=>by
    have ih0:=spec_l4List.mono_l k
    · intro y0 y1 y2 y3 y4
      unfold spec_l4List.l0
      repeat' first
      |(with_reducible exact ih0 _ _ _ _ _)
      |(with_reducible exact LeO.refl _)
      |(with_reducible exact LeO.none _)
      |(with_reducible refine LeO.ite ?_ ?_)
      |(with_reducible refine LeO.bind ?_ (fun _=>?_))
      |exact ih0 _ _ _ _ _
      |exact LeO.none _
      |refine LeO.ite ?_ ?_
      |refine LeO.bind ?_ (fun _=>?_)
theorem spec_l4List.mono:∀ a0 a1 a2 k,LeO (spec_l4List.f k a0 a1 a2) (spec_l4List.f (k + 1) a0 a1 a2):=by
  intro a0 a1 a2 k
  have ih0:=spec_l4List.mono_l k
  unfold spec_l4List.f
  repeat' first
      |(with_reducible exact ih0 _ _ _ _ _)
      |(with_reducible exact LeO.refl _)
      |(with_reducible exact LeO.none _)
      |(with_reducible refine LeO.ite ?_ ?_)
      |(with_reducible refine LeO.bind ?_ (fun _=>?_))
      |exact ih0 _ _ _ _ _
      |exact LeO.none _
      |refine LeO.ite ?_ ?_
      |refine LeO.bind ?_ (fun _=>?_)
set_option maxHeartbeats 8000000 in
set_option maxRecDepth 100000 in
theorem spec_l4List.calls (k:Nat) (A0_0:Option Addr) (c0_0:Nat) (l0_0:List Int) (A0_1:Option Addr) (c0_1:Nat) (l0_1:List (S77)) (a1:Int) (r:List (S28)) (w:World) (hr0_0:Kd.C (Kd.int .i64) w A0_0 l0_0.length l0_0) (hc0_0:l0_0.length≤c0_0) (hr0_1:Kd.C k77 w A0_1 l0_1.length l0_1) (hc0_1:l0_1.length≤c0_1) (h:spec_l4List.f k l0_0 l0_1 a1=some r) :
    Calls Tryd.prog 60 #[.agg #[.slice A0_0 l0_0.length c0_0,.slice A0_1 l0_1.length c0_1],.int .i64 a1] w fun e w' => ∃ v0_:Value,e = .returned (v0_)∧Kd.R k28 28 w' w.heap.size (fun _=>True) v0_ r∧Below w.heap.size w w':=by
 have hu26:=Tryd.underlying26
 have hu28:=Tryd.underlying28
 have HR0_0:=AsZ.mk hr0_0
 have HC0_0:=AsZ.mk hc0_0
 clear hr0_0 hc0_0
 have HR0_1:=AsZ.mk hr0_1
 have HC0_1:=AsZ.mk hc0_1
 clear hr0_1 hc0_1
 have HB:=AsZ.mk (Below.refl w.heap.size w)
 have H:(if 0≤a1 then (if a1 < (l0_0.length:Int) then (spec_l4List.l0 k a1 ([]:List (S28)) (rd l0_0 a1) l0_0 l0_1) else (none)) else (none))=some r:=h
 clear h
 by_cases c3:0≤a1
 rotate_left
 · rw [if_neg c3] at H
   exact absurd H (by simp)
 rw [if_pos c3] at H
 have c3b0:decide (0≤a1)=true:=zE c3
 clear c3
 by_cases c4:a1 < (l0_0.length:Int)
 rotate_left
 · rw [if_neg c4] at H
   exact absurd H (by simp)
 rw [if_pos c4] at H
 have c4b0:decide (a1 < (l0_0.length:Int))=true:=zE c4
 clear c4
 have H':=AsZ.mk H
 clear H
 go_enter Tryd.func60,Tryd.ntmps60
 go_wp2_with (first|((with_reducible refine gate_dst (N:=2) rfl ?_);refine box_event ?hg (N:=2) ?hd (cs:=#[.slice A0_0 l0_0.length c0_0,.slice A0_1 l0_1.length c0_1]) (t:=26) ?hr ?_;(case hd=>rfl);(case hg=>rfl);(case hr=>first|(go_simp;done)|(go_simp;rfl));intro gb232 hg w5 hbox hb;have n0_:=AsZ.mk (bwp (by repeat (first|(with_reducible first|exact HB.out|apply bwa|apply pbN|apply bw1)|exact HB.out)) hb);have n1_:=AsZ.mk (hbox);have n2_:=AsZ.mk ((by rw [hg];exact (bwz (by repeat (first|(with_reducible first|exact HB.out|apply bwa|apply pbN|apply bw1)|exact HB.out))):w.heap.size≤gb232));have n3_:=AsZ.mk ((by rw [hg];exact (bwz (by repeat (first|(with_reducible first|exact HB.out|apply bwa|apply pbN|apply bw1)|exact HB.out))):w.heap.size≤gb232));clear HB;have HB:=n0_;have BK232:=n1_;have GW232:=n2_;have GE232:=n3_;clear n0_ n1_ n2_ n3_;clear hb hbox hg;have hcz6_0:w5.cell? ⟨gb232,0,none⟩=some (.slice A0_0 l0_0.length c0_0):=(kc BK232.out 0).trans rfl;have hcz6_1:w5.cell? ⟨gb232,1,none⟩=some (.slice A0_1 l0_1.length c0_1):=(kc BK232.out 1).trans rfl;have hfz6_0:=kf BK232.out 0;have hfz6_1:=kf BK232.out 1;have p233:0≤(a1:Int):=zD (by first|(with_reducible assumption)|assumption);have q233:a1 < (l0_0.length:Int):=zD (by first|(with_reducible assumption)|assumption);obtain ⟨ad233,e233,hx233_0⟩:=Kd.at_int HR0_0.out a1 p233 q233;cases e233;replace hx233_0:=(HB.out.cell (zB w _ hx233_0)).trans hx233_0;replace p233:=eq_true p233;replace q233:=eq_true q233))
 go_loopg [5,6] k (fun kq v5 v6 w' => ∃ (x5_1:List (S28)) (x6_1:Int),v6 = .int .i64 x6_1∧AsZ (spec_l4List.l0 kq a1 x5_1 x6_1 l0_0 l0_1=some r)∧AsZ (kq≤k)∧AsZ (Kd.R k28 28 w' w.heap.size (fun _=>True) v5 x5_1)∧AsZ (w'.heap[gb232]? = some (.cells #[(.slice (some ad233) l0_0.length c0_0),(.slice A0_1 l0_1.length c0_1)] 26 (0,0)))∧AsZ (Below w.heap.size w w'))
 case atStart=>exact ⟨(([]:List (S28))),(rd l0_0 a1),(by first|rfl|(simp;done)|(simp [*];done)),H',⟨Nat.le_refl _⟩,⟨by first|exact Kd.R_nil _ _ _ _ _|exact Kd.N_nil _ _ _ _ _|exact Kd.V_nil _ _ _ _ _|exact Kd.Q_nil _ _ _ _ _|exact Kd.S_nil _ _ _ _ _⟩,⟨by (with_reducible repeat (first|refine kdN ?_ _|refine kd ?_|refine ka ?_ _));exact BK232.out⟩,⟨by repeat (first|(with_reducible first|exact HB.out|apply bwa|apply pbN|apply bw1|refine bws ?_ GE232.out)|exact HB.out)⟩⟩
 case round =>
  clear H'
  try clear p2
  try clear q2
  try clear hx2
  try clear c3
  try clear c3b0
  try clear c4
  try clear c4b0
  try clear c6
  try clear hcz6_0
  try clear hcz6_1
  try clear hfz6_0
  try clear hfz6_1
  try clear hx233_0
  try clear p233
  try clear q233
  obtain ⟨x5_1,x6_1,rfl,HA,HK1,HO_5,BK232,HB⟩:=hrel
  cases gk with
  |zero=>exact absurd HA.out (by simp [spec_l4List.l0])
  |succ k1 =>
   have H:=HA.out
   clear HA
   simp only [spec_l4List.l0] at H
   by_cases c7:x6_1 ≥ 0
   rotate_left
   · rw [if_neg c7] at H
     have c7b0:decide (0≤x6_1)=false:=decide_eq_false c7
     clear c7
     obtain rfl:=zI H
     go_wp2
     go_ret
     exact ⟨_,by first|rfl|(simp [errW_none,errW_some]<;>rfl)|(simp [*,errW_none,errW_some]<;>rfl),by (with_reducible repeat (first|apply Kd.R_alloc|apply Kd.R_drewN|apply Kd.R_drew));exact HO_5.out,by repeat (first|(with_reducible first|exact HB.out|apply bwa|apply pbN|apply bw1|refine bws ?_ GE232.out)|exact HB.out)⟩
   rw [if_pos c7] at H
   have c7b0:decide (0≤x6_1)=true:=zE c7
   clear c7
   by_cases c8:0≤x6_1
   rotate_left
   · rw [if_neg c8] at H
     exact absurd H (by simp)
   rw [if_pos c8] at H
   have c8b0:decide (0≤x6_1)=true:=zE c8
   clear c8
   by_cases c9:x6_1 < (l0_1.length:Int)
   rotate_left
   · rw [if_neg c9] at H
     exact absurd H (by simp)
   rw [if_pos c9] at H
   have c9b0:decide (x6_1 < (l0_1.length:Int))=true:=zE c9
   clear c9
   by_cases c10:x5_1.length < 2932031007402
   rotate_left
   · rw [if_neg c10] at H
     exact absurd H (by simp)
   rw [if_pos c10] at H
   have LMc10:=AsZ.mk c10
   clear c10
   obtain ⟨y235,hy235⟩:∃ y_:List (S28),y_=(x5_1 ++ [(⟨(rd_T77 l0_1 x6_1).f0.f0,(rd_T77 l0_1 x6_1).f0.f1,(rd_T77 l0_1 x6_1).f0.f2,(rd_T77 l0_1 x6_1).f0.f3⟩:S28)]):=⟨_,rfl⟩
   replace H:(if 0≤a1 then (if a1 < (((rd_T77 l0_1 x6_1).f1).length:Int) then (spec_l4List.l0 k1 a1 y235 (rd ((rd_T77 l0_1 x6_1).f1) a1) l0_0 l0_1) else (none)) else (none))=some r:=by first|(rw [hy235];with_reducible exact H)|(have H2_:=(Option.bind_some _ _).symm.trans H;rw [hy235];with_reducible exact H2_)|(have H2_:=(Option.bind_some _ _).symm.trans H;with_reducible exact H2_)|with_reducible exact H|(rw [hy235];exact H)|exact H
   have Ny235:=AsZ.mk hy235
   clear hy235
   by_cases c11:0≤a1
   rotate_left
   · rw [if_neg c11] at H
     exact absurd H (by simp)
   rw [if_pos c11] at H
   have c11b0:decide (0≤a1)=true:=zE c11
   clear c11
   by_cases c12:a1 < (((rd_T77 l0_1 x6_1).f1).length:Int)
   rotate_left
   · rw [if_neg c12] at H
     exact absurd H (by simp)
   rw [if_pos c12] at H
   have c12b0:decide (a1 < (((rd_T77 l0_1 x6_1).f1).length:Int))=true:=zE c12
   clear c12
   have H':=AsZ.mk H
   clear H
   have hcz13_0:wr.cell? ⟨gb232,0,none⟩=some (.slice (some ad233) l0_0.length c0_0):=(kc BK232.out 0).trans rfl
   have hcz13_1:wr.cell? ⟨gb232,1,none⟩=some (.slice A0_1 l0_1.length c0_1):=(kc BK232.out 1).trans rfl
   have hfz13_0:=kf BK232.out 0
   have hfz13_1:=kf BK232.out 1
   have p234:0≤(x6_1:Int):=zD (by first|(with_reducible assumption)|assumption)
   have q234:x6_1 < (l0_1.length:Int):=zD (by first|(with_reducible assumption)|assumption)
   obtain ⟨ad234,A234_4,c234_4,e234,hx234_0,hx234_1,hx234_2,hx234_3,hx234_4,hl234_4,hi234_4⟩:=at_T77 HR0_1.out x6_1 p234 q234
   cases e234
   replace hx234_0:=(HB.out.cell (zB w _ hx234_0)).trans hx234_0
   replace hx234_1:=(HB.out.cell (zB w _ hx234_1)).trans hx234_1
   replace hx234_2:=(HB.out.cell (zB w _ hx234_2)).trans hx234_2
   replace hx234_3:=(HB.out.cell (zB w _ hx234_3)).trans hx234_3
   replace hx234_4:=(HB.out.cell (zB w _ hx234_4)).trans hx234_4
   have HR234_4:=AsZ.mk hi234_4
   have HC234_4:=AsZ.mk hl234_4
   clear hi234_4 hl234_4
   replace p234:=eq_true p234
   replace q234:=eq_true q234
   go_wp2_with (first|((with_reducible refine gate_builtin (b := .append) (xs:=#[.tmp 23,.tmp 30]) rfl ?_);at_builtin;refine Kd.R_append k28 (w0:=w) w.heap.size rfl (.tmp 23) (.tmp 30) 33 28 (.agg #[(.string ⟨#[]⟩),(.int .i64 0),(.int .i64 0),(.string ⟨#[]⟩)]) 48 rfl Tryd.underlying33 info28 rfl (by decide) (by omega) u5 x5_1 (⟨(rd_T77 l0_1 x6_1).f0.f0,(rd_T77 l0_1 x6_1).f0.f1,(rd_T77 l0_1 x6_1).f0.f2,(rd_T77 l0_1 x6_1).f0.f3⟩:S28) [.string ((rd_T77 l0_1 x6_1).f0.f0),.int .i64 ((rd_T77 l0_1 x6_1).f0.f1),.int .i64 ((rd_T77 l0_1 x6_1).f0.f2),.string ((rd_T77 l0_1 x6_1).f0.f3)] (fun _=>True) (fun _=>False) rfl rfl ?aP (fun _ hk=>hk.elim) ?aF ?aO ?aB ?aS ?aL ?_;(case aP=>exact k28_mkM _ _ _ (⟨(rd_T77 l0_1 x6_1).f0.f0,(rd_T77 l0_1 x6_1).f0.f1,(rd_T77 l0_1 x6_1).f0.f2,(rd_T77 l0_1 x6_1).f0.f3⟩:S28));(case aB=>exact (by repeat (first|(with_reducible first|exact HB.out|apply bwa|apply pbN|apply bw1|refine bws ?_ GE232.out)|exact HB.out)));(case aF=>exact (fun _ _=>trivial));(case aO=>exact (by (with_reducible repeat (first|apply Kd.R_alloc|apply Kd.R_drewN|apply Kd.R_drew));exact HO_5.out));(case aS=>exact (bwz (by repeat (first|(with_reducible first|exact HB.out|apply bwa|apply pbN|apply bw1|refine bws ?_ GE232.out)|exact HB.out))));(case aL=>have:=LMc10.out;omega);intro v236 w14 ho hb hg hat;rw [← Ny235.out] at ho;have n0_:=AsZ.mk (blk_grown (g:=gb232) (o := .cells #[.slice (some ad233) l0_0.length c0_0,.slice (some ad234) l0_1.length c0_1] 26 (0,0)) (by (with_reducible repeat (first|refine kdN ?_ _|refine kd ?_|refine ka ?_ _));exact BK232.out) hg (Kd.R_ne HO_5.out BK232.out (by decide)));have n1_:=AsZ.mk (hb);have n2_:=AsZ.mk (ho);clear BK232;clear HB;clear HO_5;have BK232:=n0_;have HB:=n1_;have HO237:=n2_;clear n0_ n1_ n2_;clear ho hb hg hat;have hcz15_0:w14.cell? ⟨gb232,0,none⟩=some (.slice (some ad233) l0_0.length c0_0):=(kc BK232.out 0).trans rfl;have hcz15_1:w14.cell? ⟨gb232,1,none⟩=some (.slice (some ad234) l0_1.length c0_1):=(kc BK232.out 1).trans rfl;have hfz15_0:=kf BK232.out 0;have hfz15_1:=kf BK232.out 1;have p238:0≤(x6_1:Int):=zD (by first|(with_reducible assumption)|assumption);have q238:x6_1 < (l0_1.length:Int):=zD (by first|(with_reducible assumption)|assumption);obtain ⟨ad238,A238_4,c238_4,e238,hx238_0,hx238_1,hx238_2,hx238_3,hx238_4,hl238_4,hi238_4⟩:=at_T77 HR0_1.out x6_1 p238 q238;obtain rfl:ad234=ad238:=(by injection e238);replace hx238_0:=(HB.out.cell (zB w _ hx238_0)).trans hx238_0;replace hx238_1:=(HB.out.cell (zB w _ hx238_1)).trans hx238_1;replace hx238_2:=(HB.out.cell (zB w _ hx238_2)).trans hx238_2;replace hx238_3:=(HB.out.cell (zB w _ hx238_3)).trans hx238_3;replace hx238_4:=(HB.out.cell (zB w _ hx238_4)).trans hx238_4;have HR238_4:=AsZ.mk hi238_4;have HC238_4:=AsZ.mk hl238_4;clear hi238_4 hl238_4;replace p238:=eq_true p238;replace q238:=eq_true q238;have p239:0≤(a1:Int):=zD (by first|(with_reducible assumption)|assumption);have q239:a1 < (((rd_T77 l0_1 x6_1).f1).length:Int):=zD (by first|(with_reducible assumption)|assumption);obtain ⟨ad239,e239,hx239_0⟩:=Kd.at_int HR238_4.out a1 p239 q239;cases e239;replace hx239_0:=(HB.out.cell (zB w _ hx239_0)).trans hx239_0;replace p239:=eq_true p239;replace q239:=eq_true q239))
   go_roundg k1
   case measure=>have:=HK1.out;omega
   case rel=>exact ⟨(y235),(rd ((rd_T77 l0_1 x6_1).f1) a1),(by first|rfl|(simp;done)|(simp [*];done)),H',⟨by have:=HK1.out;omega⟩,⟨by (with_reducible repeat (first|apply Kd.R_alloc|apply Kd.R_drewN|apply Kd.R_drew));exact HO237.out⟩,⟨by (with_reducible repeat (first|refine kdN ?_ _|refine kd ?_|refine ka ?_ _));exact BK232.out⟩,⟨by repeat (first|(with_reducible first|exact HB.out|apply bwa|apply pbN|apply bw1|refine bws ?_ GE232.out)|exact HB.out)⟩⟩
/-! ### spec_ListSkip: function 19 -/
def spec_ListSkip.j0:Nat→Int→Bool→List Int→List (S77)→Option ((List (S28)) × Bool)
  |0,_,_,_,_=>none
  |k + 1,x1,x13,x241000,x241001=>if x13=true then (some (([]:List (S28)),false)) else ((spec_l4List.f k x241000 x241001 x1).bind fun t243=>(some (t243,true)))
def spec_ListSkip.f (k:Nat) (l0_0:List Int) (l0_1:List (S77)) (a1:Int):Option ((List (S28)) × Bool):=(spec_GoodSkip.f k l0_0 l0_1).bind fun t241=>(if t241=true then ((spec_l1In.f a1 0 4).bind fun t242=>(spec_ListSkip.j0 k a1 (!t242) l0_0 l0_1)) else (spec_ListSkip.j0 k a1 true l0_0 l0_1))
theorem spec_ListSkip.mono_l:∀ k,(∀ y0 y1 y2 y3,LeO (spec_ListSkip.j0 k y0 y1 y2 y3) (spec_ListSkip.j0 (k + 1) y0 y1 y2 y3))
  |0=>fun _ _ _ _ r h=>by simp [spec_ListSkip.j0] at h
  |k + 1=>by
    have ih0:=spec_ListSkip.mono_l k
    · intro y0 y1 y2 y3
      unfold spec_ListSkip.j0
      repeat' first
      |(with_reducible exact ih0 _ _ _ _)
      |(with_reducible exact spec_GoodSkip.mono _ _ _)
      |(with_reducible exact spec_l4List.mono _ _ _ _)
      |(with_reducible exact LeO.refl _)
      |(with_reducible exact LeO.none _)
      |(with_reducible refine LeO.ite ?_ ?_)
      |(with_reducible refine LeO.bind ?_ (fun _=>?_))
      |exact ih0 _ _ _ _
      |exact spec_GoodSkip.mono _ _ _
      |exact spec_l4List.mono _ _ _ _
      |exact LeO.none _
      |refine LeO.ite ?_ ?_
      |refine LeO.bind ?_ (fun _=>?_)
theorem spec_ListSkip.mono:∀ a0 a1 a2 k,LeO (spec_ListSkip.f k a0 a1 a2) (spec_ListSkip.f (k + 1) a0 a1 a2):=by
  intro a0 a1 a2 k
  have ih0:=spec_ListSkip.mono_l k
  unfold spec_ListSkip.f
  repeat' first
      |(with_reducible exact ih0 _ _ _ _)
      |(with_reducible exact spec_GoodSkip.mono _ _ _)
      |(with_reducible exact spec_l4List.mono _ _ _ _)
      |(with_reducible exact LeO.refl _)
      |(with_reducible exact LeO.none _)
      |(with_reducible refine LeO.ite ?_ ?_)
      |(with_reducible refine LeO.bind ?_ (fun _=>?_))
      |exact ih0 _ _ _ _
      |exact spec_GoodSkip.mono _ _ _
      |exact spec_l4List.mono _ _ _ _
      |exact LeO.none _
      |refine LeO.ite ?_ ?_
      |refine LeO.bind ?_ (fun _=>?_)
set_option maxHeartbeats 8000000 in
set_option maxRecDepth 100000 in
theorem spec_ListSkip.calls (k:Nat) (A0_0:Option Addr) (c0_0:Nat) (l0_0:List Int) (A0_1:Option Addr) (c0_1:Nat) (l0_1:List (S77)) (a1:Int) (r1:List (S28)) (r2:Bool) (w:World) (hr0_0:Kd.C (Kd.int .i64) w A0_0 l0_0.length l0_0) (hc0_0:l0_0.length≤c0_0) (hr0_1:Kd.C k77 w A0_1 l0_1.length l0_1) (hc0_1:l0_1.length≤c0_1) (h:spec_ListSkip.f k l0_0 l0_1 a1=some (r1,r2)) :
    Calls Tryd.prog 19 #[.agg #[.slice A0_0 l0_0.length c0_0,.slice A0_1 l0_1.length c0_1],.int .i64 a1] w fun e w' => ∃ v0_:Value,e = .returned (.tuple #[v0_,.bool r2])∧Kd.R k28 28 w' w.heap.size (fun _=>True) v0_ r1∧Below w.heap.size w w':=by
 have hu26:=Tryd.underlying26
 have HR0_0:=AsZ.mk hr0_0
 have HC0_0:=AsZ.mk hc0_0
 clear hr0_0 hc0_0
 have HR0_1:=AsZ.mk hr0_1
 have HC0_1:=AsZ.mk hc0_1
 clear hr0_1 hc0_1
 have HB:=AsZ.mk (Below.refl w.heap.size w)
 have H:((spec_GoodSkip.f k l0_0 l0_1).bind fun t241=>(if t241=true then ((spec_l1In.f a1 0 4).bind fun t242=>(spec_ListSkip.j0 k a1 (!t242) l0_0 l0_1)) else (spec_ListSkip.j0 k a1 true l0_0 l0_1)))=some (r1,r2):=h
 clear h
 have HC3:=AsZ.mk H
 clear H
 go_enter Tryd.func19,Tryd.ntmps19
 go_upto_region 1 with (first|((with_reducible refine gate_dst (N:=2) rfl ?_);refine box_event ?hg (N:=2) ?hd (cs:=#[.slice A0_0 l0_0.length c0_0,.slice A0_1 l0_1.length c0_1]) (t:=26) ?hr ?_;(case hd=>rfl);(case hg=>rfl);(case hr=>first|(go_simp;done)|(go_simp;rfl));intro gb240 hg w4 hbox hb;have n0_:=AsZ.mk (bwp (by repeat (first|(with_reducible first|exact HB.out|apply bwa|apply pbN|apply bw1)|exact HB.out)) hb);have n1_:=AsZ.mk (hbox);have n2_:=AsZ.mk ((by rw [hg];exact (bwz (by repeat (first|(with_reducible first|exact HB.out|apply bwa|apply pbN|apply bw1)|exact HB.out))):w.heap.size≤gb240));have n3_:=AsZ.mk ((by rw [hg];exact (bwz (by repeat (first|(with_reducible first|exact HB.out|apply bwa|apply pbN|apply bw1)|exact HB.out))):w.heap.size≤gb240));clear HB;have HB:=n0_;have BK240:=n1_;have GW240:=n2_;have GE240:=n3_;clear n0_ n1_ n2_ n3_;clear hb hbox hg))
 (try simp only [Act.put,zS,zT,zU])
 go_cut [13] (fun v13 wc => ∃ (kq:Nat) (x13_2:Bool),v13 = .bool x13_2∧AsZ (spec_ListSkip.j0 kq a1 x13_2 l0_0 l0_1=some (r1,r2))∧AsZ (kq≤k)∧AsZ (wc.heap[gb240]? = some (.cells #[(.slice A0_0 l0_0.length c0_0),(.slice A0_1 l0_1.length c0_1)] 26 (0,0)))∧AsZ (Below w.heap.size w wc))
 case first =>
  have H:=HC3.out
  clear HC3
  replace H:=Option.bind_eq_some_iff.mp H
  obtain ⟨t241,A50,H⟩:=H
  replace H:(if t241=true then ((spec_l1In.f a1 0 4).bind fun t242=>(spec_ListSkip.j0 k a1 (!t242) l0_0 l0_1)) else (spec_ListSkip.j0 k a1 true l0_0 l0_1))=some (r1,r2):=H
  have A5:=AsZ.mk A50
  clear A50
  by_cases c6:t241=true
  rotate_left
  · replace c6:=Bool.eq_false_iff.mpr c6
    subst c6
    have H1:(spec_ListSkip.j0 k a1 true l0_0 l0_1)=some (r1,r2):=by rw [if_neg (show ¬ (false=true) by decide)] at H;exact H
    clear H
    have H:=H1
    clear H1
    have H':=AsZ.mk H
    clear H
    have hcz10_0:w4.cell? ⟨gb240,0,none⟩=some (.slice A0_0 l0_0.length c0_0):=(kc BK240.out 0).trans rfl
    have hcz10_1:w4.cell? ⟨gb240,1,none⟩=some (.slice A0_1 l0_1.length c0_1):=(kc BK240.out 1).trans rfl
    have hfz10_0:=kf BK240.out 0
    have hfz10_1:=kf BK240.out 1
    go_wp2_with (first|((with_reducible refine gcl (f:=30) rfl ?_);refine goesL_ (some 7) rfl rfl Tryd.func30 (by kernel_rfl) rfl #[.agg #[.slice A0_0 l0_0.length c0_0,.slice A0_1 l0_1.length c0_1]] rfl (by (try simp only [zA,zC,zN]);first|done|rfl|(simp only [zM,zL];rfl)) ?_;(with_reducible refine (spec_GoodSkip.calls k _ _ l0_0 _ _ l0_1 false _ ?side1 ?side2 ?side3 ?side4 A5.out).mono ?_);(case side1=>repeat (first|exact (Kd.C_below HR0_0.out HB.out)|(with_reducible refine Kd.C_alloc ?_ _)|(with_reducible refine Kd.C_drewN ?_ _)|(with_reducible refine Kd.C_drew ?_)));(case side2=>exact HC0_0.out);(case side3=>repeat (first|exact (Kd.C_below HR0_1.out HB.out)|(with_reducible refine Kd.C_alloc ?_ _)|(with_reducible refine Kd.C_drewN ?_ _)|(with_reducible refine Kd.C_drew ?_)));(case side4=>exact HC0_1.out);rintro e w11 ⟨rfl,hb⟩;refine ⟨_,rfl,?_⟩;have n0_:=AsZ.mk (kb (g:=gb240) (o := .cells #[.slice A0_0 l0_0.length c0_0,.slice A0_1 l0_1.length c0_1] 26 (0,0)) (by (with_reducible repeat (first|refine kdN ?_ _|refine kd ?_|refine ka ?_ _));exact BK240.out) hb);have n1_:=AsZ.mk (bwp (by repeat (first|(with_reducible first|exact HB.out|apply bwa|apply pbN|apply bw1|refine bws ?_ GE240.out)|exact HB.out)) hb);clear BK240;clear HB;have BK240:=n0_;have HB:=n1_;clear n0_ n1_;(try clear hb);(try clear hb2);(try clear hk);(try clear hi)))
    go_meet
    case rel=>exact ⟨_,(true),(by first|rfl|(simp;done)|(simp [*];done)),H',⟨by first|omega|exact Nat.le_refl _⟩,⟨by (with_reducible repeat (first|refine kdN ?_ _|refine kd ?_|refine ka ?_ _));exact BK240.out⟩,⟨by repeat (first|(with_reducible first|exact HB.out|apply bwa|apply pbN|apply bw1|refine bws ?_ GE240.out)|exact HB.out)⟩⟩
  subst c6
  have H1:((spec_l1In.f a1 0 4).bind fun t242=>(spec_ListSkip.j0 k a1 (!t242) l0_0 l0_1))=some (r1,r2):=by rw [if_pos rfl] at H;exact H
  clear H
  have H:=H1
  clear H1
  replace H:=Option.bind_eq_some_iff.mp H
  obtain ⟨t242,A70,H⟩:=H
  replace H:(spec_ListSkip.j0 k a1 (!t242) l0_0 l0_1)=some (r1,r2):=H
  have A7:=AsZ.mk A70
  clear A70
  have H':=AsZ.mk H
  clear H
  have hcz8_0:w4.cell? ⟨gb240,0,none⟩=some (.slice A0_0 l0_0.length c0_0):=(kc BK240.out 0).trans rfl
  have hcz8_1:w4.cell? ⟨gb240,1,none⟩=some (.slice A0_1 l0_1.length c0_1):=(kc BK240.out 1).trans rfl
  have hfz8_0:=kf BK240.out 0
  have hfz8_1:=kf BK240.out 1
  go_wp2_with (first|((with_reducible refine gcl (f:=30) rfl ?_);refine goesL_ (some 7) rfl rfl Tryd.func30 (by kernel_rfl) rfl #[.agg #[.slice A0_0 l0_0.length c0_0,.slice A0_1 l0_1.length c0_1]] rfl (by (try simp only [zA,zC,zN]);first|done|rfl|(simp only [zM,zL];rfl)) ?_;(with_reducible refine (spec_GoodSkip.calls k _ _ l0_0 _ _ l0_1 true _ ?side1 ?side2 ?side3 ?side4 A5.out).mono ?_);(case side1=>repeat (first|exact (Kd.C_below HR0_0.out HB.out)|(with_reducible refine Kd.C_alloc ?_ _)|(with_reducible refine Kd.C_drewN ?_ _)|(with_reducible refine Kd.C_drew ?_)));(case side2=>exact HC0_0.out);(case side3=>repeat (first|exact (Kd.C_below HR0_1.out HB.out)|(with_reducible refine Kd.C_alloc ?_ _)|(with_reducible refine Kd.C_drewN ?_ _)|(with_reducible refine Kd.C_drew ?_)));(case side4=>exact HC0_1.out);rintro e w9 ⟨rfl,hb⟩;refine ⟨_,rfl,?_⟩;have n0_:=AsZ.mk (kb (g:=gb240) (o := .cells #[.slice A0_0 l0_0.length c0_0,.slice A0_1 l0_1.length c0_1] 26 (0,0)) (by (with_reducible repeat (first|refine kdN ?_ _|refine kd ?_|refine ka ?_ _));exact BK240.out) hb);have n1_:=AsZ.mk (bwp (by repeat (first|(with_reducible first|exact HB.out|apply bwa|apply pbN|apply bw1|refine bws ?_ GE240.out)|exact HB.out)) hb);clear BK240;clear HB;have BK240:=n0_;have HB:=n1_;clear n0_ n1_;(try clear hb);(try clear hb2);(try clear hk);(try clear hi))|(go_at_call 59;(with_reducible refine (spec_l1In.calls a1 0 4 t242 _ A7.out).mono ?_);rintro e w' ⟨rfl,⟨nd,rfl⟩⟩))
  go_meet
  case rel=>exact ⟨_,(!t242),(by first|rfl|(simp;done)|(simp [*];done)),H',⟨by first|omega|exact Nat.le_refl _⟩,⟨by (with_reducible repeat (first|refine kdN ?_ _|refine kd ?_|refine ka ?_ _));exact BK240.out⟩,⟨by repeat (first|(with_reducible first|exact HB.out|apply bwa|apply pbN|apply bw1|refine bws ?_ GE240.out)|exact HB.out)⟩⟩
 case rest =>
  clear HC3
  try clear c1
  try clear p2
  try clear c3
  try clear c6
  try clear hcz10_0
  try clear hcz10_1
  try clear hcz8_0
  try clear hcz8_1
  try clear hfz10_0
  try clear hfz10_1
  try clear hfz8_0
  try clear hfz8_1
  obtain ⟨kq,x13_2,rfl,HA,HJ2,BK240,HB⟩:=hcut
  cases kq with
  |zero=>exact absurd HA.out (by simp [spec_ListSkip.j0])
  |succ kj2 =>
   have H:=HA.out
   clear HA
   simp only [spec_ListSkip.j0] at H
   by_cases c12:x13_2=true
   · subst c12
     have H1:(some (([]:List (S28)),false))=some (r1,r2):=by rw [if_pos rfl] at H;exact H
     clear H
     have H:=H1
     clear H1
     simp only [Option.some.injEq,Prod.mk.injEq] at H
     obtain ⟨rfl,rfl⟩:=H
     go_wp2
     go_ret2
     exact ⟨_,by first|rfl|(simp [errW_none,errW_some]<;>rfl)|(simp [*,errW_none,errW_some]<;>rfl),by first|exact Kd.R_nil _ _ _ _ _|exact Kd.N_nil _ _ _ _ _|exact Kd.V_nil _ _ _ _ _|exact Kd.Q_nil _ _ _ _ _|exact Kd.S_nil _ _ _ _ _,by repeat (first|(with_reducible first|exact HB.out|apply bwa|apply pbN|apply bw1|refine bws ?_ GE240.out)|exact HB.out)⟩
   replace c12:=Bool.eq_false_iff.mpr c12
   subst c12
   have H1:((spec_l4List.f kj2 l0_0 l0_1 a1).bind fun t243=>(some (t243,true)))=some (r1,r2):=by rw [if_neg (show ¬ (false=true) by decide)] at H;exact H
   clear H
   have H:=H1
   clear H1
   replace H:=Option.bind_eq_some_iff.mp H
   obtain ⟨t243,A130,H⟩:=H
   replace H:(some (t243,true))=some (r1,r2):=H
   have A13:=AsZ.mk A130
   clear A130
   simp only [Option.some.injEq,Prod.mk.injEq] at H
   obtain ⟨rfl,rfl⟩:=H
   have hcz14_0:wc.cell? ⟨gb240,0,none⟩=some (.slice A0_0 l0_0.length c0_0):=(kc BK240.out 0).trans rfl
   have hcz14_1:wc.cell? ⟨gb240,1,none⟩=some (.slice A0_1 l0_1.length c0_1):=(kc BK240.out 1).trans rfl
   have hfz14_0:=kf BK240.out 0
   have hfz14_1:=kf BK240.out 1
   go_wp2_with (first|((with_reducible refine gcl (f:=60) rfl ?_);refine goesL_ (some 16) rfl rfl Tryd.func60 (by kernel_rfl) rfl #[.agg #[.slice A0_0 l0_0.length c0_0,.slice A0_1 l0_1.length c0_1],.int .i64 a1] rfl (by (try simp only [zA,zC,zN]);first|done|rfl|(simp only [zM,zL];rfl)) ?_;(with_reducible refine (spec_l4List.calls kj2 _ _ l0_0 _ _ l0_1 a1 t243 _ ?side1 ?side2 ?side3 ?side4 A13.out).mono ?_);(case side1=>repeat (first|exact (Kd.C_below HR0_0.out HB.out)|(with_reducible refine Kd.C_alloc ?_ _)|(with_reducible refine Kd.C_drewN ?_ _)|(with_reducible refine Kd.C_drew ?_)));(case side2=>exact HC0_0.out);(case side3=>repeat (first|exact (Kd.C_below HR0_1.out HB.out)|(with_reducible refine Kd.C_alloc ?_ _)|(with_reducible refine Kd.C_drewN ?_ _)|(with_reducible refine Kd.C_drew ?_)));(case side4=>exact HC0_1.out);rintro e w15 ⟨v244,rfl,ho0,hb⟩;refine ⟨_,rfl,?_⟩;have n0_:=AsZ.mk (Kd.R_lower ho0 (bwz (by repeat (first|(with_reducible first|exact HB.out|apply bwa|apply pbN|apply bw1|refine bws ?_ GE240.out)|exact HB.out))));have n1_:=AsZ.mk (kb (g:=gb240) (o := .cells #[.slice A0_0 l0_0.length c0_0,.slice A0_1 l0_1.length c0_1] 26 (0,0)) (by (with_reducible repeat (first|refine kdN ?_ _|refine kd ?_|refine ka ?_ _));exact BK240.out) hb);have n2_:=AsZ.mk (bwp (by repeat (first|(with_reducible first|exact HB.out|apply bwa|apply pbN|apply bw1|refine bws ?_ GE240.out)|exact HB.out)) hb);clear BK240;clear HB;have HO245:=n0_;have BK240:=n1_;have HB:=n2_;clear n0_ n1_ n2_;(try clear hb);(try clear hb2);(try clear hk);(try clear hi);(try clear ho0)))
   go_ret2
   exact ⟨_,by first|rfl|(simp [errW_none,errW_some]<;>rfl)|(simp [*,errW_none,errW_some]<;>rfl),by (with_reducible repeat (first|apply Kd.R_alloc|apply Kd.R_drewN|apply Kd.R_drew));exact HO245.out,by repeat (first|(with_reducible first|exact HB.out|apply bwa|apply pbN|apply bw1|refine bws ?_ GE240.out)|exact HB.out)⟩
/-! ### laws_toIntS: function 61 -/
def laws_toIntS.l0:Nat→List Int→List Int→Int→Option (List Int)
  |0,_,_,_=>none
  |k + 1,x0,x3,x4=>if x4 < (x0.length:Int) then (if 0≤x4 then (if x4 < (x3.length:Int) then (laws_toIntS.l0 k x0 (x3.set (x4:Int).toNat (rd x0 x4)) (wrap64 (x4 + 1))) else (none)) else (none)) else (some x3)
def laws_toIntS.f (k:Nat) (l0:List Int):Option (List Int):=if 0≤(l0.length:Int) then (if ((l0.length:Int):Int).toNat≤35184372088832 then (laws_toIntS.l0 k l0 (List.replicate ((l0.length:Int):Int).toNat 0) 0) else (none)) else (none)
theorem laws_toIntS.mono_l:∀ k,(∀ y0 y1 y2,LeO (laws_toIntS.l0 k y0 y1 y2) (laws_toIntS.l0 (k + 1) y0 y1 y2))
  |0=>fun _ _ _ r h=>by simp [laws_toIntS.l0] at h
  |k + 1=>by
    have ih0:=laws_toIntS.mono_l k
    · intro y0 y1 y2
      unfold laws_toIntS.l0
      repeat' first
      |(with_reducible exact ih0 _ _ _)
      |(with_reducible exact LeO.refl _)
      |(with_reducible exact LeO.none _)
      |(with_reducible refine LeO.ite ?_ ?_)
      |(with_reducible refine LeO.bind ?_ (fun _=>?_))
      |exact ih0 _ _ _
      |exact LeO.none _
      |refine LeO.ite ?_ ?_
      |refine LeO.bind ?_ (fun _=>?_)
theorem laws_toIntS.mono:∀ a0 k,LeO (laws_toIntS.f k a0) (laws_toIntS.f (k + 1) a0):=by
  intro a0 k
  have ih0:=laws_toIntS.mono_l k
  unfold laws_toIntS.f
  repeat' first
      |(with_reducible exact ih0 _ _ _)
      |(with_reducible exact LeO.refl _)
      |(with_reducible exact LeO.none _)
      |(with_reducible refine LeO.ite ?_ ?_)
      |(with_reducible refine LeO.bind ?_ (fun _=>?_))
      |exact ih0 _ _ _
      |exact LeO.none _
      |refine LeO.ite ?_ ?_
      |refine LeO.bind ?_ (fun _=>?_)
set_option maxHeartbeats 8000000 in
set_option maxRecDepth 100000 in
theorem laws_toIntS.calls (k:Nat) (A0:Option Addr) (c0:Nat) (l0:List Int) (r:List Int) (w:World) (hr0:Kd.C (Kd.int .i64) w A0 l0.length l0) (hc0:l0.length≤c0) (h:laws_toIntS.f k l0=some r) :
    Calls Tryd.prog 61 #[.slice A0 l0.length c0] w fun e w' => ∃ v0_:Value,e = .returned (v0_)∧Kd.R (Kd.int .i64) 3 w' w.heap.size (fun _=>True) v0_ r∧Below w.heap.size w w':=by
 have HR0:=AsZ.mk hr0
 have HC0:=AsZ.mk hc0
 clear hr0 hc0
 have HB:=AsZ.mk (Below.refl w.heap.size w)
 have H:(if 0≤(l0.length:Int) then (if ((l0.length:Int):Int).toNat≤35184372088832 then (laws_toIntS.l0 k l0 (List.replicate ((l0.length:Int):Int).toNat 0) 0) else (none)) else (none))=some r:=h
 clear h
 by_cases c2:0≤(l0.length:Int)
 rotate_left
 · rw [if_neg c2] at H
   exact absurd H (by simp)
 rw [if_pos c2] at H
 have c2b0:=eq_true c2
 have c2b1:decide (0≤(l0.length:Int))=true:=zE c2
 clear c2
 by_cases c3:((l0.length:Int):Int).toNat≤35184372088832
 rotate_left
 · rw [if_neg c3] at H
   exact absurd H (by simp)
 rw [if_pos c3] at H
 have c3b0:=eq_true c3
 have c3b1:decide (((l0.length:Int):Int).toNat≤35184372088832)=true:=zE c3
 clear c3
 obtain ⟨y246,hy246⟩:∃ y_:List Int,y_=(List.replicate ((l0.length:Int):Int).toNat 0):=⟨_,rfl⟩
 replace H:(laws_toIntS.l0 k l0 y246 0)=some r:=by first|(rw [hy246];with_reducible exact H)|(have H2_:=(Option.bind_some _ _).symm.trans H;rw [hy246];with_reducible exact H2_)|(have H2_:=(Option.bind_some _ _).symm.trans H;with_reducible exact H2_)|with_reducible exact H|(rw [hy246];exact H)|exact H
 have Ny246:=AsZ.mk hy246
 clear hy246
 have H':=AsZ.mk H
 clear H
 go_enter Tryd.func61,Tryd.ntmps61
 go_wp2_with (first|((with_reducible refine gate_dst (N:=7) rfl ?_);refine Kd.R_make (Kd.int .i64) _ 3 rfl (N:=7) rfl 23 _ _ rfl (l0.length:Int) rfl rfl Tryd.underlying23 (.int .i64 0) 8 info3 rfl (by decide) (by omega) 0 (ok:=fun _=>True) (okp:=fun _=>True) rfl (fun _ hk=>hk) trivial (zD (by first|(with_reducible assumption)|assumption)) (Nat.le_trans (Nat.mul_le_mul_right _ (zD (by first|(with_reducible assumption)|assumption):(l0.length:Int).toNat≤35184372088832)) (by omega)) (Below.refl _ _) (Nat.le_refl _) ?_;intro v247 w4 ho5 hb hg_ hnew_;clear hg_ hnew_;(first|rw [← Ny246.out] at ho5|(simp only [Int.reduceToNat] at ho5;rw [← Ny246.out] at ho5));have n0_:=AsZ.mk (Kd.R_lower ho5 (bwz (by repeat (first|(with_reducible first|exact HB.out|apply bwa|apply pbN|apply bw1)|exact HB.out))));have n1_:=AsZ.mk (bwp (by repeat (first|(with_reducible first|exact HB.out|apply bwa|apply pbN|apply bw1)|exact HB.out)) hb);clear HB;have HO248:=n0_;have HB:=n1_;clear n0_ n1_;clear hb ho5))
 go_loopg [4] k (fun kq v4 w' => ∃ (x3_1:List Int) (x4_1:Int),v4 = .int .i64 x4_1∧AsZ (laws_toIntS.l0 kq l0 x3_1 x4_1=some r)∧AsZ (kq≤k)∧AsZ (Kd.R (Kd.int .i64) 3 w' w.heap.size (fun _=>True) v247 x3_1)∧AsZ (Below w.heap.size w w'))
 case atStart=>exact ⟨(y246),(0),(by first|rfl|(simp;done)|(simp [*];done)),H',⟨Nat.le_refl _⟩,⟨by (with_reducible repeat (first|apply Kd.R_alloc|apply Kd.R_drewN|apply Kd.R_drew));exact HO248.out⟩,⟨by repeat (first|(with_reducible first|exact HB.out|apply bwa|apply pbN|apply bw1)|exact HB.out)⟩⟩
 case round =>
  clear H'
  try clear c2
  try clear c2b0
  try clear c2b1
  try clear p2
  try clear c3
  try clear c3b0
  try clear c3b1
  obtain ⟨x3_1,x4_1,rfl,HA,HK1,HO_3,HB⟩:=hrel
  cases gk with
  |zero=>exact absurd HA.out (by simp [laws_toIntS.l0])
  |succ k1 =>
   have H:=HA.out
   clear HA
   simp only [laws_toIntS.l0] at H
   by_cases c6:x4_1 < (l0.length:Int)
   rotate_left
   · rw [if_neg c6] at H
     have c6b0:decide (x4_1 < (l0.length:Int))=false:=decide_eq_false c6
     clear c6
     obtain rfl:=zI H
     go_wp2
     go_ret
     exact ⟨_,by first|rfl|(simp [errW_none,errW_some]<;>rfl)|(simp [*,errW_none,errW_some]<;>rfl),by (with_reducible repeat (first|apply Kd.R_alloc|apply Kd.R_drewN|apply Kd.R_drew));exact HO_3.out,by repeat (first|(with_reducible first|exact HB.out|apply bwa|apply pbN|apply bw1)|exact HB.out)⟩
   rw [if_pos c6] at H
   have c6b0:decide (x4_1 < (l0.length:Int))=true:=zE c6
   clear c6
   by_cases c7:0≤x4_1
   rotate_left
   · rw [if_neg c7] at H
     exact absurd H (by simp)
   rw [if_pos c7] at H
   have c7b0:decide (0≤x4_1)=true:=zE c7
   clear c7
   by_cases c8:x4_1 < (x3_1.length:Int)
   rotate_left
   · rw [if_neg c8] at H
     exact absurd H (by simp)
   rw [if_pos c8] at H
   have c8b0:decide (x4_1 < (x3_1.length:Int))=true:=zE c8
   clear c8
   obtain ⟨y250,hy250⟩:∃ y_:List Int,y_=(x3_1.set (x4_1:Int).toNat (rd l0 x4_1)):=⟨_,rfl⟩
   replace H:(laws_toIntS.l0 k1 l0 y250 (wrap64 (x4_1 + 1)))=some r:=by first|(rw [hy250];with_reducible exact H)|(have H2_:=(Option.bind_some _ _).symm.trans H;rw [hy250];with_reducible exact H2_)|(have H2_:=(Option.bind_some _ _).symm.trans H;with_reducible exact H2_)|with_reducible exact H|(rw [hy250];exact H)|exact H
   have Ny250:=AsZ.mk hy250
   clear hy250
   have H':=AsZ.mk H
   clear H
   have p249:0≤(x4_1:Int):=zD (by first|(with_reducible assumption)|assumption)
   have q249:x4_1 < (l0.length:Int):=zD (by first|(with_reducible assumption)|assumption)
   obtain ⟨ad249,e249,hx249_0⟩:=Kd.at_int HR0.out x4_1 p249 q249
   cases e249
   replace hx249_0:=(HB.out.cell (zB w _ hx249_0)).trans hx249_0
   replace p249:=eq_true p249
   replace q249:=eq_true q249
   have p9:0≤(x4_1:Int):=zD (by first|(with_reducible assumption)|assumption)
   have q9:(x4_1:Int) < ((x3_1.length:Int):Int):=zD (by first|(with_reducible assumption)|assumption)
   obtain ⟨go9,co9,eo9,gb9,gl9,cl9,HG9⟩:=Kd.R_form HO_3.out (by omega)
   (first|cases eo9|(injection eo9 with ea_ en_ ec_;(first|subst ea_|(injection ea_ with ea_;subst ea_));subst ec_;clear en_))
   have GB9:=AsZ.mk gb9
   have GG9:=AsZ.mk HG9
   clear gb9 gl9 HG9
   obtain ⟨hx9_0,hf9_0⟩:=Kd.R_celln 0 HO_3.out (x4_1:Int) p9 q9
   replace p9:=eq_true p9
   replace q9:=eq_true q9
   have HP10:=Kd.R_putg HO_3.out (x4_1:Int) (rd l0 x4_1)
   go_wp2_with (first|((with_reducible refine gate_store (t:=3) (p:=20) rfl ?_);refine store_event (t:=3) (p:=20) (v:=?vo_w11) (w1:=(wr.setCell ⟨go9,(x4_1:Int).toNat,none⟩ (.int .i64 (rd l0 x4_1)))) ?hg ?ho ?hn ?hr ?_;(case ho=>rfl);(case hg=>rfl);(case hn=>rfl);(case hr=>first|(go_simp;done)|(go_simp;rfl));intro w11 hw;have hg:wr.grownBy w11 (some go9):=(by rw [hw];exact HP10.2);have hp_:Kd.R (Kd.int .i64) 3 w11 w.heap.size (fun _=>True) (.slice (some ⟨go9,0,none⟩) x3_1.length co9) y250:=(by rw [hw,Ny250.out];exact HP10.1);clear HP10;have n0_:=AsZ.mk (hp_);have n1_:=AsZ.mk ((by rw [hw];exact bws (HB.out) GB9.out:Below w.heap.size w w11));clear HO_3;clear HB;have HO_3:=n0_;have HB:=n1_;clear n0_ n1_;clear hg hw hp_))
   go_roundg k1
   case measure=>have:=HK1.out;omega
   case rel=>exact ⟨(y250),(wrap64 (x4_1 + 1)),(by first|rfl|(simp;done)|(simp [*];done)),H',⟨by have:=HK1.out;omega⟩,⟨by (with_reducible repeat (first|apply Kd.R_alloc|apply Kd.R_drewN|apply Kd.R_drew));exact HO_3.out⟩,⟨by repeat (first|(with_reducible first|exact HB.out|apply bwa|apply pbN|apply bw1)|exact HB.out)⟩⟩
/-! ### laws_toItem: function 27 -/
def laws_toItem.f (a0_0:ByteArray) (a0_1:Int) (a0_2:Int) (a0_3:ByteArray):Option (ByteArray × Int × Int × ByteArray):=some (a0_0,a0_1,a0_2,a0_3)
set_option maxHeartbeats 8000000 in
set_option maxRecDepth 100000 in
theorem laws_toItem.calls (a0_0:ByteArray) (a0_1:Int) (a0_2:Int) (a0_3:ByteArray) (r1:ByteArray) (r2:Int) (r3:Int) (r4:ByteArray) (w:World) (h:laws_toItem.f a0_0 a0_1 a0_2 a0_3=some (r1,r2,r3,r4)) :
    Calls Tryd.prog 27 #[.agg #[.string a0_0,.int .i64 a0_1,.int .i64 a0_2,.string a0_3]] w fun e w'=>e = .returned (.agg #[.string r1,.int .i64 r2,.int .i64 r3,.string r4])∧Below w.heap.size w w':=by
 have hu51:=Tryd.underlying51
 have hu28:=Tryd.underlying28
 have HB:=AsZ.mk (Below.refl w.heap.size w)
 have H:(some (a0_0,a0_1,a0_2,a0_3))=some (r1,r2,r3,r4):=h
 clear h
 simp only [Option.some.injEq,Prod.mk.injEq] at H
 obtain ⟨rfl,rfl,rfl,rfl⟩:=H
 go_enter Tryd.func27,Tryd.ntmps27
 go_wp2_with (first|((with_reducible refine gate_dst (N:=1) rfl ?_);refine box_event ?hg (N:=1) ?hd (cs:=#[.string a0_0,.int .i64 a0_1,.int .i64 a0_2,.string a0_3]) (t:=51) ?hr ?_;(case hd=>rfl);(case hg=>rfl);(case hr=>first|(go_simp;done)|(go_simp;rfl));intro gb251 hg w2 hbox hb;have n0_:=AsZ.mk (bwp (by repeat (first|(with_reducible first|exact HB.out|apply bwa|apply pbN|apply bw1)|exact HB.out)) hb);have n1_:=AsZ.mk (hbox);have n2_:=AsZ.mk ((by rw [hg];exact (bwz (by repeat (first|(with_reducible first|exact HB.out|apply bwa|apply pbN|apply bw1)|exact HB.out))):w.heap.size≤gb251));have n3_:=AsZ.mk ((by rw [hg];exact (bwz (by repeat (first|(with_reducible first|exact HB.out|apply bwa|apply pbN|apply bw1)|exact HB.out))):w.heap.size≤gb251));clear HB;have HB:=n0_;have BK251:=n1_;have GW251:=n2_;have GE251:=n3_;clear n0_ n1_ n2_ n3_;clear hb hbox hg)|((with_reducible refine gate_dst (N:=2) rfl ?_);refine box_event ?hg (N:=2) ?hd (cs:=#[.string (⟨#[]⟩:ByteArray),.int .i64 0,.int .i64 0,.string (⟨#[]⟩:ByteArray)]) (t:=28) ?hr ?_;(case hd=>rfl);(case hg=>rfl);(case hr=>first|(go_simp;done)|(go_simp;rfl));intro gb252 hg w3 hbox hb;have n0_:=AsZ.mk (kb (g:=gb251) (o := .cells #[.string a0_0,.int .i64 a0_1,.int .i64 a0_2,.string a0_3] 51 (0,0)) (by (with_reducible repeat (first|refine kdN ?_ _|refine kd ?_|refine ka ?_ _));exact BK251.out) hb);have n1_:=AsZ.mk (bwp (by repeat (first|(with_reducible first|exact HB.out|apply bwa|apply pbN|apply bw1|refine bws ?_ GE251.out)|exact HB.out)) hb);have n2_:=AsZ.mk (hbox);have n3_:=AsZ.mk ((by rw [hg];exact (bwz (by repeat (first|(with_reducible first|exact HB.out|apply bwa|apply pbN|apply bw1|refine bws ?_ GE251.out)|exact HB.out))):w.heap.size≤gb252));have n4_:=AsZ.mk ((by rw [hg];exact (bwz (by repeat (first|(with_reducible first|exact HB.out|apply bwa|apply pbN|apply bw1|refine bws ?_ GE251.out)|exact HB.out))):w.heap.size≤gb252));have n5_:=AsZ.mk ((by rw [hg];exact Nat.ne_of_lt (blk_lt (g:=gb251) (o := .cells #[.string a0_0,.int .i64 a0_1,.int .i64 a0_2,.string a0_3] 51 (0,0)) (by (with_reducible repeat (first|refine kdN ?_ _|refine kd ?_|refine ka ?_ _));exact BK251.out)):gb251 ≠ gb252));have n6_:=AsZ.mk ((by rw [hg];exact Nat.ne_of_gt (blk_lt (g:=gb251) (o := .cells #[.string a0_0,.int .i64 a0_1,.int .i64 a0_2,.string a0_3] 51 (0,0)) (by (with_reducible repeat (first|refine kdN ?_ _|refine kd ?_|refine ka ?_ _));exact BK251.out)):gb252 ≠ gb251));clear BK251;clear HB;have BK251:=n0_;have HB:=n1_;have BK252:=n2_;have GW252:=n3_;have GE252:=n4_;have NB251_252:=n5_;have NB252_251:=n6_;clear n0_ n1_ n2_ n3_ n4_ n5_ n6_;clear hb hbox hg)|((with_reducible refine gate_dst (N:=3) rfl ?_);refine box_event ?hg (N:=3) ?hd (cs:=#[.string (⟨#[]⟩:ByteArray),.int .i64 0,.int .i64 0,.string (⟨#[]⟩:ByteArray)]) (t:=28) ?hr ?_;(case hd=>rfl);(case hg=>rfl);(case hr=>first|(go_simp;done)|(go_simp;rfl));intro gb253 hg w4 hbox hb;have n0_:=AsZ.mk (kb (g:=gb251) (o := .cells #[.string a0_0,.int .i64 a0_1,.int .i64 a0_2,.string a0_3] 51 (0,0)) (by (with_reducible repeat (first|refine kdN ?_ _|refine kd ?_|refine ka ?_ _));exact BK251.out) hb);have n1_:=AsZ.mk (kb (g:=gb252) (o := .cells #[.string (⟨#[]⟩:ByteArray),.int .i64 0,.int .i64 0,.string (⟨#[]⟩:ByteArray)] 28 (0,0)) (by (with_reducible repeat (first|refine kdN ?_ _|refine kd ?_|refine ka ?_ _));exact BK252.out) hb);have n2_:=AsZ.mk (bwp (by repeat (first|(with_reducible first|exact HB.out|apply bwa|apply pbN|apply bw1|refine bws ?_ GE251.out|refine bws ?_ GE252.out)|exact HB.out)) hb);have n3_:=AsZ.mk (hbox);have n4_:=AsZ.mk ((by rw [hg];exact (bwz (by repeat (first|(with_reducible first|exact HB.out|apply bwa|apply pbN|apply bw1|refine bws ?_ GE251.out|refine bws ?_ GE252.out)|exact HB.out))):w.heap.size≤gb253));have n5_:=AsZ.mk ((by rw [hg];exact (bwz (by repeat (first|(with_reducible first|exact HB.out|apply bwa|apply pbN|apply bw1|refine bws ?_ GE251.out|refine bws ?_ GE252.out)|exact HB.out))):w.heap.size≤gb253));have n6_:=AsZ.mk ((by rw [hg];exact Nat.ne_of_lt (blk_lt (g:=gb251) (o := .cells #[.string a0_0,.int .i64 a0_1,.int .i64 a0_2,.string a0_3] 51 (0,0)) (by (with_reducible repeat (first|refine kdN ?_ _|refine kd ?_|refine ka ?_ _));exact BK251.out)):gb251 ≠ gb253));have n7_:=AsZ.mk ((by rw [hg];exact Nat.ne_of_gt (blk_lt (g:=gb251) (o := .cells #[.string a0_0,.int .i64 a0_1,.int .i64 a0_2,.string a0_3] 51 (0,0)) (by (with_reducible repeat (first|refine kdN ?_ _|refine kd ?_|refine ka ?_ _));exact BK251.out)):gb253 ≠ gb251));have n8_:=AsZ.mk ((by rw [hg];exact Nat.ne_of_lt (blk_lt (g:=gb252) (o := .cells #[.string (⟨#[]⟩:ByteArray),.int .i64 0,.int .i64 0,.string (⟨#[]⟩:ByteArray)] 28 (0,0)) (by (with_reducible repeat (first|refine kdN ?_ _|refine kd ?_|refine ka ?_ _));exact BK252.out)):gb252 ≠ gb253));have n9_:=AsZ.mk ((by rw [hg];exact Nat.ne_of_gt (blk_lt (g:=gb252) (o := .cells #[.string (⟨#[]⟩:ByteArray),.int .i64 0,.int .i64 0,.string (⟨#[]⟩:ByteArray)] 28 (0,0)) (by (with_reducible repeat (first|refine kdN ?_ _|refine kd ?_|refine ka ?_ _));exact BK252.out)):gb253 ≠ gb252));clear BK251;clear BK252;clear HB;have BK251:=n0_;have BK252:=n1_;have HB:=n2_;have BK253:=n3_;have GW253:=n4_;have GE253:=n5_;have NB251_253:=n6_;have NB253_251:=n7_;have NB252_253:=n8_;have NB253_252:=n9_;clear n0_ n1_ n2_ n3_ n4_ n5_ n6_ n7_ n8_ n9_;clear hb hbox hg;have hnb5:=NB251_252.out;have hnc5:=NB252_251.out;have hnb6:=NB251_253.out;have hnc6:=NB253_251.out;have hcz7_0:w4.cell? ⟨gb251,0,none⟩=some (.string a0_0):=(kc BK251.out 0).trans rfl;have hcz7_1:w4.cell? ⟨gb251,1,none⟩=some (.int .i64 a0_1):=(kc BK251.out 1).trans rfl;have hcz7_2:w4.cell? ⟨gb251,2,none⟩=some (.int .i64 a0_2):=(kc BK251.out 2).trans rfl;have hcz7_3:w4.cell? ⟨gb251,3,none⟩=some (.string a0_3):=(kc BK251.out 3).trans rfl;have hfz7_0:=kf BK251.out 0;have hfz7_1:=kf BK251.out 1;have hfz7_2:=kf BK251.out 2;have hfz7_3:=kf BK251.out 3;have hnb8:=NB253_252.out;have hnc8:=NB252_253.out;have hcz9_0:w4.cell? ⟨gb253,0,none⟩=some (.string (⟨#[]⟩:ByteArray)):=(kc BK253.out 0).trans rfl;have hcz9_1:w4.cell? ⟨gb253,1,none⟩=some (.int .i64 0):=(kc BK253.out 1).trans rfl;have hcz9_2:w4.cell? ⟨gb253,2,none⟩=some (.int .i64 0):=(kc BK253.out 2).trans rfl;have hcz9_3:w4.cell? ⟨gb253,3,none⟩=some (.string (⟨#[]⟩:ByteArray)):=(kc BK253.out 3).trans rfl;have hfz9_0:=kf BK253.out 0;have hfz9_1:=kf BK253.out 1;have hfz9_2:=kf BK253.out 2;have hfz9_3:=kf BK253.out 3;have hcz10_0:w4.cell? ⟨gb252,0,none⟩=some (.string (⟨#[]⟩:ByteArray)):=(kc BK252.out 0).trans rfl;have hcz10_1:w4.cell? ⟨gb252,1,none⟩=some (.int .i64 0):=(kc BK252.out 1).trans rfl;have hcz10_2:w4.cell? ⟨gb252,2,none⟩=some (.int .i64 0):=(kc BK252.out 2).trans rfl;have hcz10_3:w4.cell? ⟨gb252,3,none⟩=some (.string (⟨#[]⟩:ByteArray)):=(kc BK252.out 3).trans rfl;have hfz10_0:=kf BK252.out 0;have hfz10_1:=kf BK252.out 1;have hfz10_2:=kf BK252.out 2;have hfz10_3:=kf BK252.out 3))
 refine bodyPost_ret (results_cell_row rfl _ _ gb252 28 #[.string a0_0,.int .i64 a0_1,.int .i64 a0_2,.string a0_3] (0,0) _ rfl (by (with_reducible repeat (first|refine kdN ?_ _|refine kd ?_|refine ka ?_ _));refine blk_put (cs:=#[.string a0_0,.int .i64 a0_1,.int .i64 a0_2,.string (⟨#[]⟩:ByteArray)]) ?_ 3 _ rfl;(with_reducible repeat (first|refine kdN ?_ _|refine kd ?_|refine ka ?_ _));refine blk_put (cs:=#[.string a0_0,.int .i64 a0_1,.int .i64 0,.string (⟨#[]⟩:ByteArray)]) ?_ 2 _ rfl;(with_reducible repeat (first|refine kdN ?_ _|refine kd ?_|refine ka ?_ _));refine blk_put (cs:=#[.string a0_0,.int .i64 0,.int .i64 0,.string (⟨#[]⟩:ByteArray)]) ?_ 1 _ rfl;(with_reducible repeat (first|refine kdN ?_ _|refine kd ?_|refine ka ?_ _));refine blk_put (cs:=#[.string (⟨#[]⟩:ByteArray),.int .i64 0,.int .i64 0,.string (⟨#[]⟩:ByteArray)]) ?_ 0 _ rfl;(with_reducible repeat (first|refine kdN ?_ _|refine kd ?_|refine ka ?_ _));refine blk_far ?_ NB252_253.out _;(with_reducible repeat (first|refine kdN ?_ _|refine kd ?_|refine ka ?_ _));refine blk_far ?_ NB252_253.out _;(with_reducible repeat (first|refine kdN ?_ _|refine kd ?_|refine ka ?_ _));refine blk_far ?_ NB252_253.out _;(with_reducible repeat (first|refine kdN ?_ _|refine kd ?_|refine ka ?_ _));refine blk_far ?_ NB252_253.out _;(with_reducible repeat (first|refine kdN ?_ _|refine kd ?_|refine ka ?_ _));exact BK252.out) Tryd.underlying28 rfl (by kernel_rfl)) rfl ?_
 exact ⟨by first|rfl|(simp [errW_none,errW_some]<;>rfl)|(simp [*,errW_none,errW_some]<;>rfl),by repeat (first|(with_reducible first|exact HB.out|apply bwa|apply pbN|apply bw1|refine bws ?_ GE251.out|refine bws ?_ GE252.out|refine bws ?_ GE253.out)|exact HB.out)⟩
/-! ### laws_toTower: function 91 -/
def laws_toTower.f (k:Nat) (a0_0:ByteArray) (a0_1:Int) (a0_2:Int) (a0_3:ByteArray) (l0_4:List Int):Option (ByteArray × Int × Int × ByteArray × List Int):=(laws_toItem.f a0_0 a0_1 a0_2 a0_3).bind fun bt257=>((laws_toIntS.f k l0_4).bind fun t261=>(some (bt257.1,bt257.2.1,bt257.2.2.1,bt257.2.2.2,t261)))
theorem laws_toTower.mono:∀ a0 a1 a2 a3 a4 k,LeO (laws_toTower.f k a0 a1 a2 a3 a4) (laws_toTower.f (k + 1) a0 a1 a2 a3 a4):=by
  intro a0 a1 a2 a3 a4 k
  unfold laws_toTower.f
  repeat' first
      |(with_reducible exact laws_toIntS.mono _ _)
      |(with_reducible exact LeO.refl _)
      |(with_reducible exact LeO.none _)
      |(with_reducible refine LeO.ite ?_ ?_)
      |(with_reducible refine LeO.bind ?_ (fun _=>?_))
      |exact laws_toIntS.mono _ _
      |exact LeO.none _
      |refine LeO.ite ?_ ?_
      |refine LeO.bind ?_ (fun _=>?_)
set_option maxHeartbeats 8000000 in
set_option maxRecDepth 100000 in
theorem laws_toTower.calls (k:Nat) (a0_0:ByteArray) (a0_1:Int) (a0_2:Int) (a0_3:ByteArray) (A0_4:Option Addr) (c0_4:Nat) (l0_4:List Int) (r1:ByteArray) (r2:Int) (r3:Int) (r4:ByteArray) (r5:List Int) (w:World) (hr0_4:Kd.C (Kd.int .i64) w A0_4 l0_4.length l0_4) (hc0_4:l0_4.length≤c0_4) (h:laws_toTower.f k a0_0 a0_1 a0_2 a0_3 l0_4=some (r1,r2,r3,r4,r5)) :
    Calls Tryd.prog 91 #[.agg #[.string a0_0,.int .i64 a0_1,.int .i64 a0_2,.string a0_3,.slice A0_4 l0_4.length c0_4]] w fun e w' => ∃ v4_:Value,e = .returned (.agg #[.string r1,.int .i64 r2,.int .i64 r3,.string r4,v4_])∧Kd.R (Kd.int .i64) 3 w' w.heap.size (fun _=>True) v4_ r5∧Below w.heap.size w w':=by
 have hu113:=Tryd.underlying113
 have hu77:=Tryd.underlying77
 have hu51:=Tryd.underlying51
 have hu28:=Tryd.underlying28
 have HR0_4:=AsZ.mk hr0_4
 have HC0_4:=AsZ.mk hc0_4
 clear hr0_4 hc0_4
 have HB:=AsZ.mk (Below.refl w.heap.size w)
 have H:((laws_toItem.f a0_0 a0_1 a0_2 a0_3).bind fun bt257=>((laws_toIntS.f k l0_4).bind fun t261=>(some (bt257.1,bt257.2.1,bt257.2.2.1,bt257.2.2.2,t261))))=some (r1,r2,r3,r4,r5):=h
 clear h
 replace H:=Option.bind_eq_some_iff.mp H
 obtain ⟨⟨t257,t258,t259,t260⟩,A20,H⟩:=H
 replace H:((laws_toIntS.f k l0_4).bind fun t261=>(some (t257,t258,t259,t260,t261)))=some (r1,r2,r3,r4,r5):=H
 have A2:=AsZ.mk A20
 clear A20
 replace H:=Option.bind_eq_some_iff.mp H
 obtain ⟨t261,A30,H⟩:=H
 replace H:(some (t257,t258,t259,t260,t261))=some (r1,r2,r3,r4,r5):=H
 have A3:=AsZ.mk A30
 clear A30
 simp only [Option.some.injEq,Prod.mk.injEq] at H
 obtain ⟨rfl,rfl,rfl,rfl,rfl⟩:=H
 go_enter Tryd.func91,Tryd.ntmps91
 go_wp2_with (first|((with_reducible refine gate_dst (N:=1) rfl ?_);refine box_event ?hg (N:=1) ?hd (cs:=#[.string a0_0,.int .i64 a0_1,.int .i64 a0_2,.string a0_3,.slice A0_4 l0_4.length c0_4]) (t:=113) ?hr ?_;(case hd=>rfl);(case hg=>rfl);(case hr=>first|(go_simp;done)|(go_simp;rfl));intro gb254 hg w4 hbox hb;have n0_:=AsZ.mk (bwp (by repeat (first|(with_reducible first|exact HB.out|apply bwa|apply pbN|apply bw1)|exact HB.out)) hb);have n1_:=AsZ.mk (hbox);have n2_:=AsZ.mk ((by rw [hg];exact (bwz (by repeat (first|(with_reducible first|exact HB.out|apply bwa|apply pbN|apply bw1)|exact HB.out))):w.heap.size≤gb254));have n3_:=AsZ.mk ((by rw [hg];exact (bwz (by repeat (first|(with_reducible first|exact HB.out|apply bwa|apply pbN|apply bw1)|exact HB.out))):w.heap.size≤gb254));clear HB;have HB:=n0_;have BK254:=n1_;have GW254:=n2_;have GE254:=n3_;clear n0_ n1_ n2_ n3_;clear hb hbox hg)|((with_reducible refine gate_dst (N:=2) rfl ?_);refine box_event ?hg (N:=2) ?hd (cs:=#[.string (⟨#[]⟩:ByteArray),.int .i64 0,.int .i64 0,.string (⟨#[]⟩:ByteArray),.slice none 0 0]) (t:=77) ?hr ?_;(case hd=>rfl);(case hg=>rfl);(case hr=>first|(go_simp;done)|(go_simp;rfl));intro gb255 hg w5 hbox hb;have n0_:=AsZ.mk (kb (g:=gb254) (o := .cells #[.string a0_0,.int .i64 a0_1,.int .i64 a0_2,.string a0_3,.slice A0_4 l0_4.length c0_4] 113 (0,0)) (by (with_reducible repeat (first|refine kdN ?_ _|refine kd ?_|refine ka ?_ _));exact BK254.out) hb);have n1_:=AsZ.mk (bwp (by repeat (first|(with_reducible first|exact HB.out|apply bwa|apply pbN|apply bw1|refine bws ?_ GE254.out)|exact HB.out)) hb);have n2_:=AsZ.mk (hbox);have n3_:=AsZ.mk ((by rw [hg];exact (bwz (by repeat (first|(with_reducible first|exact HB.out|apply bwa|apply pbN|apply bw1|refine bws ?_ GE254.out)|exact HB.out))):w.heap.size≤gb255));have n4_:=AsZ.mk ((by rw [hg];exact (bwz (by repeat (first|(with_reducible first|exact HB.out|apply bwa|apply pbN|apply bw1|refine bws ?_ GE254.out)|exact HB.out))):w.heap.size≤gb255));have n5_:=AsZ.mk ((by rw [hg];exact Nat.ne_of_lt (blk_lt (g:=gb254) (o := .cells #[.string a0_0,.int .i64 a0_1,.int .i64 a0_2,.string a0_3,.slice A0_4 l0_4.length c0_4] 113 (0,0)) (by (with_reducible repeat (first|refine kdN ?_ _|refine kd ?_|refine ka ?_ _));exact BK254.out)):gb254 ≠ gb255));have n6_:=AsZ.mk ((by rw [hg];exact Nat.ne_of_gt (blk_lt (g:=gb254) (o := .cells #[.string a0_0,.int .i64 a0_1,.int .i64 a0_2,.string a0_3,.slice A0_4 l0_4.length c0_4] 113 (0,0)) (by (with_reducible repeat (first|refine kdN ?_ _|refine kd ?_|refine ka ?_ _));exact BK254.out)):gb255 ≠ gb254));clear BK254;clear HB;have BK254:=n0_;have HB:=n1_;have BK255:=n2_;have GW255:=n3_;have GE255:=n4_;have NB254_255:=n5_;have NB255_254:=n6_;clear n0_ n1_ n2_ n3_ n4_ n5_ n6_;clear hb hbox hg)|((with_reducible refine gate_dst (N:=3) rfl ?_);refine box_event ?hg (N:=3) ?hd (cs:=#[.string (⟨#[]⟩:ByteArray),.int .i64 0,.int .i64 0,.string (⟨#[]⟩:ByteArray),.slice none 0 0]) (t:=77) ?hr ?_;(case hd=>rfl);(case hg=>rfl);(case hr=>first|(go_simp;done)|(go_simp;rfl));intro gb256 hg w6 hbox hb;have n0_:=AsZ.mk (kb (g:=gb254) (o := .cells #[.string a0_0,.int .i64 a0_1,.int .i64 a0_2,.string a0_3,.slice A0_4 l0_4.length c0_4] 113 (0,0)) (by (with_reducible repeat (first|refine kdN ?_ _|refine kd ?_|refine ka ?_ _));exact BK254.out) hb);have n1_:=AsZ.mk (kb (g:=gb255) (o := .cells #[.string (⟨#[]⟩:ByteArray),.int .i64 0,.int .i64 0,.string (⟨#[]⟩:ByteArray),.slice none 0 0] 77 (0,0)) (by (with_reducible repeat (first|refine kdN ?_ _|refine kd ?_|refine ka ?_ _));exact BK255.out) hb);have n2_:=AsZ.mk (bwp (by repeat (first|(with_reducible first|exact HB.out|apply bwa|apply pbN|apply bw1|refine bws ?_ GE254.out|refine bws ?_ GE255.out)|exact HB.out)) hb);have n3_:=AsZ.mk (hbox);have n4_:=AsZ.mk ((by rw [hg];exact (bwz (by repeat (first|(with_reducible first|exact HB.out|apply bwa|apply pbN|apply bw1|refine bws ?_ GE254.out|refine bws ?_ GE255.out)|exact HB.out))):w.heap.size≤gb256));have n5_:=AsZ.mk ((by rw [hg];exact (bwz (by repeat (first|(with_reducible first|exact HB.out|apply bwa|apply pbN|apply bw1|refine bws ?_ GE254.out|refine bws ?_ GE255.out)|exact HB.out))):w.heap.size≤gb256));have n6_:=AsZ.mk ((by rw [hg];exact Nat.ne_of_lt (blk_lt (g:=gb254) (o := .cells #[.string a0_0,.int .i64 a0_1,.int .i64 a0_2,.string a0_3,.slice A0_4 l0_4.length c0_4] 113 (0,0)) (by (with_reducible repeat (first|refine kdN ?_ _|refine kd ?_|refine ka ?_ _));exact BK254.out)):gb254 ≠ gb256));have n7_:=AsZ.mk ((by rw [hg];exact Nat.ne_of_gt (blk_lt (g:=gb254) (o := .cells #[.string a0_0,.int .i64 a0_1,.int .i64 a0_2,.string a0_3,.slice A0_4 l0_4.length c0_4] 113 (0,0)) (by (with_reducible repeat (first|refine kdN ?_ _|refine kd ?_|refine ka ?_ _));exact BK254.out)):gb256 ≠ gb254));have n8_:=AsZ.mk ((by rw [hg];exact Nat.ne_of_lt (blk_lt (g:=gb255) (o := .cells #[.string (⟨#[]⟩:ByteArray),.int .i64 0,.int .i64 0,.string (⟨#[]⟩:ByteArray),.slice none 0 0] 77 (0,0)) (by (with_reducible repeat (first|refine kdN ?_ _|refine kd ?_|refine ka ?_ _));exact BK255.out)):gb255 ≠ gb256));have n9_:=AsZ.mk ((by rw [hg];exact Nat.ne_of_gt (blk_lt (g:=gb255) (o := .cells #[.string (⟨#[]⟩:ByteArray),.int .i64 0,.int .i64 0,.string (⟨#[]⟩:ByteArray),.slice none 0 0] 77 (0,0)) (by (with_reducible repeat (first|refine kdN ?_ _|refine kd ?_|refine ka ?_ _));exact BK255.out)):gb256 ≠ gb255));clear BK254;clear BK255;clear HB;have BK254:=n0_;have BK255:=n1_;have HB:=n2_;have BK256:=n3_;have GW256:=n4_;have GE256:=n5_;have NB254_256:=n6_;have NB256_254:=n7_;have NB255_256:=n8_;have NB256_255:=n9_;clear n0_ n1_ n2_ n3_ n4_ n5_ n6_ n7_ n8_ n9_;clear hb hbox hg;have hnb7:=NB254_255.out;have hnc7:=NB255_254.out;have hnb8:=NB254_256.out;have hnc8:=NB256_254.out;have hcz9_0:w6.cell? ⟨gb254,0,none⟩=some (.string a0_0):=(kc BK254.out 0).trans rfl;have hcz9_1:w6.cell? ⟨gb254,1,none⟩=some (.int .i64 a0_1):=(kc BK254.out 1).trans rfl;have hcz9_2:w6.cell? ⟨gb254,2,none⟩=some (.int .i64 a0_2):=(kc BK254.out 2).trans rfl;have hcz9_3:w6.cell? ⟨gb254,3,none⟩=some (.string a0_3):=(kc BK254.out 3).trans rfl;have hcz9_4:w6.cell? ⟨gb254,4,none⟩=some (.slice A0_4 l0_4.length c0_4):=(kc BK254.out 4).trans rfl;have hfz9_0:=kf BK254.out 0;have hfz9_1:=kf BK254.out 1;have hfz9_2:=kf BK254.out 2;have hfz9_3:=kf BK254.out 3;have hfz9_4:=kf BK254.out 4)|((with_reducible refine gcl (f:=27) rfl ?_);refine goesL_ (some 6) rfl rfl Tryd.func27 (by kernel_rfl) rfl #[.agg #[.string a0_0,.int .i64 a0_1,.int .i64 a0_2,.string a0_3]] rfl (by (try simp only [zA,zC,zN]);first|done|rfl|(simp only [zM,zL];rfl)) ?_;(with_reducible refine (laws_toItem.calls a0_0 a0_1 a0_2 a0_3 t257 t258 t259 t260 _ A2.out).mono ?_);rintro e w10 ⟨rfl,hb⟩;refine ⟨_,rfl,?_⟩;have n0_:=AsZ.mk (kb (g:=gb254) (o := .cells #[.string a0_0,.int .i64 a0_1,.int .i64 a0_2,.string a0_3,.slice A0_4 l0_4.length c0_4] 113 (0,0)) (by (with_reducible repeat (first|refine kdN ?_ _|refine kd ?_|refine ka ?_ _));exact BK254.out) hb);have n1_:=AsZ.mk (kb (g:=gb255) (o := .cells #[.string (⟨#[]⟩:ByteArray),.int .i64 0,.int .i64 0,.string (⟨#[]⟩:ByteArray),.slice none 0 0] 77 (0,0)) (by (with_reducible repeat (first|refine kdN ?_ _|refine kd ?_|refine ka ?_ _));exact BK255.out) hb);have n2_:=AsZ.mk (kb (g:=gb256) (o := .cells #[.string (⟨#[]⟩:ByteArray),.int .i64 0,.int .i64 0,.string (⟨#[]⟩:ByteArray),.slice none 0 0] 77 (0,0)) (by (with_reducible repeat (first|refine kdN ?_ _|refine kd ?_|refine ka ?_ _));exact BK256.out) hb);have n3_:=AsZ.mk (bwp (by repeat (first|(with_reducible first|exact HB.out|apply bwa|apply pbN|apply bw1|refine bws ?_ GE254.out|refine bws ?_ GE255.out|refine bws ?_ GE256.out)|exact HB.out)) hb);clear BK254;clear BK255;clear BK256;clear HB;have BK254:=n0_;have BK255:=n1_;have BK256:=n2_;have HB:=n3_;clear n0_ n1_ n2_ n3_;(try clear hb);(try clear hb2);(try clear hk);(try clear hi);have hnb11:=NB256_255.out;have hnc11:=NB255_256.out;have hcz12_0:w10.cell? ⟨gb256,0,none⟩=some (.string (⟨#[]⟩:ByteArray)):=(kc BK256.out 0).trans rfl;have hcz12_1:w10.cell? ⟨gb256,1,none⟩=some (.int .i64 0):=(kc BK256.out 1).trans rfl;have hcz12_2:w10.cell? ⟨gb256,2,none⟩=some (.int .i64 0):=(kc BK256.out 2).trans rfl;have hcz12_3:w10.cell? ⟨gb256,3,none⟩=some (.string (⟨#[]⟩:ByteArray)):=(kc BK256.out 3).trans rfl;have hcz12_4:w10.cell? ⟨gb256,4,none⟩=some (.slice none 0 0):=(kc BK256.out 4).trans rfl;have hfz12_0:=kf BK256.out 0;have hfz12_1:=kf BK256.out 1;have hfz12_2:=kf BK256.out 2;have hfz12_3:=kf BK256.out 3;have hfz12_4:=kf BK256.out 4;have hcz13_0:w10.cell? ⟨gb254,0,none⟩=some (.string a0_0):=(kc BK254.out 0).trans rfl;have hcz13_1:w10.cell? ⟨gb254,1,none⟩=some (.int .i64 a0_1):=(kc BK254.out 1).trans rfl;have hcz13_2:w10.cell? ⟨gb254,2,none⟩=some (.int .i64 a0_2):=(kc BK254.out 2).trans rfl;have hcz13_3:w10.cell? ⟨gb254,3,none⟩=some (.string a0_3):=(kc BK254.out 3).trans rfl;have hcz13_4:w10.cell? ⟨gb254,4,none⟩=some (.slice A0_4 l0_4.length c0_4):=(kc BK254.out 4).trans rfl;have hfz13_0:=kf BK254.out 0;have hfz13_1:=kf BK254.out 1;have hfz13_2:=kf BK254.out 2;have hfz13_3:=kf BK254.out 3;have hfz13_4:=kf BK254.out 4)|((with_reducible refine gcl (f:=61) rfl ?_);refine goesL_ (some 10) rfl rfl Tryd.func61 (by kernel_rfl) rfl #[.slice A0_4 l0_4.length c0_4] rfl (by (try simp only [zA,zC,zN]);first|done|rfl|(simp only [zM,zL];rfl)) ?_;(with_reducible refine (laws_toIntS.calls k _ _ l0_4 t261 _ ?side1 ?side2 A3.out).mono ?_);(case side1=>exact Kd.C_below HR0_4.out (by repeat (first|(with_reducible first|exact HB.out|apply bwa|apply pbN|apply bw1|refine bws ?_ GE254.out|refine bws ?_ GE255.out|refine bws ?_ GE256.out)|exact HB.out)));(case side2=>exact HC0_4.out);rintro e w14 ⟨v262,rfl,ho0,hb⟩;refine ⟨_,rfl,?_⟩;have n0_:=AsZ.mk (Kd.R_lower ho0 (bwz (by repeat (first|(with_reducible first|exact HB.out|apply bwa|apply pbN|apply bw1|refine bws ?_ GE254.out|refine bws ?_ GE255.out|refine bws ?_ GE256.out)|exact HB.out))));have n1_:=AsZ.mk (kb (g:=gb254) (o := .cells #[.string a0_0,.int .i64 a0_1,.int .i64 a0_2,.string a0_3,.slice A0_4 l0_4.length c0_4] 113 (0,0)) (by (with_reducible repeat (first|refine kdN ?_ _|refine kd ?_|refine ka ?_ _));refine blk_far ?_ NB254_256.out _;(with_reducible repeat (first|refine kdN ?_ _|refine kd ?_|refine ka ?_ _));refine blk_far ?_ NB254_256.out _;(with_reducible repeat (first|refine kdN ?_ _|refine kd ?_|refine ka ?_ _));refine blk_far ?_ NB254_256.out _;(with_reducible repeat (first|refine kdN ?_ _|refine kd ?_|refine ka ?_ _));refine blk_far ?_ NB254_256.out _;(with_reducible repeat (first|refine kdN ?_ _|refine kd ?_|refine ka ?_ _));exact BK254.out) hb);have n2_:=AsZ.mk (kb (g:=gb255) (o := .cells #[.string (⟨#[]⟩:ByteArray),.int .i64 0,.int .i64 0,.string (⟨#[]⟩:ByteArray),.slice none 0 0] 77 (0,0)) (by (with_reducible repeat (first|refine kdN ?_ _|refine kd ?_|refine ka ?_ _));refine blk_far ?_ NB255_256.out _;(with_reducible repeat (first|refine kdN ?_ _|refine kd ?_|refine ka ?_ _));refine blk_far ?_ NB255_256.out _;(with_reducible repeat (first|refine kdN ?_ _|refine kd ?_|refine ka ?_ _));refine blk_far ?_ NB255_256.out _;(with_reducible repeat (first|refine kdN ?_ _|refine kd ?_|refine ka ?_ _));refine blk_far ?_ NB255_256.out _;(with_reducible repeat (first|refine kdN ?_ _|refine kd ?_|refine ka ?_ _));exact BK255.out) hb);have n3_:=AsZ.mk (kb (g:=gb256) (o := .cells #[.string t257,.int .i64 t258,.int .i64 t259,.string t260,.slice none 0 0] 77 (0,0)) (by (with_reducible repeat (first|refine kdN ?_ _|refine kd ?_|refine ka ?_ _));refine blk_put (cs:=#[.string t257,.int .i64 t258,.int .i64 t259,.string (⟨#[]⟩:ByteArray),.slice none 0 0]) ?_ 3 _ rfl;(with_reducible repeat (first|refine kdN ?_ _|refine kd ?_|refine ka ?_ _));refine blk_put (cs:=#[.string t257,.int .i64 t258,.int .i64 0,.string (⟨#[]⟩:ByteArray),.slice none 0 0]) ?_ 2 _ rfl;(with_reducible repeat (first|refine kdN ?_ _|refine kd ?_|refine ka ?_ _));refine blk_put (cs:=#[.string t257,.int .i64 0,.int .i64 0,.string (⟨#[]⟩:ByteArray),.slice none 0 0]) ?_ 1 _ rfl;(with_reducible repeat (first|refine kdN ?_ _|refine kd ?_|refine ka ?_ _));refine blk_put (cs:=#[.string (⟨#[]⟩:ByteArray),.int .i64 0,.int .i64 0,.string (⟨#[]⟩:ByteArray),.slice none 0 0]) ?_ 0 _ rfl;(with_reducible repeat (first|refine kdN ?_ _|refine kd ?_|refine ka ?_ _));exact BK256.out) hb);have n4_:=AsZ.mk (bwp (by repeat (first|(with_reducible first|exact HB.out|apply bwa|apply pbN|apply bw1|refine bws ?_ GE254.out|refine bws ?_ GE255.out|refine bws ?_ GE256.out)|exact HB.out)) hb);clear BK254;clear BK255;clear BK256;clear HB;have HO263:=n0_;have BK254:=n1_;have BK255:=n2_;have BK256:=n3_;have HB:=n4_;clear n0_ n1_ n2_ n3_ n4_;(try clear hb);(try clear hb2);(try clear hk);(try clear hi);(try clear ho0);obtain ⟨Ao15,co15,eo15⟩:=Kd.R_slice HO263.out;subst eo15;have hcz16_0:w14.cell? ⟨gb256,0,none⟩=some (.string t257):=(kc BK256.out 0).trans rfl;have hcz16_1:w14.cell? ⟨gb256,1,none⟩=some (.int .i64 t258):=(kc BK256.out 1).trans rfl;have hcz16_2:w14.cell? ⟨gb256,2,none⟩=some (.int .i64 t259):=(kc BK256.out 2).trans rfl;have hcz16_3:w14.cell? ⟨gb256,3,none⟩=some (.string t260):=(kc BK256.out 3).trans rfl;have hcz16_4:w14.cell? ⟨gb256,4,none⟩=some (.slice none 0 0):=(kc BK256.out 4).trans rfl;have hfz16_0:=kf BK256.out 0;have hfz16_1:=kf BK256.out 1;have hfz16_2:=kf BK256.out 2;have hfz16_3:=kf BK256.out 3;have hfz16_4:=kf BK256.out 4;have hcz17_0:w14.cell? ⟨gb255,0,none⟩=some (.string (⟨#[]⟩:ByteArray)):=(kc BK255.out 0).trans rfl;have hcz17_1:w14.cell? ⟨gb255,1,none⟩=some (.int .i64 0):=(kc BK255.out 1).trans rfl;have hcz17_2:w14.cell? ⟨gb255,2,none⟩=some (.int .i64 0):=(kc BK255.out 2).trans rfl;have hcz17_3:w14.cell? ⟨gb255,3,none⟩=some (.string (⟨#[]⟩:ByteArray)):=(kc BK255.out 3).trans rfl;have hcz17_4:w14.cell? ⟨gb255,4,none⟩=some (.slice none 0 0):=(kc BK255.out 4).trans rfl;have hfz17_0:=kf BK255.out 0;have hfz17_1:=kf BK255.out 1;have hfz17_2:=kf BK255.out 2;have hfz17_3:=kf BK255.out 3;have hfz17_4:=kf BK255.out 4))
 refine bodyPost_ret (results_cell_row rfl _ _ gb255 77 #[.string t257,.int .i64 t258,.int .i64 t259,.string t260,.slice Ao15 t261.length co15] (0,0) _ rfl (by (with_reducible repeat (first|refine kdN ?_ _|refine kd ?_|refine ka ?_ _));refine blk_put (cs:=#[.string t257,.int .i64 t258,.int .i64 t259,.string t260,.slice none 0 0]) ?_ 4 _ rfl;(with_reducible repeat (first|refine kdN ?_ _|refine kd ?_|refine ka ?_ _));refine blk_put (cs:=#[.string t257,.int .i64 t258,.int .i64 t259,.string (⟨#[]⟩:ByteArray),.slice none 0 0]) ?_ 3 _ rfl;(with_reducible repeat (first|refine kdN ?_ _|refine kd ?_|refine ka ?_ _));refine blk_put (cs:=#[.string t257,.int .i64 t258,.int .i64 0,.string (⟨#[]⟩:ByteArray),.slice none 0 0]) ?_ 2 _ rfl;(with_reducible repeat (first|refine kdN ?_ _|refine kd ?_|refine ka ?_ _));refine blk_put (cs:=#[.string t257,.int .i64 0,.int .i64 0,.string (⟨#[]⟩:ByteArray),.slice none 0 0]) ?_ 1 _ rfl;(with_reducible repeat (first|refine kdN ?_ _|refine kd ?_|refine ka ?_ _));refine blk_put (cs:=#[.string (⟨#[]⟩:ByteArray),.int .i64 0,.int .i64 0,.string (⟨#[]⟩:ByteArray),.slice none 0 0]) ?_ 0 _ rfl;(with_reducible repeat (first|refine kdN ?_ _|refine kd ?_|refine ka ?_ _));refine blk_far ?_ NB255_256.out _;(with_reducible repeat (first|refine kdN ?_ _|refine kd ?_|refine ka ?_ _));exact BK255.out) Tryd.underlying77 rfl (by kernel_rfl)) rfl ?_
 exact ⟨_,by first|rfl|(simp [errW_none,errW_some]<;>rfl)|(simp [*,errW_none,errW_some]<;>rfl),by (with_reducible repeat (first|apply Kd.R_alloc|apply Kd.R_drewN|apply Kd.R_drew));exact Kd.R_mono (Kd.R_far (p:=⟨gb255,4,none⟩) (Kd.R_far (p:=⟨gb255,3,none⟩) (Kd.R_far (p:=⟨gb255,2,none⟩) (Kd.R_far (p:=⟨gb255,1,none⟩) (Kd.R_far (p:=⟨gb255,0,none⟩) (Kd.R_far (p:=⟨gb256,4,none⟩) (Kd.R_types (Kd.R_types HO263.out BK256.out (by decide)) BK255.out (by decide)) (fun _ hk=>hk.1.2) (.slice Ao15 t261.length co15)) (fun _ hk=>hk.2) (.string t257)) (fun _ hk=>hk.2) (.int .i64 t258)) (fun _ hk=>hk.2) (.int .i64 t259)) (fun _ hk=>hk.2) (.string t260)) (fun _ hk=>hk.2) (.slice Ao15 t261.length co15)) (fun _ hk=>trivial),by repeat (first|(with_reducible first|exact HB.out|apply bwa|apply pbN|apply bw1|refine bws ?_ GE254.out|refine bws ?_ GE255.out|refine bws ?_ GE256.out)|exact HB.out)⟩
/-! ### laws_toTowerS: function 62 -/
def laws_toTowerS.l0:Nat→List (S113)→List (S77)→Int→Option ((List (S77)))
  |0,_,_,_=>none
  |k + 1,x0,x3,x4=>if x4 < (x0.length:Int) then (if 0≤x4 then ((laws_toTower.f k ((rd_T113 x0 x4).f0.f0) ((rd_T113 x0 x4).f0.f1) ((rd_T113 x0 x4).f0.f2) ((rd_T113 x0 x4).f0.f3) ((rd_T113 x0 x4).f1)).bind fun bt268=>(if x4 < (x3.length:Int) then (laws_toTowerS.l0 k x0 (x3.set (x4:Int).toNat (⟨(⟨bt268.1,bt268.2.1,bt268.2.2.1,bt268.2.2.2.1⟩:S28),bt268.2.2.2.2⟩:S77)) (wrap64 (x4 + 1))) else (none))) else (none)) else (some x3)
def laws_toTowerS.f (k:Nat) (l0:List (S113)):Option ((List (S77))):=if 0≤(l0.length:Int) then (if ((l0.length:Int):Int).toNat≤3909374676536 then (laws_toTowerS.l0 k l0 (List.replicate ((l0.length:Int):Int).toNat z77) 0) else (none)) else (none)
theorem laws_toTowerS.mono_l:∀ k,(∀ y0 y1 y2,LeO (laws_toTowerS.l0 k y0 y1 y2) (laws_toTowerS.l0 (k + 1) y0 y1 y2))
  |0=>fun _ _ _ r h=>by simp [laws_toTowerS.l0] at h
  |k + 1=>by
    have ih0:=laws_toTowerS.mono_l k
    · intro y0 y1 y2
      unfold laws_toTowerS.l0
      repeat' first
      |(with_reducible exact ih0 _ _ _)
      |(with_reducible exact laws_toTower.mono _ _ _ _ _ _)
      |(with_reducible exact LeO.refl _)
      |(with_reducible exact LeO.none _)
      |(with_reducible refine LeO.ite ?_ ?_)
      |(with_reducible refine LeO.bind ?_ (fun _=>?_))
      |exact ih0 _ _ _
      |exact laws_toTower.mono _ _ _ _ _ _
      |exact LeO.none _
      |refine LeO.ite ?_ ?_
      |refine LeO.bind ?_ (fun _=>?_)
theorem laws_toTowerS.mono:∀ a0 k,LeO (laws_toTowerS.f k a0) (laws_toTowerS.f (k + 1) a0):=by
  intro a0 k
  have ih0:=laws_toTowerS.mono_l k
  unfold laws_toTowerS.f
  repeat' first
      |(with_reducible exact ih0 _ _ _)
      |(with_reducible exact laws_toTower.mono _ _ _ _ _ _)
      |(with_reducible exact LeO.refl _)
      |(with_reducible exact LeO.none _)
      |(with_reducible refine LeO.ite ?_ ?_)
      |(with_reducible refine LeO.bind ?_ (fun _=>?_))
      |exact ih0 _ _ _
      |exact laws_toTower.mono _ _ _ _ _ _
      |exact LeO.none _
      |refine LeO.ite ?_ ?_
      |refine LeO.bind ?_ (fun _=>?_)
set_option maxHeartbeats 8000000 in
set_option maxRecDepth 100000 in
theorem laws_toTowerS.calls (k:Nat) (A0:Option Addr) (c0:Nat) (l0:List (S113)) (r:List (S77)) (w:World) (hr0:Kd.C k113 w A0 l0.length l0) (hc0:l0.length≤c0) (h:laws_toTowerS.f k l0=some r) :
    Calls Tryd.prog 62 #[.slice A0 l0.length c0] w fun e w' => ∃ v0_:Value,e = .returned (v0_)∧Kd.S k77 77 w' w.heap.size (fun _=>True) v0_ r∧Below w.heap.size w w':=by
 have hu113:=Tryd.underlying113
 have hu77:=Tryd.underlying77
 have HR0:=AsZ.mk hr0
 have HC0:=AsZ.mk hc0
 clear hr0 hc0
 have HB:=AsZ.mk (Below.refl w.heap.size w)
 have H:(if 0≤(l0.length:Int) then (if ((l0.length:Int):Int).toNat≤3909374676536 then (laws_toTowerS.l0 k l0 (List.replicate ((l0.length:Int):Int).toNat z77) 0) else (none)) else (none))=some r:=h
 clear h
 by_cases c2:0≤(l0.length:Int)
 rotate_left
 · rw [if_neg c2] at H
   exact absurd H (by simp)
 rw [if_pos c2] at H
 have c2b0:=eq_true c2
 have c2b1:decide (0≤(l0.length:Int))=true:=zE c2
 clear c2
 by_cases c3:((l0.length:Int):Int).toNat≤3909374676536
 rotate_left
 · rw [if_neg c3] at H
   exact absurd H (by simp)
 rw [if_pos c3] at H
 have c3b0:=eq_true c3
 have c3b1:decide (((l0.length:Int):Int).toNat≤3909374676536)=true:=zE c3
 clear c3
 obtain ⟨y264,hy264⟩:∃ y_:List (S77),y_=(List.replicate ((l0.length:Int):Int).toNat z77):=⟨_,rfl⟩
 replace H:(laws_toTowerS.l0 k l0 y264 0)=some r:=by first|(rw [hy264];with_reducible exact H)|(have H2_:=(Option.bind_some _ _).symm.trans H;rw [hy264];with_reducible exact H2_)|(have H2_:=(Option.bind_some _ _).symm.trans H;with_reducible exact H2_)|with_reducible exact H|(rw [hy264];exact H)|exact H
 have Ny264:=AsZ.mk hy264
 clear hy264
 have H':=AsZ.mk H
 clear H
 go_enter Tryd.func62,Tryd.ntmps62
 go_wp2_with (first|((with_reducible refine gate_dst (N:=7) rfl ?_);refine Kd.S_make k77 _ 77 rfl (N:=7) rfl 24 _ _ rfl (l0.length:Int) rfl rfl Tryd.underlying24 (.agg #[(.string ⟨#[]⟩),(.int .i64 0),(.int .i64 0),(.string ⟨#[]⟩),(.slice none 0 0)]) 72 info77 rfl (by decide) (by omega) z77 (ok:=fun _=>True) (okp:=fun _=>True) (k77_mkM _ _ _ z77 (Kd.R_nil _ _ _ _ _)) (fun _ hk=>hk) trivial (zD (by first|(with_reducible assumption)|assumption)) (Nat.le_trans (Nat.mul_le_mul_right _ (zD (by first|(with_reducible assumption)|assumption):(l0.length:Int).toNat≤3909374676536)) (by omega)) (Below.refl _ _) (Nat.le_refl _) ?_;intro v265 w4 ho5 hb hg_ hnew_;clear hg_ hnew_;(first|rw [← Ny264.out] at ho5|(simp only [Int.reduceToNat] at ho5;rw [← Ny264.out] at ho5));have n0_:=AsZ.mk (Kd.S_lower ho5 (bwz (by repeat (first|(with_reducible first|exact HB.out|apply bwa|apply pbN|apply bw1)|exact HB.out))));have n1_:=AsZ.mk (bwp (by repeat (first|(with_reducible first|exact HB.out|apply bwa|apply pbN|apply bw1)|exact HB.out)) hb);clear HB;have HO266:=n0_;have HB:=n1_;clear n0_ n1_;clear hb ho5))
 go_loopg [4] k (fun kq v4 w' => ∃ (x3_1:List (S77)) (x4_1:Int),v4 = .int .i64 x4_1∧AsZ (laws_toTowerS.l0 kq l0 x3_1 x4_1=some r)∧AsZ (kq≤k)∧AsZ (Kd.S k77 77 w' w.heap.size (fun _=>True) v265 x3_1)∧AsZ (Below w.heap.size w w'))
 case atStart=>exact ⟨(y264),(0),(by first|rfl|(simp;done)|(simp [*];done)),H',⟨Nat.le_refl _⟩,⟨by (with_reducible repeat (first|apply Kd.S_alloc|apply Kd.S_drewN|apply Kd.S_drew));exact HO266.out⟩,⟨by repeat (first|(with_reducible first|exact HB.out|apply bwa|apply pbN|apply bw1)|exact HB.out)⟩⟩
 case round =>
  clear H'
  try clear c2
  try clear c2b0
  try clear c2b1
  try clear p2
  try clear c3
  try clear c3b0
  try clear c3b1
  obtain ⟨x3_1,x4_1,rfl,HA,HK1,HO_3,HB⟩:=hrel
  cases gk with
  |zero=>exact absurd HA.out (by simp [laws_toTowerS.l0])
  |succ k1 =>
   have H:=HA.out
   clear HA
   simp only [laws_toTowerS.l0] at H
   by_cases c6:x4_1 < (l0.length:Int)
   rotate_left
   · rw [if_neg c6] at H
     have c6b0:decide (x4_1 < (l0.length:Int))=false:=decide_eq_false c6
     clear c6
     obtain rfl:=zI H
     go_wp2
     go_ret
     exact ⟨_,by first|rfl|(simp [errW_none,errW_some]<;>rfl)|(simp [*,errW_none,errW_some]<;>rfl),by (with_reducible repeat (first|apply Kd.S_alloc|apply Kd.S_drewN|apply Kd.S_drew));exact HO_3.out,by repeat (first|(with_reducible first|exact HB.out|apply bwa|apply pbN|apply bw1)|exact HB.out)⟩
   rw [if_pos c6] at H
   have c6b0:decide (x4_1 < (l0.length:Int))=true:=zE c6
   clear c6
   by_cases c7:0≤x4_1
   rotate_left
   · rw [if_neg c7] at H
     exact absurd H (by simp)
   rw [if_pos c7] at H
   have c7b0:decide (0≤x4_1)=true:=zE c7
   clear c7
   replace H:=Option.bind_eq_some_iff.mp H
   obtain ⟨⟨t268,t269,t270,t271,t272⟩,A80,H⟩:=H
   replace H:(if x4_1 < (x3_1.length:Int) then (laws_toTowerS.l0 k1 l0 (x3_1.set (x4_1:Int).toNat (⟨(⟨t268,t269,t270,t271⟩:S28),t272⟩:S77)) (wrap64 (x4_1 + 1))) else (none))=some r:=H
   have A8:=AsZ.mk A80
   clear A80
   by_cases c9:x4_1 < (x3_1.length:Int)
   rotate_left
   · rw [if_neg c9] at H
     exact absurd H (by simp)
   rw [if_pos c9] at H
   have c9b0:decide (x4_1 < (x3_1.length:Int))=true:=zE c9
   clear c9
   obtain ⟨y275,hy275⟩:∃ y_:List (S77),y_=(x3_1.set (x4_1:Int).toNat (⟨(⟨t268,t269,t270,t271⟩:S28),t272⟩:S77)):=⟨_,rfl⟩
   replace H:(laws_toTowerS.l0 k1 l0 y275 (wrap64 (x4_1 + 1)))=some r:=by first|(rw [hy275];with_reducible exact H)|(have H2_:=(Option.bind_some _ _).symm.trans H;rw [hy275];with_reducible exact H2_)|(have H2_:=(Option.bind_some _ _).symm.trans H;with_reducible exact H2_)|with_reducible exact H|(rw [hy275];exact H)|exact H
   have Ny275:=AsZ.mk hy275
   clear hy275
   have H':=AsZ.mk H
   clear H
   have p267:0≤(x4_1:Int):=zD (by first|(with_reducible assumption)|assumption)
   have q267:x4_1 < (l0.length:Int):=zD (by first|(with_reducible assumption)|assumption)
   obtain ⟨ad267,A267_4,c267_4,e267,hx267_0,hx267_1,hx267_2,hx267_3,hx267_4,hl267_4,hi267_4⟩:=at_T113 HR0.out x4_1 p267 q267
   cases e267
   replace hx267_0:=(HB.out.cell (zB w _ hx267_0)).trans hx267_0
   replace hx267_1:=(HB.out.cell (zB w _ hx267_1)).trans hx267_1
   replace hx267_2:=(HB.out.cell (zB w _ hx267_2)).trans hx267_2
   replace hx267_3:=(HB.out.cell (zB w _ hx267_3)).trans hx267_3
   replace hx267_4:=(HB.out.cell (zB w _ hx267_4)).trans hx267_4
   have HR267_4:=AsZ.mk hi267_4
   have HC267_4:=AsZ.mk hl267_4
   clear hi267_4 hl267_4
   replace p267:=eq_true p267
   replace q267:=eq_true q267
   go_wp2_with (first|((with_reducible refine gcl (f:=91) rfl ?_);refine goesL_ (some 20) rfl rfl Tryd.func91 (by kernel_rfl) rfl #[.agg #[.string ((rd_T113 l0 x4_1).f0.f0),.int .i64 ((rd_T113 l0 x4_1).f0.f1),.int .i64 ((rd_T113 l0 x4_1).f0.f2),.string ((rd_T113 l0 x4_1).f0.f3),.slice A267_4 ((rd_T113 l0 x4_1).f1).length c267_4]] rfl (by (try simp only [zA,zC,zN]);first|done|rfl|(simp only [zM,zL];rfl)) ?_;(with_reducible refine (laws_toTower.calls k1 ((rd_T113 l0 x4_1).f0.f0) ((rd_T113 l0 x4_1).f0.f1) ((rd_T113 l0 x4_1).f0.f2) ((rd_T113 l0 x4_1).f0.f3) _ _ ((rd_T113 l0 x4_1).f1) t268 t269 t270 t271 t272 _ ?side1 ?side2 A8.out).mono ?_);(case side1=>repeat (first|exact (Kd.C_below HR267_4.out HB.out)|(with_reducible refine Kd.C_alloc ?_ _)|(with_reducible refine Kd.C_drewN ?_ _)|(with_reducible refine Kd.C_drew ?_)));(case side2=>exact HC267_4.out);rintro e w11 ⟨v273,rfl,ho0,hb⟩;refine ⟨_,rfl,?_⟩;have n0_:=AsZ.mk (Kd.S_elder' (by (with_reducible repeat (first|apply Kd.S_alloc|apply Kd.S_drewN|apply Kd.S_drew));exact HO_3.out) (Kd.R_base ho0) hb);have n1_:=AsZ.mk (Kd.R_lower ho0 (bwz (by repeat (first|(with_reducible first|exact HB.out|apply bwa|apply pbN|apply bw1)|exact HB.out))));have n2_:=AsZ.mk (bwp (by repeat (first|(with_reducible first|exact HB.out|apply bwa|apply pbN|apply bw1)|exact HB.out)) hb);clear HO_3;clear HB;have HO_3:=n0_;have HO274:=n1_;have HB:=n2_;clear n0_ n1_ n2_;(try clear hb);(try clear hb2);(try clear hk);(try clear hi);(try clear ho0);have p10:0≤(x4_1:Int):=zD (by first|(with_reducible assumption)|assumption);have q10:(x4_1:Int) < ((x3_1.length:Int):Int):=zD (by first|(with_reducible assumption)|assumption);obtain ⟨go10,co10,eo10,gb10,gl10,cl10,HG10⟩:=Kd.S_form HO_3.out (by omega);(first|cases eo10|(injection eo10 with ea_ en_ ec_;(first|subst ea_|(injection ea_ with ea_;subst ea_));subst ec_;clear en_));have GB10:=AsZ.mk gb10;have GG10:=AsZ.mk HG10;clear gb10 gl10 HG10;obtain ⟨_,ce10,hcl10,hM10,hcc10,hfr10,_,_⟩:=Kd.S_elem HO_3.out z77 (x4_1:Int) p10 q10;obtain ⟨ve10_4,rfl,ge10_4⟩:=k77_openM hM10;have hx10_0:w11.cell? ⟨go10,(x4_1:Int).toNat * 5,none⟩=some (.string ((rd_T77 x3_1 x4_1).f0.f0)):=hcc10 0 _ rfl;have hx10_1:w11.cell? ⟨go10,(x4_1:Int).toNat * 5 + 1,none⟩=some (.int .i64 ((rd_T77 x3_1 x4_1).f0.f1)):=hcc10 1 _ rfl;have hx10_2:w11.cell? ⟨go10,(x4_1:Int).toNat * 5 + 2,none⟩=some (.int .i64 ((rd_T77 x3_1 x4_1).f0.f2)):=hcc10 2 _ rfl;have hx10_3:w11.cell? ⟨go10,(x4_1:Int).toNat * 5 + 3,none⟩=some (.string ((rd_T77 x3_1 x4_1).f0.f3)):=hcc10 3 _ rfl;have hx10_4:w11.cell? ⟨go10,(x4_1:Int).toNat * 5 + 4,none⟩=some (ve10_4):=hcc10 4 _ rfl;have hf10_0:w11.frozen? ⟨go10,(x4_1:Int).toNat * 5,none⟩=false:=hfr10 0;have hf10_1:w11.frozen? ⟨go10,(x4_1:Int).toNat * 5 + 1,none⟩=false:=hfr10 1;have hf10_2:w11.frozen? ⟨go10,(x4_1:Int).toNat * 5 + 2,none⟩=false:=hfr10 2;have hf10_3:w11.frozen? ⟨go10,(x4_1:Int).toNat * 5 + 3,none⟩=false:=hfr10 3;have hf10_4:w11.frozen? ⟨go10,(x4_1:Int).toNat * 5 + 4,none⟩=false:=hfr10 4;clear hcl10 hcc10 hfr10 hM10;replace p10:=eq_true p10;replace q10:=eq_true q10;obtain ⟨Ao14,co14,eo14⟩:=Kd.R_slice HO274.out;subst eo14;have n_:=AsZ.mk (Kd.S_mono (ok':=(fun k_=>some k_ ≠ (.slice Ao14 t272.length co14:Value).ownBlock)) HO_3.out (fun k_ hk=>hk.2));clear HO_3;have HO_3:=n_;clear n_;have HX12:=AsZ.mk (show Kd.S k77 77 w11 w.heap.size (fun k_=>((fun _=>True)) k_ ∧ ¬ ((fun k_=>some k_=(.slice Ao14 t272.length co14:Value).ownBlock)) k_) (.slice (some ⟨go10,0,none⟩) x3_1.length co10) x3_1 from (by (with_reducible repeat (first|apply Kd.S_alloc|apply Kd.S_drewN|apply Kd.S_drew));exact Kd.S_mono HO_3.out (fun k_ hk=>⟨trivial,fun e_=>hk e_⟩)));obtain ⟨oki12,ce12,hcl12,hM12,hcc12,hfr12,hoki12,hH12⟩:=Kd.S_elem HX12.out z77 (x4_1:Int) (zD (by first|(with_reducible assumption)|assumption)) (by have h_:(x4_1:Int) < ((x3_1.length:Int):Int):=zD (by first|(with_reducible assumption)|assumption);first|exact h_|(have e_:=(Kd.S_reads' HO_3.out).1;omega)|simpa using h_);obtain ⟨ve12_4,rfl,ge12_4⟩:=k77_openM hM12;have HP12:=Kd.S_seg hH12 (zD (by first|(with_reducible assumption)|assumption)) (by have h_:(x4_1:Int) < ((x3_1.length:Int):Int):=zD (by first|(with_reducible assumption)|assumption);first|exact h_|(have e_:=(Kd.S_reads' HO_3.out).1;omega)|simpa using h_) (seg:=[.string t268,.int .i64 t269,.int .i64 t270,.string t271,.slice Ao14 t272.length co14]) (j:=0) (show 5≤5 from by decide) (x':=(⟨(⟨t268,t269,t270,t271⟩:S28),t272⟩:S77)) (k77_mkM _ _ _ (⟨(⟨t268,t269,t270,t271⟩:S28),t272⟩:S77) (Kd.R_mono (Kd.R_tight rfl (Kd.R_mono (ok':=fun k_=>((fun _=>True)) k_∧k_ ≠ go10) (Kd.R_apart' (HO274.out) (Kd.S_typed HO_3.out) (by decide)) (fun k_ hk=>⟨trivial,fun e_=>(hk.2) (by rw [e_];rfl)⟩))) (fun _ h_=>Or.inr (h_)))) (fun _ hk=>hk) (fun k_ hk_=>((Kd.R_mono (ok':=fun k_=>((fun _=>True)) k_∧k_ ≠ go10) (Kd.R_apart' (HO274.out) (Kd.S_typed HO_3.out) (by decide)) (fun k_ hk=>⟨trivial,fun e_=>(hk.2) (by rw [e_];rfl)⟩))).1 k_ hk_.symm);have hx12_0:=hcc12 0 _ rfl;(try simp only [show (k77).sz=5 from rfl,Nat.mul_one,Nat.add_zero] at hx12_0);have hf12_0:=hfr12 0;(try simp only [show (k77).sz=5 from rfl,Nat.mul_one,Nat.add_zero] at hf12_0);have hx12_1:=hcc12 1 _ rfl;(try simp only [show (k77).sz=5 from rfl,Nat.mul_one,Nat.add_zero] at hx12_1);have hf12_1:=hfr12 1;(try simp only [show (k77).sz=5 from rfl,Nat.mul_one,Nat.add_zero] at hf12_1);have hx12_2:=hcc12 2 _ rfl;(try simp only [show (k77).sz=5 from rfl,Nat.mul_one,Nat.add_zero] at hx12_2);have hf12_2:=hfr12 2;(try simp only [show (k77).sz=5 from rfl,Nat.mul_one,Nat.add_zero] at hf12_2);have hx12_3:=hcc12 3 _ rfl;(try simp only [show (k77).sz=5 from rfl,Nat.mul_one,Nat.add_zero] at hx12_3);have hf12_3:=hfr12 3;(try simp only [show (k77).sz=5 from rfl,Nat.mul_one,Nat.add_zero] at hf12_3);have hx12_4:=hcc12 4 _ rfl;(try simp only [show (k77).sz=5 from rfl,Nat.mul_one,Nat.add_zero] at hx12_4);have hf12_4:=hfr12 4;(try simp only [show (k77).sz=5 from rfl,Nat.mul_one,Nat.add_zero] at hf12_4);clear hcl12 hcc12 hfr12 hM12 hoki12 hH12)|((with_reducible refine gate_store (t:=77) (p:=21) rfl ?_);refine store_event (t:=77) (p:=21) (v:=?vo_w13) (w1:=(((((w11.setCell ⟨go10,(x4_1:Int).toNat * 5,none⟩ (.string t268)).setCell ⟨go10,(x4_1:Int).toNat * 5 + 1,none⟩ (.int .i64 t269)).setCell ⟨go10,(x4_1:Int).toNat * 5 + 2,none⟩ (.int .i64 t270)).setCell ⟨go10,(x4_1:Int).toNat * 5 + 3,none⟩ (.string t271)).setCell ⟨go10,(x4_1:Int).toNat * 5 + 4,none⟩ (.slice Ao14 t272.length co14))) ?hg ?ho ?hn ?hr ?_;(case ho=>rfl);(case hg=>rfl);(case hn=>rfl);(case hr=>first|(go_simp;done)|(go_simp;rfl));intro w13 hw;have hg:w11.grownBy w13 (some go10):=(by rw [hw];exact HP12.2);have hp_:Kd.S k77 77 w13 w.heap.size (fun _=>True) (.slice (some ⟨go10,0,none⟩) x3_1.length co10) y275:=(by rw [hw,Ny275.out];exact HP12.1);clear HP12;have n0_:=AsZ.mk (hp_);have n1_:=AsZ.mk ((by rw [hw];exact bws (bws (bws (bws (bws (HB.out) GB10.out) GB10.out) GB10.out) GB10.out) GB10.out:Below w.heap.size w w13));clear HO_3;clear HB;clear HO274;have HO_3:=n0_;have HB:=n1_;clear n0_ n1_;clear hg hw hp_))
   go_roundg k1
   case measure=>have:=HK1.out;omega
   case rel=>exact ⟨(y275),(wrap64 (x4_1 + 1)),(by first|rfl|(simp;done)|(simp [*];done)),H',⟨by have:=HK1.out;omega⟩,⟨by (with_reducible repeat (first|apply Kd.S_alloc|apply Kd.S_drewN|apply Kd.S_drew));exact HO_3.out⟩,⟨by repeat (first|(with_reducible first|exact HB.out|apply bwa|apply pbN|apply bw1)|exact HB.out)⟩⟩
/-! ### laws_toSkip: function 20 -/
def laws_toSkip.f (k:Nat) (l0_0:List Int) (l0_1:List (S113)):Option (List Int × (List (S77))):=(laws_toIntS.f k l0_0).bind fun t279=>((laws_toTowerS.f k l0_1).bind fun t282=>(some (t279,t282)))
theorem laws_toSkip.mono:∀ a0 a1 k,LeO (laws_toSkip.f k a0 a1) (laws_toSkip.f (k + 1) a0 a1):=by
  intro a0 a1 k
  unfold laws_toSkip.f
  repeat' first
      |(with_reducible exact laws_toIntS.mono _ _)
      |(with_reducible exact laws_toTowerS.mono _ _)
      |(with_reducible exact LeO.refl _)
      |(with_reducible exact LeO.none _)
      |(with_reducible refine LeO.ite ?_ ?_)
      |(with_reducible refine LeO.bind ?_ (fun _=>?_))
      |exact laws_toIntS.mono _ _
      |exact laws_toTowerS.mono _ _
      |exact LeO.none _
      |refine LeO.ite ?_ ?_
      |refine LeO.bind ?_ (fun _=>?_)
set_option maxHeartbeats 8000000 in
set_option maxRecDepth 100000 in
theorem laws_toSkip.calls (k:Nat) (A0_0:Option Addr) (c0_0:Nat) (l0_0:List Int) (A0_1:Option Addr) (c0_1:Nat) (l0_1:List (S113)) (r1:List Int) (r2:List (S77)) (w:World) (hr0_0:Kd.C (Kd.int .i64) w A0_0 l0_0.length l0_0) (hc0_0:l0_0.length≤c0_0) (hr0_1:Kd.C k113 w A0_1 l0_1.length l0_1) (hc0_1:l0_1.length≤c0_1) (h:laws_toSkip.f k l0_0 l0_1=some (r1,r2)) :
    Calls Tryd.prog 20 #[.agg #[.slice A0_0 l0_0.length c0_0,.slice A0_1 l0_1.length c0_1]] w fun e w' => ∃ v0_ v1_:Value,e = .returned (.agg #[v0_,v1_])∧Kd.R (Kd.int .i64) 3 w' w.heap.size (fun _=>True) v0_ r1∧Kd.S k77 77 w' w.heap.size (fun k_=>some k_ ≠ (v0_:Value).ownBlock) v1_ r2∧Below w.heap.size w w':=by
 have hu43:=Tryd.underlying43
 have hu26:=Tryd.underlying26
 have HR0_0:=AsZ.mk hr0_0
 have HC0_0:=AsZ.mk hc0_0
 clear hr0_0 hc0_0
 have HR0_1:=AsZ.mk hr0_1
 have HC0_1:=AsZ.mk hc0_1
 clear hr0_1 hc0_1
 have HB:=AsZ.mk (Below.refl w.heap.size w)
 have H:((laws_toIntS.f k l0_0).bind fun t279=>((laws_toTowerS.f k l0_1).bind fun t282=>(some (t279,t282))))=some (r1,r2):=h
 clear h
 replace H:=Option.bind_eq_some_iff.mp H
 obtain ⟨t279,A20,H⟩:=H
 replace H:((laws_toTowerS.f k l0_1).bind fun t282=>(some (t279,t282)))=some (r1,r2):=H
 have A2:=AsZ.mk A20
 clear A20
 replace H:=Option.bind_eq_some_iff.mp H
 obtain ⟨t282,A30,H⟩:=H
 replace H:(some (t279,t282))=some (r1,r2):=H
 have A3:=AsZ.mk A30
 clear A30
 simp only [Option.some.injEq,Prod.mk.injEq] at H
 obtain ⟨rfl,rfl⟩:=H
 go_enter Tryd.func20,Tryd.ntmps20
 go_wp2_with (first|((with_reducible refine gate_dst (N:=1) rfl ?_);refine box_event ?hg (N:=1) ?hd (cs:=#[.slice A0_0 l0_0.length c0_0,.slice A0_1 l0_1.length c0_1]) (t:=43) ?hr ?_;(case hd=>rfl);(case hg=>rfl);(case hr=>first|(go_simp;done)|(go_simp;rfl));intro gb276 hg w4 hbox hb;have n0_:=AsZ.mk (bwp (by repeat (first|(with_reducible first|exact HB.out|apply bwa|apply pbN|apply bw1)|exact HB.out)) hb);have n1_:=AsZ.mk (hbox);have n2_:=AsZ.mk ((by rw [hg];exact (bwz (by repeat (first|(with_reducible first|exact HB.out|apply bwa|apply pbN|apply bw1)|exact HB.out))):w.heap.size≤gb276));have n3_:=AsZ.mk ((by rw [hg];exact (bwz (by repeat (first|(with_reducible first|exact HB.out|apply bwa|apply pbN|apply bw1)|exact HB.out))):w.heap.size≤gb276));clear HB;have HB:=n0_;have BK276:=n1_;have GW276:=n2_;have GE276:=n3_;clear n0_ n1_ n2_ n3_;clear hb hbox hg)|((with_reducible refine gate_dst (N:=2) rfl ?_);refine box_event ?hg (N:=2) ?hd (cs:=#[.slice none 0 0,.slice none 0 0]) (t:=26) ?hr ?_;(case hd=>rfl);(case hg=>rfl);(case hr=>first|(go_simp;done)|(go_simp;rfl));intro gb277 hg w5 hbox hb;have n0_:=AsZ.mk (kb (g:=gb276) (o := .cells #[.slice A0_0 l0_0.length c0_0,.slice A0_1 l0_1.length c0_1] 43 (0,0)) (by (with_reducible repeat (first|refine kdN ?_ _|refine kd ?_|refine ka ?_ _));exact BK276.out) hb);have n1_:=AsZ.mk (bwp (by repeat (first|(with_reducible first|exact HB.out|apply bwa|apply pbN|apply bw1|refine bws ?_ GE276.out)|exact HB.out)) hb);have n2_:=AsZ.mk (hbox);have n3_:=AsZ.mk ((by rw [hg];exact (bwz (by repeat (first|(with_reducible first|exact HB.out|apply bwa|apply pbN|apply bw1|refine bws ?_ GE276.out)|exact HB.out))):w.heap.size≤gb277));have n4_:=AsZ.mk ((by rw [hg];exact (bwz (by repeat (first|(with_reducible first|exact HB.out|apply bwa|apply pbN|apply bw1|refine bws ?_ GE276.out)|exact HB.out))):w.heap.size≤gb277));have n5_:=AsZ.mk ((by rw [hg];exact Nat.ne_of_lt (blk_lt (g:=gb276) (o := .cells #[.slice A0_0 l0_0.length c0_0,.slice A0_1 l0_1.length c0_1] 43 (0,0)) (by (with_reducible repeat (first|refine kdN ?_ _|refine kd ?_|refine ka ?_ _));exact BK276.out)):gb276 ≠ gb277));have n6_:=AsZ.mk ((by rw [hg];exact Nat.ne_of_gt (blk_lt (g:=gb276) (o := .cells #[.slice A0_0 l0_0.length c0_0,.slice A0_1 l0_1.length c0_1] 43 (0,0)) (by (with_reducible repeat (first|refine kdN ?_ _|refine kd ?_|refine ka ?_ _));exact BK276.out)):gb277 ≠ gb276));clear BK276;clear HB;have BK276:=n0_;have HB:=n1_;have BK277:=n2_;have GW277:=n3_;have GE277:=n4_;have NB276_277:=n5_;have NB277_276:=n6_;clear n0_ n1_ n2_ n3_ n4_ n5_ n6_;clear hb hbox hg)|((with_reducible refine gate_dst (N:=3) rfl ?_);refine box_event ?hg (N:=3) ?hd (cs:=#[.slice none 0 0,.slice none 0 0]) (t:=26) ?hr ?_;(case hd=>rfl);(case hg=>rfl);(case hr=>first|(go_simp;done)|(go_simp;rfl));intro gb278 hg w6 hbox hb;have n0_:=AsZ.mk (kb (g:=gb276) (o := .cells #[.slice A0_0 l0_0.length c0_0,.slice A0_1 l0_1.length c0_1] 43 (0,0)) (by (with_reducible repeat (first|refine kdN ?_ _|refine kd ?_|refine ka ?_ _));exact BK276.out) hb);have n1_:=AsZ.mk (kb (g:=gb277) (o := .cells #[.slice none 0 0,.slice none 0 0] 26 (0,0)) (by (with_reducible repeat (first|refine kdN ?_ _|refine kd ?_|refine ka ?_ _));exact BK277.out) hb);have n2_:=AsZ.mk (bwp (by repeat (first|(with_reducible first|exact HB.out|apply bwa|apply pbN|apply bw1|refine bws ?_ GE276.out|refine bws ?_ GE277.out)|exact HB.out)) hb);have n3_:=AsZ.mk (hbox);have n4_:=AsZ.mk ((by rw [hg];exact (bwz (by repeat (first|(with_reducible first|exact HB.out|apply bwa|apply pbN|apply bw1|refine bws ?_ GE276.out|refine bws ?_ GE277.out)|exact HB.out))):w.heap.size≤gb278));have n5_:=AsZ.mk ((by rw [hg];exact (bwz (by repeat (first|(with_reducible first|exact HB.out|apply bwa|apply pbN|apply bw1|refine bws ?_ GE276.out|refine bws ?_ GE277.out)|exact HB.out))):w.heap.size≤gb278));have n6_:=AsZ.mk ((by rw [hg];exact Nat.ne_of_lt (blk_lt (g:=gb276) (o := .cells #[.slice A0_0 l0_0.length c0_0,.slice A0_1 l0_1.length c0_1] 43 (0,0)) (by (with_reducible repeat (first|refine kdN ?_ _|refine kd ?_|refine ka ?_ _));exact BK276.out)):gb276 ≠ gb278));have n7_:=AsZ.mk ((by rw [hg];exact Nat.ne_of_gt (blk_lt (g:=gb276) (o := .cells #[.slice A0_0 l0_0.length c0_0,.slice A0_1 l0_1.length c0_1] 43 (0,0)) (by (with_reducible repeat (first|refine kdN ?_ _|refine kd ?_|refine ka ?_ _));exact BK276.out)):gb278 ≠ gb276));have n8_:=AsZ.mk ((by rw [hg];exact Nat.ne_of_lt (blk_lt (g:=gb277) (o := .cells #[.slice none 0 0,.slice none 0 0] 26 (0,0)) (by (with_reducible repeat (first|refine kdN ?_ _|refine kd ?_|refine ka ?_ _));exact BK277.out)):gb277 ≠ gb278));have n9_:=AsZ.mk ((by rw [hg];exact Nat.ne_of_gt (blk_lt (g:=gb277) (o := .cells #[.slice none 0 0,.slice none 0 0] 26 (0,0)) (by (with_reducible repeat (first|refine kdN ?_ _|refine kd ?_|refine ka ?_ _));exact BK277.out)):gb278 ≠ gb277));clear BK276;clear BK277;clear HB;have BK276:=n0_;have BK277:=n1_;have HB:=n2_;have BK278:=n3_;have GW278:=n4_;have GE278:=n5_;have NB276_278:=n6_;have NB278_276:=n7_;have NB277_278:=n8_;have NB278_277:=n9_;clear n0_ n1_ n2_ n3_ n4_ n5_ n6_ n7_ n8_ n9_;clear hb hbox hg;have hnb7:=NB276_277.out;have hnc7:=NB277_276.out;have hnb8:=NB276_278.out;have hnc8:=NB278_276.out;have hcz9_0:w6.cell? ⟨gb276,0,none⟩=some (.slice A0_0 l0_0.length c0_0):=(kc BK276.out 0).trans rfl;have hcz9_1:w6.cell? ⟨gb276,1,none⟩=some (.slice A0_1 l0_1.length c0_1):=(kc BK276.out 1).trans rfl;have hfz9_0:=kf BK276.out 0;have hfz9_1:=kf BK276.out 1)|((with_reducible refine gcl (f:=61) rfl ?_);refine goesL_ (some 6) rfl rfl Tryd.func61 (by kernel_rfl) rfl #[.slice A0_0 l0_0.length c0_0] rfl (by (try simp only [zA,zC,zN]);first|done|rfl|(simp only [zM,zL];rfl)) ?_;(with_reducible refine (laws_toIntS.calls k _ _ l0_0 t279 _ ?side1 ?side2 A2.out).mono ?_);(case side1=>repeat (first|exact (Kd.C_below HR0_0.out HB.out)|(with_reducible refine Kd.C_alloc ?_ _)|(with_reducible refine Kd.C_drewN ?_ _)|(with_reducible refine Kd.C_drew ?_)));(case side2=>exact HC0_0.out);rintro e w10 ⟨v280,rfl,ho0,hb⟩;refine ⟨_,rfl,?_⟩;have n0_:=AsZ.mk (Kd.R_lower ho0 (bwz (by repeat (first|(with_reducible first|exact HB.out|apply bwa|apply pbN|apply bw1|refine bws ?_ GE276.out|refine bws ?_ GE277.out|refine bws ?_ GE278.out)|exact HB.out))));have n1_:=AsZ.mk (kb (g:=gb276) (o := .cells #[.slice A0_0 l0_0.length c0_0,.slice A0_1 l0_1.length c0_1] 43 (0,0)) (by (with_reducible repeat (first|refine kdN ?_ _|refine kd ?_|refine ka ?_ _));exact BK276.out) hb);have n2_:=AsZ.mk (kb (g:=gb277) (o := .cells #[.slice none 0 0,.slice none 0 0] 26 (0,0)) (by (with_reducible repeat (first|refine kdN ?_ _|refine kd ?_|refine ka ?_ _));exact BK277.out) hb);have n3_:=AsZ.mk (kb (g:=gb278) (o := .cells #[.slice none 0 0,.slice none 0 0] 26 (0,0)) (by (with_reducible repeat (first|refine kdN ?_ _|refine kd ?_|refine ka ?_ _));exact BK278.out) hb);have n4_:=AsZ.mk (bwp (by repeat (first|(with_reducible first|exact HB.out|apply bwa|apply pbN|apply bw1|refine bws ?_ GE276.out|refine bws ?_ GE277.out|refine bws ?_ GE278.out)|exact HB.out)) hb);clear BK276;clear BK277;clear BK278;clear HB;have HO281:=n0_;have BK276:=n1_;have BK277:=n2_;have BK278:=n3_;have HB:=n4_;clear n0_ n1_ n2_ n3_ n4_;(try clear hb);(try clear hb2);(try clear hk);(try clear hi);(try clear ho0);obtain ⟨Ao11,co11,eo11⟩:=Kd.R_slice HO281.out;subst eo11;have hnb12:=NB278_277.out;have hnc12:=NB277_278.out;have hcz13_0:w10.cell? ⟨gb278,0,none⟩=some (.slice none 0 0):=(kc BK278.out 0).trans rfl;have hcz13_1:w10.cell? ⟨gb278,1,none⟩=some (.slice none 0 0):=(kc BK278.out 1).trans rfl;have hfz13_0:=kf BK278.out 0;have hfz13_1:=kf BK278.out 1;have hcz14_0:w10.cell? ⟨gb276,0,none⟩=some (.slice A0_0 l0_0.length c0_0):=(kc BK276.out 0).trans rfl;have hcz14_1:w10.cell? ⟨gb276,1,none⟩=some (.slice A0_1 l0_1.length c0_1):=(kc BK276.out 1).trans rfl;have hfz14_0:=kf BK276.out 0;have hfz14_1:=kf BK276.out 1)|((with_reducible refine gcl (f:=62) rfl ?_);refine goesL_ (some 10) rfl rfl Tryd.func62 (by kernel_rfl) rfl #[.slice A0_1 l0_1.length c0_1] rfl (by (try simp only [zA,zC,zN]);first|done|rfl|(simp only [zM,zL];rfl)) ?_;(with_reducible refine (laws_toTowerS.calls k _ _ l0_1 t282 _ ?side1 ?side2 A3.out).mono ?_);(case side1=>exact Kd.C_below HR0_1.out (by repeat (first|(with_reducible first|exact HB.out|apply bwa|apply pbN|apply bw1|refine bws ?_ GE276.out|refine bws ?_ GE277.out|refine bws ?_ GE278.out)|exact HB.out)));(case side2=>exact HC0_1.out);rintro e w15 ⟨v283,rfl,ho0,hb⟩;refine ⟨_,rfl,?_⟩;have n0_:=AsZ.mk (Kd.R_below (by (with_reducible repeat (first|apply Kd.R_alloc|apply Kd.R_drewN|apply Kd.R_drew));exact (Kd.R_mono (Kd.R_far (p:=⟨gb278,0,none⟩) (Kd.R_types HO281.out BK278.out (by decide)) (fun _ hk=>hk.2) (.slice Ao11 t279.length co11)) (fun _ h_=>h_.1))) hb);have n1_:=AsZ.mk (Kd.S_lower (Kd.S_new' ho0 (Kd.R_lt (by (with_reducible repeat (first|apply Kd.R_alloc|apply Kd.R_drewN|apply Kd.R_drew));exact (Kd.R_mono (Kd.R_far (p:=⟨gb278,0,none⟩) (Kd.R_types HO281.out BK278.out (by decide)) (fun _ hk=>hk.2) (.slice Ao11 t279.length co11)) (fun _ h_=>h_.1))))) (bwz (by repeat (first|(with_reducible first|exact HB.out|apply bwa|apply pbN|apply bw1|refine bws ?_ GE276.out|refine bws ?_ GE277.out|refine bws ?_ GE278.out)|exact HB.out))));have n2_:=AsZ.mk (kb (g:=gb276) (o := .cells #[.slice A0_0 l0_0.length c0_0,.slice A0_1 l0_1.length c0_1] 43 (0,0)) (by (with_reducible repeat (first|refine kdN ?_ _|refine kd ?_|refine ka ?_ _));refine blk_far ?_ NB276_278.out _;(with_reducible repeat (first|refine kdN ?_ _|refine kd ?_|refine ka ?_ _));exact BK276.out) hb);have n3_:=AsZ.mk (kb (g:=gb277) (o := .cells #[.slice none 0 0,.slice none 0 0] 26 (0,0)) (by (with_reducible repeat (first|refine kdN ?_ _|refine kd ?_|refine ka ?_ _));refine blk_far ?_ NB277_278.out _;(with_reducible repeat (first|refine kdN ?_ _|refine kd ?_|refine ka ?_ _));exact BK277.out) hb);have n4_:=AsZ.mk (kb (g:=gb278) (o := .cells #[.slice Ao11 t279.length co11,.slice none 0 0] 26 (0,0)) (by (with_reducible repeat (first|refine kdN ?_ _|refine kd ?_|refine ka ?_ _));refine blk_put (cs:=#[.slice none 0 0,.slice none 0 0]) ?_ 0 _ rfl;(with_reducible repeat (first|refine kdN ?_ _|refine kd ?_|refine ka ?_ _));exact BK278.out) hb);have n5_:=AsZ.mk (bwp (by repeat (first|(with_reducible first|exact HB.out|apply bwa|apply pbN|apply bw1|refine bws ?_ GE276.out|refine bws ?_ GE277.out|refine bws ?_ GE278.out)|exact HB.out)) hb);clear HO281;clear BK276;clear BK277;clear BK278;clear HB;have HO281:=n0_;have HO284:=n1_;have BK276:=n2_;have BK277:=n3_;have BK278:=n4_;have HB:=n5_;clear n0_ n1_ n2_ n3_ n4_ n5_;(try clear hb);(try clear hb2);(try clear hk);(try clear hi);(try clear ho0);obtain ⟨Ao16,co16,eo16⟩:=Kd.S_slice HO284.out;subst eo16;have hcz17_0:w15.cell? ⟨gb278,0,none⟩=some (.slice Ao11 t279.length co11):=(kc BK278.out 0).trans rfl;have hcz17_1:w15.cell? ⟨gb278,1,none⟩=some (.slice none 0 0):=(kc BK278.out 1).trans rfl;have hfz17_0:=kf BK278.out 0;have hfz17_1:=kf BK278.out 1;have hcz18_0:w15.cell? ⟨gb277,0,none⟩=some (.slice none 0 0):=(kc BK277.out 0).trans rfl;have hcz18_1:w15.cell? ⟨gb277,1,none⟩=some (.slice none 0 0):=(kc BK277.out 1).trans rfl;have hfz18_0:=kf BK277.out 0;have hfz18_1:=kf BK277.out 1))
 refine bodyPost_ret (results_cell_row rfl _ _ gb277 26 #[.slice Ao11 t279.length co11,.slice Ao16 t282.length co16] (0,0) _ rfl (by (with_reducible repeat (first|refine kdN ?_ _|refine kd ?_|refine ka ?_ _));refine blk_put (cs:=#[.slice Ao11 t279.length co11,.slice none 0 0]) ?_ 1 _ rfl;(with_reducible repeat (first|refine kdN ?_ _|refine kd ?_|refine ka ?_ _));refine blk_put (cs:=#[.slice none 0 0,.slice none 0 0]) ?_ 0 _ rfl;(with_reducible repeat (first|refine kdN ?_ _|refine kd ?_|refine ka ?_ _));refine blk_far ?_ NB277_278.out _;(with_reducible repeat (first|refine kdN ?_ _|refine kd ?_|refine ka ?_ _));exact BK277.out) Tryd.underlying26 rfl (by kernel_rfl)) rfl ?_
 exact ⟨_,_,by first|rfl|(simp [errW_none,errW_some]<;>rfl)|(simp [*,errW_none,errW_some]<;>rfl),by (with_reducible repeat (first|apply Kd.R_alloc|apply Kd.R_drewN|apply Kd.R_drew));exact Kd.R_mono (Kd.R_far (p:=⟨gb277,1,none⟩) (Kd.R_far (p:=⟨gb277,0,none⟩) (Kd.R_far (p:=⟨gb278,1,none⟩) (Kd.R_types (Kd.R_types HO281.out BK278.out (by decide)) BK277.out (by decide)) (fun _ hk=>hk.1.2) (.slice Ao16 t282.length co16)) (fun _ hk=>hk.2) (.slice Ao11 t279.length co11)) (fun _ hk=>hk.2) (.slice Ao16 t282.length co16)) (fun _ hk=>trivial),by (with_reducible repeat (first|apply Kd.S_alloc|apply Kd.S_drewN|apply Kd.S_drew));exact Kd.S_mono (Kd.S_far (p:=⟨gb277,1,none⟩) (Kd.S_far (p:=⟨gb277,0,none⟩) (Kd.S_far (p:=⟨gb278,1,none⟩) (Kd.S_types (Kd.S_types HO284.out BK278.out (by decide)) BK277.out (by decide)) (fun _ hk=>hk.1.2) (.slice Ao16 t282.length co16)) (fun _ hk=>hk.2) (.slice Ao11 t279.length co11)) (fun _ hk=>hk.2) (.slice Ao16 t282.length co16)) (fun _ hk=>hk.1.1.2),by repeat (first|(with_reducible first|exact HB.out|apply bwa|apply pbN|apply bw1|refine bws ?_ GE276.out|refine bws ?_ GE277.out|refine bws ?_ GE278.out)|exact HB.out)⟩
/-! ### laws_eqItem: function 33 -/
def laws_eqItem.f (a0_0:ByteArray) (a0_1:Int) (a0_2:Int) (a0_3:ByteArray) (a1_0:ByteArray) (a1_1:Int) (a1_2:Int) (a1_3:ByteArray):Option (Bool):=if a0_0.toList=a1_0.toList then (if a0_1=a1_1 then (if a0_2=a1_2 then (if a0_3.toList=a1_3.toList then (some true) else (some false)) else (some false)) else (some false)) else (some false)
set_option maxHeartbeats 8000000 in
set_option maxRecDepth 100000 in
theorem laws_eqItem.calls (a0_0:ByteArray) (a0_1:Int) (a0_2:Int) (a0_3:ByteArray) (a1_0:ByteArray) (a1_1:Int) (a1_2:Int) (a1_3:ByteArray) (r:Bool) (w:World) (h:laws_eqItem.f a0_0 a0_1 a0_2 a0_3 a1_0 a1_1 a1_2 a1_3=some r) :
    Calls Tryd.prog 33 #[.agg #[.string a0_0,.int .i64 a0_1,.int .i64 a0_2,.string a0_3],.agg #[.string a1_0,.int .i64 a1_1,.int .i64 a1_2,.string a1_3]] w fun e w'=>e = .returned (.bool r)∧Below w.heap.size w w':=by
 have hu28:=Tryd.underlying28
 have HB:=AsZ.mk (Below.refl w.heap.size w)
 have H:(if a0_0.toList=a1_0.toList then (if a0_1=a1_1 then (if a0_2=a1_2 then (if a0_3.toList=a1_3.toList then (some true) else (some false)) else (some false)) else (some false)) else (some false))=some r:=h
 clear h
 by_cases c3:a0_0.toList=a1_0.toList
 rotate_left
 · rw [if_neg c3] at H
   have c3b0:(a0_0.toList == a1_0.toList)=false:=beq_eq_false_iff_ne.mpr c3
   have c3b1:(a0_0.toList != a1_0.toList)=true:=bne_iff_ne.mpr c3
   obtain rfl:=zI H
   go_enter Tryd.func33,Tryd.ntmps33
   go_wp2_with (first|((with_reducible refine gate_dst (N:=2) rfl ?_);refine box_event ?hg (N:=2) ?hd (cs:=#[.string a0_0,.int .i64 a0_1,.int .i64 a0_2,.string a0_3]) (t:=28) ?hr ?_;(case hd=>rfl);(case hg=>rfl);(case hr=>first|(go_simp;done)|(go_simp;rfl));intro gb285 hg w27 hbox hb;have n0_:=AsZ.mk (bwp (by repeat (first|(with_reducible first|exact HB.out|apply bwa|apply pbN|apply bw1)|exact HB.out)) hb);have n1_:=AsZ.mk (hbox);have n2_:=AsZ.mk ((by rw [hg];exact (bwz (by repeat (first|(with_reducible first|exact HB.out|apply bwa|apply pbN|apply bw1)|exact HB.out))):w.heap.size≤gb285));have n3_:=AsZ.mk ((by rw [hg];exact (bwz (by repeat (first|(with_reducible first|exact HB.out|apply bwa|apply pbN|apply bw1)|exact HB.out))):w.heap.size≤gb285));clear HB;have HB:=n0_;have BK285:=n1_;have GW285:=n2_;have GE285:=n3_;clear n0_ n1_ n2_ n3_;clear hb hbox hg)|((with_reducible refine gate_dst (N:=3) rfl ?_);refine box_event ?hg (N:=3) ?hd (cs:=#[.string a1_0,.int .i64 a1_1,.int .i64 a1_2,.string a1_3]) (t:=28) ?hr ?_;(case hd=>rfl);(case hg=>rfl);(case hr=>first|(go_simp;done)|(go_simp;rfl));intro gb286 hg w28 hbox hb;have n0_:=AsZ.mk (kb (g:=gb285) (o := .cells #[.string a0_0,.int .i64 a0_1,.int .i64 a0_2,.string a0_3] 28 (0,0)) (by (with_reducible repeat (first|refine kdN ?_ _|refine kd ?_|refine ka ?_ _));exact BK285.out) hb);have n1_:=AsZ.mk (bwp (by repeat (first|(with_reducible first|exact HB.out|apply bwa|apply pbN|apply bw1|refine bws ?_ GE285.out)|exact HB.out)) hb);have n2_:=AsZ.mk (hbox);have n3_:=AsZ.mk ((by rw [hg];exact (bwz (by repeat (first|(with_reducible first|exact HB.out|apply bwa|apply pbN|apply bw1|refine bws ?_ GE285.out)|exact HB.out))):w.heap.size≤gb286));have n4_:=AsZ.mk ((by rw [hg];exact (bwz (by repeat (first|(with_reducible first|exact HB.out|apply bwa|apply pbN|apply bw1|refine bws ?_ GE285.out)|exact HB.out))):w.heap.size≤gb286));have n5_:=AsZ.mk ((by rw [hg];exact Nat.ne_of_lt (blk_lt (g:=gb285) (o := .cells #[.string a0_0,.int .i64 a0_1,.int .i64 a0_2,.string a0_3] 28 (0,0)) (by (with_reducible repeat (first|refine kdN ?_ _|refine kd ?_|refine ka ?_ _));exact BK285.out)):gb285 ≠ gb286));have n6_:=AsZ.mk ((by rw [hg];exact Nat.ne_of_gt (blk_lt (g:=gb285) (o := .cells #[.string a0_0,.int .i64 a0_1,.int .i64 a0_2,.string a0_3] 28 (0,0)) (by (with_reducible repeat (first|refine kdN ?_ _|refine kd ?_|refine ka ?_ _));exact BK285.out)):gb286 ≠ gb285));clear BK285;clear HB;have BK285:=n0_;have HB:=n1_;have BK286:=n2_;have GW286:=n3_;have GE286:=n4_;have NB285_286:=n5_;have NB286_285:=n6_;clear n0_ n1_ n2_ n3_ n4_ n5_ n6_;clear hb hbox hg;have hnb29:=NB285_286.out;have hnc29:=NB286_285.out;have hcz30_0:w28.cell? ⟨gb285,0,none⟩=some (.string a0_0):=(kc BK285.out 0).trans rfl;have hcz30_1:w28.cell? ⟨gb285,1,none⟩=some (.int .i64 a0_1):=(kc BK285.out 1).trans rfl;have hcz30_2:w28.cell? ⟨gb285,2,none⟩=some (.int .i64 a0_2):=(kc BK285.out 2).trans rfl;have hcz30_3:w28.cell? ⟨gb285,3,none⟩=some (.string a0_3):=(kc BK285.out 3).trans rfl;have hfz30_0:=kf BK285.out 0;have hfz30_1:=kf BK285.out 1;have hfz30_2:=kf BK285.out 2;have hfz30_3:=kf BK285.out 3;have hcz31_0:w28.cell? ⟨gb286,0,none⟩=some (.string a1_0):=(kc BK286.out 0).trans rfl;have hcz31_1:w28.cell? ⟨gb286,1,none⟩=some (.int .i64 a1_1):=(kc BK286.out 1).trans rfl;have hcz31_2:w28.cell? ⟨gb286,2,none⟩=some (.int .i64 a1_2):=(kc BK286.out 2).trans rfl;have hcz31_3:w28.cell? ⟨gb286,3,none⟩=some (.string a1_3):=(kc BK286.out 3).trans rfl;have hfz31_0:=kf BK286.out 0;have hfz31_1:=kf BK286.out 1;have hfz31_2:=kf BK286.out 2;have hfz31_3:=kf BK286.out 3))
   go_ret
   exact ⟨by first|rfl|(simp [errW_none,errW_some]<;>rfl)|(simp [*,errW_none,errW_some]<;>rfl),by repeat (first|(with_reducible first|exact HB.out|apply bwa|apply pbN|apply bw1|refine bws ?_ GE285.out|refine bws ?_ GE286.out)|exact HB.out)⟩
 rw [if_pos c3] at H
 have c3b0:(a0_0.toList == a1_0.toList)=true:=beq_iff_eq.mpr c3
 have c3b1:(a0_0.toList != a1_0.toList)=false:=bne_eq_false_iff_eq.mpr c3
 clear c3
 by_cases c4:a0_1=a1_1
 rotate_left
 · rw [if_neg c4] at H
   have c4b0:(a0_1 == a1_1)=false:=beq_eq_false_iff_ne.mpr c4
   have c4b1:(a0_1 != a1_1)=true:=bne_iff_ne.mpr c4
   obtain rfl:=zI H
   go_enter Tryd.func33,Tryd.ntmps33
   go_wp2_with (first|((with_reducible refine gate_dst (N:=2) rfl ?_);refine box_event ?hg (N:=2) ?hd (cs:=#[.string a0_0,.int .i64 a0_1,.int .i64 a0_2,.string a0_3]) (t:=28) ?hr ?_;(case hd=>rfl);(case hg=>rfl);(case hr=>first|(go_simp;done)|(go_simp;rfl));intro gb285 hg w22 hbox hb;have n0_:=AsZ.mk (bwp (by repeat (first|(with_reducible first|exact HB.out|apply bwa|apply pbN|apply bw1)|exact HB.out)) hb);have n1_:=AsZ.mk (hbox);have n2_:=AsZ.mk ((by rw [hg];exact (bwz (by repeat (first|(with_reducible first|exact HB.out|apply bwa|apply pbN|apply bw1)|exact HB.out))):w.heap.size≤gb285));have n3_:=AsZ.mk ((by rw [hg];exact (bwz (by repeat (first|(with_reducible first|exact HB.out|apply bwa|apply pbN|apply bw1)|exact HB.out))):w.heap.size≤gb285));clear HB;have HB:=n0_;have BK285:=n1_;have GW285:=n2_;have GE285:=n3_;clear n0_ n1_ n2_ n3_;clear hb hbox hg)|((with_reducible refine gate_dst (N:=3) rfl ?_);refine box_event ?hg (N:=3) ?hd (cs:=#[.string a1_0,.int .i64 a1_1,.int .i64 a1_2,.string a1_3]) (t:=28) ?hr ?_;(case hd=>rfl);(case hg=>rfl);(case hr=>first|(go_simp;done)|(go_simp;rfl));intro gb286 hg w23 hbox hb;have n0_:=AsZ.mk (kb (g:=gb285) (o := .cells #[.string a0_0,.int .i64 a0_1,.int .i64 a0_2,.string a0_3] 28 (0,0)) (by (with_reducible repeat (first|refine kdN ?_ _|refine kd ?_|refine ka ?_ _));exact BK285.out) hb);have n1_:=AsZ.mk (bwp (by repeat (first|(with_reducible first|exact HB.out|apply bwa|apply pbN|apply bw1|refine bws ?_ GE285.out)|exact HB.out)) hb);have n2_:=AsZ.mk (hbox);have n3_:=AsZ.mk ((by rw [hg];exact (bwz (by repeat (first|(with_reducible first|exact HB.out|apply bwa|apply pbN|apply bw1|refine bws ?_ GE285.out)|exact HB.out))):w.heap.size≤gb286));have n4_:=AsZ.mk ((by rw [hg];exact (bwz (by repeat (first|(with_reducible first|exact HB.out|apply bwa|apply pbN|apply bw1|refine bws ?_ GE285.out)|exact HB.out))):w.heap.size≤gb286));have n5_:=AsZ.mk ((by rw [hg];exact Nat.ne_of_lt (blk_lt (g:=gb285) (o := .cells #[.string a0_0,.int .i64 a0_1,.int .i64 a0_2,.string a0_3] 28 (0,0)) (by (with_reducible repeat (first|refine kdN ?_ _|refine kd ?_|refine ka ?_ _));exact BK285.out)):gb285 ≠ gb286));have n6_:=AsZ.mk ((by rw [hg];exact Nat.ne_of_gt (blk_lt (g:=gb285) (o := .cells #[.string a0_0,.int .i64 a0_1,.int .i64 a0_2,.string a0_3] 28 (0,0)) (by (with_reducible repeat (first|refine kdN ?_ _|refine kd ?_|refine ka ?_ _));exact BK285.out)):gb286 ≠ gb285));clear BK285;clear HB;have BK285:=n0_;have HB:=n1_;have BK286:=n2_;have GW286:=n3_;have GE286:=n4_;have NB285_286:=n5_;have NB286_285:=n6_;clear n0_ n1_ n2_ n3_ n4_ n5_ n6_;clear hb hbox hg;have hnb24:=NB285_286.out;have hnc24:=NB286_285.out;have hcz25_0:w23.cell? ⟨gb285,0,none⟩=some (.string a0_0):=(kc BK285.out 0).trans rfl;have hcz25_1:w23.cell? ⟨gb285,1,none⟩=some (.int .i64 a0_1):=(kc BK285.out 1).trans rfl;have hcz25_2:w23.cell? ⟨gb285,2,none⟩=some (.int .i64 a0_2):=(kc BK285.out 2).trans rfl;have hcz25_3:w23.cell? ⟨gb285,3,none⟩=some (.string a0_3):=(kc BK285.out 3).trans rfl;have hfz25_0:=kf BK285.out 0;have hfz25_1:=kf BK285.out 1;have hfz25_2:=kf BK285.out 2;have hfz25_3:=kf BK285.out 3;have hcz26_0:w23.cell? ⟨gb286,0,none⟩=some (.string a1_0):=(kc BK286.out 0).trans rfl;have hcz26_1:w23.cell? ⟨gb286,1,none⟩=some (.int .i64 a1_1):=(kc BK286.out 1).trans rfl;have hcz26_2:w23.cell? ⟨gb286,2,none⟩=some (.int .i64 a1_2):=(kc BK286.out 2).trans rfl;have hcz26_3:w23.cell? ⟨gb286,3,none⟩=some (.string a1_3):=(kc BK286.out 3).trans rfl;have hfz26_0:=kf BK286.out 0;have hfz26_1:=kf BK286.out 1;have hfz26_2:=kf BK286.out 2;have hfz26_3:=kf BK286.out 3))
   go_ret
   exact ⟨by first|rfl|(simp [errW_none,errW_some]<;>rfl)|(simp [*,errW_none,errW_some]<;>rfl),by repeat (first|(with_reducible first|exact HB.out|apply bwa|apply pbN|apply bw1|refine bws ?_ GE285.out|refine bws ?_ GE286.out)|exact HB.out)⟩
 rw [if_pos c4] at H
 have c4b0:(a0_1 == a1_1)=true:=beq_iff_eq.mpr c4
 have c4b1:(a0_1 != a1_1)=false:=bne_eq_false_iff_eq.mpr c4
 clear c4
 by_cases c5:a0_2=a1_2
 rotate_left
 · rw [if_neg c5] at H
   have c5b0:(a0_2 == a1_2)=false:=beq_eq_false_iff_ne.mpr c5
   have c5b1:(a0_2 != a1_2)=true:=bne_iff_ne.mpr c5
   obtain rfl:=zI H
   go_enter Tryd.func33,Tryd.ntmps33
   go_wp2_with (first|((with_reducible refine gate_dst (N:=2) rfl ?_);refine box_event ?hg (N:=2) ?hd (cs:=#[.string a0_0,.int .i64 a0_1,.int .i64 a0_2,.string a0_3]) (t:=28) ?hr ?_;(case hd=>rfl);(case hg=>rfl);(case hr=>first|(go_simp;done)|(go_simp;rfl));intro gb285 hg w17 hbox hb;have n0_:=AsZ.mk (bwp (by repeat (first|(with_reducible first|exact HB.out|apply bwa|apply pbN|apply bw1)|exact HB.out)) hb);have n1_:=AsZ.mk (hbox);have n2_:=AsZ.mk ((by rw [hg];exact (bwz (by repeat (first|(with_reducible first|exact HB.out|apply bwa|apply pbN|apply bw1)|exact HB.out))):w.heap.size≤gb285));have n3_:=AsZ.mk ((by rw [hg];exact (bwz (by repeat (first|(with_reducible first|exact HB.out|apply bwa|apply pbN|apply bw1)|exact HB.out))):w.heap.size≤gb285));clear HB;have HB:=n0_;have BK285:=n1_;have GW285:=n2_;have GE285:=n3_;clear n0_ n1_ n2_ n3_;clear hb hbox hg)|((with_reducible refine gate_dst (N:=3) rfl ?_);refine box_event ?hg (N:=3) ?hd (cs:=#[.string a1_0,.int .i64 a1_1,.int .i64 a1_2,.string a1_3]) (t:=28) ?hr ?_;(case hd=>rfl);(case hg=>rfl);(case hr=>first|(go_simp;done)|(go_simp;rfl));intro gb286 hg w18 hbox hb;have n0_:=AsZ.mk (kb (g:=gb285) (o := .cells #[.string a0_0,.int .i64 a0_1,.int .i64 a0_2,.string a0_3] 28 (0,0)) (by (with_reducible repeat (first|refine kdN ?_ _|refine kd ?_|refine ka ?_ _));exact BK285.out) hb);have n1_:=AsZ.mk (bwp (by repeat (first|(with_reducible first|exact HB.out|apply bwa|apply pbN|apply bw1|refine bws ?_ GE285.out)|exact HB.out)) hb);have n2_:=AsZ.mk (hbox);have n3_:=AsZ.mk ((by rw [hg];exact (bwz (by repeat (first|(with_reducible first|exact HB.out|apply bwa|apply pbN|apply bw1|refine bws ?_ GE285.out)|exact HB.out))):w.heap.size≤gb286));have n4_:=AsZ.mk ((by rw [hg];exact (bwz (by repeat (first|(with_reducible first|exact HB.out|apply bwa|apply pbN|apply bw1|refine bws ?_ GE285.out)|exact HB.out))):w.heap.size≤gb286));have n5_:=AsZ.mk ((by rw [hg];exact Nat.ne_of_lt (blk_lt (g:=gb285) (o := .cells #[.string a0_0,.int .i64 a0_1,.int .i64 a0_2,.string a0_3] 28 (0,0)) (by (with_reducible repeat (first|refine kdN ?_ _|refine kd ?_|refine ka ?_ _));exact BK285.out)):gb285 ≠ gb286));have n6_:=AsZ.mk ((by rw [hg];exact Nat.ne_of_gt (blk_lt (g:=gb285) (o := .cells #[.string a0_0,.int .i64 a0_1,.int .i64 a0_2,.string a0_3] 28 (0,0)) (by (with_reducible repeat (first|refine kdN ?_ _|refine kd ?_|refine ka ?_ _));exact BK285.out)):gb286 ≠ gb285));clear BK285;clear HB;have BK285:=n0_;have HB:=n1_;have BK286:=n2_;have GW286:=n3_;have GE286:=n4_;have NB285_286:=n5_;have NB286_285:=n6_;clear n0_ n1_ n2_ n3_ n4_ n5_ n6_;clear hb hbox hg;have hnb19:=NB285_286.out;have hnc19:=NB286_285.out;have hcz20_0:w18.cell? ⟨gb285,0,none⟩=some (.string a0_0):=(kc BK285.out 0).trans rfl;have hcz20_1:w18.cell? ⟨gb285,1,none⟩=some (.int .i64 a0_1):=(kc BK285.out 1).trans rfl;have hcz20_2:w18.cell? ⟨gb285,2,none⟩=some (.int .i64 a0_2):=(kc BK285.out 2).trans rfl;have hcz20_3:w18.cell? ⟨gb285,3,none⟩=some (.string a0_3):=(kc BK285.out 3).trans rfl;have hfz20_0:=kf BK285.out 0;have hfz20_1:=kf BK285.out 1;have hfz20_2:=kf BK285.out 2;have hfz20_3:=kf BK285.out 3;have hcz21_0:w18.cell? ⟨gb286,0,none⟩=some (.string a1_0):=(kc BK286.out 0).trans rfl;have hcz21_1:w18.cell? ⟨gb286,1,none⟩=some (.int .i64 a1_1):=(kc BK286.out 1).trans rfl;have hcz21_2:w18.cell? ⟨gb286,2,none⟩=some (.int .i64 a1_2):=(kc BK286.out 2).trans rfl;have hcz21_3:w18.cell? ⟨gb286,3,none⟩=some (.string a1_3):=(kc BK286.out 3).trans rfl;have hfz21_0:=kf BK286.out 0;have hfz21_1:=kf BK286.out 1;have hfz21_2:=kf BK286.out 2;have hfz21_3:=kf BK286.out 3))
   go_ret
   exact ⟨by first|rfl|(simp [errW_none,errW_some]<;>rfl)|(simp [*,errW_none,errW_some]<;>rfl),by repeat (first|(with_reducible first|exact HB.out|apply bwa|apply pbN|apply bw1|refine bws ?_ GE285.out|refine bws ?_ GE286.out)|exact HB.out)⟩
 rw [if_pos c5] at H
 have c5b0:(a0_2 == a1_2)=true:=beq_iff_eq.mpr c5
 have c5b1:(a0_2 != a1_2)=false:=bne_eq_false_iff_eq.mpr c5
 clear c5
 by_cases c6:a0_3.toList=a1_3.toList
 · rw [if_pos c6] at H
   have c6b0:(a0_3.toList == a1_3.toList)=true:=beq_iff_eq.mpr c6
   have c6b1:(a0_3.toList != a1_3.toList)=false:=bne_eq_false_iff_eq.mpr c6
   clear c6
   obtain rfl:=zI H
   go_enter Tryd.func33,Tryd.ntmps33
   go_wp2_with (first|((with_reducible refine gate_dst (N:=2) rfl ?_);refine box_event ?hg (N:=2) ?hd (cs:=#[.string a0_0,.int .i64 a0_1,.int .i64 a0_2,.string a0_3]) (t:=28) ?hr ?_;(case hd=>rfl);(case hg=>rfl);(case hr=>first|(go_simp;done)|(go_simp;rfl));intro gb285 hg w7 hbox hb;have n0_:=AsZ.mk (bwp (by repeat (first|(with_reducible first|exact HB.out|apply bwa|apply pbN|apply bw1)|exact HB.out)) hb);have n1_:=AsZ.mk (hbox);have n2_:=AsZ.mk ((by rw [hg];exact (bwz (by repeat (first|(with_reducible first|exact HB.out|apply bwa|apply pbN|apply bw1)|exact HB.out))):w.heap.size≤gb285));have n3_:=AsZ.mk ((by rw [hg];exact (bwz (by repeat (first|(with_reducible first|exact HB.out|apply bwa|apply pbN|apply bw1)|exact HB.out))):w.heap.size≤gb285));clear HB;have HB:=n0_;have BK285:=n1_;have GW285:=n2_;have GE285:=n3_;clear n0_ n1_ n2_ n3_;clear hb hbox hg)|((with_reducible refine gate_dst (N:=3) rfl ?_);refine box_event ?hg (N:=3) ?hd (cs:=#[.string a1_0,.int .i64 a1_1,.int .i64 a1_2,.string a1_3]) (t:=28) ?hr ?_;(case hd=>rfl);(case hg=>rfl);(case hr=>first|(go_simp;done)|(go_simp;rfl));intro gb286 hg w8 hbox hb;have n0_:=AsZ.mk (kb (g:=gb285) (o := .cells #[.string a0_0,.int .i64 a0_1,.int .i64 a0_2,.string a0_3] 28 (0,0)) (by (with_reducible repeat (first|refine kdN ?_ _|refine kd ?_|refine ka ?_ _));exact BK285.out) hb);have n1_:=AsZ.mk (bwp (by repeat (first|(with_reducible first|exact HB.out|apply bwa|apply pbN|apply bw1|refine bws ?_ GE285.out)|exact HB.out)) hb);have n2_:=AsZ.mk (hbox);have n3_:=AsZ.mk ((by rw [hg];exact (bwz (by repeat (first|(with_reducible first|exact HB.out|apply bwa|apply pbN|apply bw1|refine bws ?_ GE285.out)|exact HB.out))):w.heap.size≤gb286));have n4_:=AsZ.mk ((by rw [hg];exact (bwz (by repeat (first|(with_reducible first|exact HB.out|apply bwa|apply pbN|apply bw1|refine bws ?_ GE285.out)|exact HB.out))):w.heap.size≤gb286));have n5_:=AsZ.mk ((by rw [hg];exact Nat.ne_of_lt (blk_lt (g:=gb285) (o := .cells #[.string a0_0,.int .i64 a0_1,.int .i64 a0_2,.string a0_3] 28 (0,0)) (by (with_reducible repeat (first|refine kdN ?_ _|refine kd ?_|refine ka ?_ _));exact BK285.out)):gb285 ≠ gb286));have n6_:=AsZ.mk ((by rw [hg];exact Nat.ne_of_gt (blk_lt (g:=gb285) (o := .cells #[.string a0_0,.int .i64 a0_1,.int .i64 a0_2,.string a0_3] 28 (0,0)) (by (with_reducible repeat (first|refine kdN ?_ _|refine kd ?_|refine ka ?_ _));exact BK285.out)):gb286 ≠ gb285));clear BK285;clear HB;have BK285:=n0_;have HB:=n1_;have BK286:=n2_;have GW286:=n3_;have GE286:=n4_;have NB285_286:=n5_;have NB286_285:=n6_;clear n0_ n1_ n2_ n3_ n4_ n5_ n6_;clear hb hbox hg;have hnb9:=NB285_286.out;have hnc9:=NB286_285.out;have hcz10_0:w8.cell? ⟨gb285,0,none⟩=some (.string a0_0):=(kc BK285.out 0).trans rfl;have hcz10_1:w8.cell? ⟨gb285,1,none⟩=some (.int .i64 a0_1):=(kc BK285.out 1).trans rfl;have hcz10_2:w8.cell? ⟨gb285,2,none⟩=some (.int .i64 a0_2):=(kc BK285.out 2).trans rfl;have hcz10_3:w8.cell? ⟨gb285,3,none⟩=some (.string a0_3):=(kc BK285.out 3).trans rfl;have hfz10_0:=kf BK285.out 0;have hfz10_1:=kf BK285.out 1;have hfz10_2:=kf BK285.out 2;have hfz10_3:=kf BK285.out 3;have hcz11_0:w8.cell? ⟨gb286,0,none⟩=some (.string a1_0):=(kc BK286.out 0).trans rfl;have hcz11_1:w8.cell? ⟨gb286,1,none⟩=some (.int .i64 a1_1):=(kc BK286.out 1).trans rfl;have hcz11_2:w8.cell? ⟨gb286,2,none⟩=some (.int .i64 a1_2):=(kc BK286.out 2).trans rfl;have hcz11_3:w8.cell? ⟨gb286,3,none⟩=some (.string a1_3):=(kc BK286.out 3).trans rfl;have hfz11_0:=kf BK286.out 0;have hfz11_1:=kf BK286.out 1;have hfz11_2:=kf BK286.out 2;have hfz11_3:=kf BK286.out 3))
   go_ret
   exact ⟨by first|rfl|(simp [errW_none,errW_some]<;>rfl)|(simp [*,errW_none,errW_some]<;>rfl),by repeat (first|(with_reducible first|exact HB.out|apply bwa|apply pbN|apply bw1|refine bws ?_ GE285.out|refine bws ?_ GE286.out)|exact HB.out)⟩
 rw [if_neg c6] at H
 have c6b0:(a0_3.toList == a1_3.toList)=false:=beq_eq_false_iff_ne.mpr c6
 have c6b1:(a0_3.toList != a1_3.toList)=true:=bne_iff_ne.mpr c6
 obtain rfl:=zI H
 go_enter Tryd.func33,Tryd.ntmps33
 go_wp2_with (first|((with_reducible refine gate_dst (N:=2) rfl ?_);refine box_event ?hg (N:=2) ?hd (cs:=#[.string a0_0,.int .i64 a0_1,.int .i64 a0_2,.string a0_3]) (t:=28) ?hr ?_;(case hd=>rfl);(case hg=>rfl);(case hr=>first|(go_simp;done)|(go_simp;rfl));intro gb285 hg w12 hbox hb;have n0_:=AsZ.mk (bwp (by repeat (first|(with_reducible first|exact HB.out|apply bwa|apply pbN|apply bw1)|exact HB.out)) hb);have n1_:=AsZ.mk (hbox);have n2_:=AsZ.mk ((by rw [hg];exact (bwz (by repeat (first|(with_reducible first|exact HB.out|apply bwa|apply pbN|apply bw1)|exact HB.out))):w.heap.size≤gb285));have n3_:=AsZ.mk ((by rw [hg];exact (bwz (by repeat (first|(with_reducible first|exact HB.out|apply bwa|apply pbN|apply bw1)|exact HB.out))):w.heap.size≤gb285));clear HB;have HB:=n0_;have BK285:=n1_;have GW285:=n2_;have GE285:=n3_;clear n0_ n1_ n2_ n3_;clear hb hbox hg)|((with_reducible refine gate_dst (N:=3) rfl ?_);refine box_event ?hg (N:=3) ?hd (cs:=#[.string a1_0,.int .i64 a1_1,.int .i64 a1_2,.string a1_3]) (t:=28) ?hr ?_;(case hd=>rfl);(case hg=>rfl);(case hr=>first|(go_simp;done)|(go_simp;rfl));intro gb286 hg w13 hbox hb;have n0_:=AsZ.mk (kb (g:=gb285) (o := .cells #[.string a0_0,.int .i64 a0_1,.int .i64 a0_2,.string a0_3] 28 (0,0)) (by (with_reducible repeat (first|refine kdN ?_ _|refine kd ?_|refine ka ?_ _));exact BK285.out) hb);have n1_:=AsZ.mk (bwp (by repeat (first|(with_reducible first|exact HB.out|apply bwa|apply pbN|apply bw1|refine bws ?_ GE285.out)|exact HB.out)) hb);have n2_:=AsZ.mk (hbox);have n3_:=AsZ.mk ((by rw [hg];exact (bwz (by repeat (first|(with_reducible first|exact HB.out|apply bwa|apply pbN|apply bw1|refine bws ?_ GE285.out)|exact HB.out))):w.heap.size≤gb286));have n4_:=AsZ.mk ((by rw [hg];exact (bwz (by repeat (first|(with_reducible first|exact HB.out|apply bwa|apply pbN|apply bw1|refine bws ?_ GE285.out)|exact HB.out))):w.heap.size≤gb286));have n5_:=AsZ.mk ((by rw [hg];exact Nat.ne_of_lt (blk_lt (g:=gb285) (o := .cells #[.string a0_0,.int .i64 a0_1,.int .i64 a0_2,.string a0_3] 28 (0,0)) (by (with_reducible repeat (first|refine kdN ?_ _|refine kd ?_|refine ka ?_ _));exact BK285.out)):gb285 ≠ gb286));have n6_:=AsZ.mk ((by rw [hg];exact Nat.ne_of_gt (blk_lt (g:=gb285) (o := .cells #[.string a0_0,.int .i64 a0_1,.int .i64 a0_2,.string a0_3] 28 (0,0)) (by (with_reducible repeat (first|refine kdN ?_ _|refine kd ?_|refine ka ?_ _));exact BK285.out)):gb286 ≠ gb285));clear BK285;clear HB;have BK285:=n0_;have HB:=n1_;have BK286:=n2_;have GW286:=n3_;have GE286:=n4_;have NB285_286:=n5_;have NB286_285:=n6_;clear n0_ n1_ n2_ n3_ n4_ n5_ n6_;clear hb hbox hg;have hnb14:=NB285_286.out;have hnc14:=NB286_285.out;have hcz15_0:w13.cell? ⟨gb285,0,none⟩=some (.string a0_0):=(kc BK285.out 0).trans rfl;have hcz15_1:w13.cell? ⟨gb285,1,none⟩=some (.int .i64 a0_1):=(kc BK285.out 1).trans rfl;have hcz15_2:w13.cell? ⟨gb285,2,none⟩=some (.int .i64 a0_2):=(kc BK285.out 2).trans rfl;have hcz15_3:w13.cell? ⟨gb285,3,none⟩=some (.string a0_3):=(kc BK285.out 3).trans rfl;have hfz15_0:=kf BK285.out 0;have hfz15_1:=kf BK285.out 1;have hfz15_2:=kf BK285.out 2;have hfz15_3:=kf BK285.out 3;have hcz16_0:w13.cell? ⟨gb286,0,none⟩=some (.string a1_0):=(kc BK286.out 0).trans rfl;have hcz16_1:w13.cell? ⟨gb286,1,none⟩=some (.int .i64 a1_1):=(kc BK286.out 1).trans rfl;have hcz16_2:w13.cell? ⟨gb286,2,none⟩=some (.int .i64 a1_2):=(kc BK286.out 2).trans rfl;have hcz16_3:w13.cell? ⟨gb286,3,none⟩=some (.string a1_3):=(kc BK286.out 3).trans rfl;have hfz16_0:=kf BK286.out 0;have hfz16_1:=kf BK286.out 1;have hfz16_2:=kf BK286.out 2;have hfz16_3:=kf BK286.out 3))
 go_ret
 exact ⟨by first|rfl|(simp [errW_none,errW_some]<;>rfl)|(simp [*,errW_none,errW_some]<;>rfl),by repeat (first|(with_reducible first|exact HB.out|apply bwa|apply pbN|apply bw1|refine bws ?_ GE285.out|refine bws ?_ GE286.out)|exact HB.out)⟩
end Go.Proofs.YtffjlpphcjfdgaaDoor.MFnExactListSkip
