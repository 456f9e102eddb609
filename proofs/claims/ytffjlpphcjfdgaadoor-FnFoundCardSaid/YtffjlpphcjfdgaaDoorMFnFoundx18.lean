-- Written by a program of this session out of the translation. Not trusted: Lean checks it.
import Derived.Test.YtffjlpphcjfdgaaDoorMFnFoundx0
import Derived.Test.YtffjlpphcjfdgaaDoorMFnFoundx10
import Derived.Test.YtffjlpphcjfdgaaDoorMFnFoundx11
import Derived.Test.YtffjlpphcjfdgaaDoorMFnFoundx15
import Derived.Test.YtffjlpphcjfdgaaDoorMFnFoundx17
namespace Go.Proofs.YtffjlpphcjfdgaaDoor.MFnFound
-- short
-- shrunk
-- TAB
-- RD
open Go.Proofs.YtffjlpphcjfdgaaDoor Go.RowKit Go.Proofs.YtffjlpphcjfdgaaDoorW.PrintWords Go.Proofs.YtffjlpphcjfdgaaDoorW.PrintLast Go.Proofs.YtffjlpphcjfdgaaDoorW.PrintMore Go.Proofs.YtffjlpphcjfdgaaDoorX
attribute [local go_sem] max2_int min2_int max_two min_two max_three min_three max_four min_four str_gtr str_leq str_geq cell_twice
set_option linter.unusedVariables false
set_option linter.unusedSimpArgs false
-- COMPACT
/-! ### spec_DrawSeekSkip: function 73 -/
def spec_DrawSeekSkip.f (k:Nat) (l0:List Int):Option (List Int × (List (S77)) × ByteArray × Int):=(spec_l1Cur_skip.f k l0 0 0).bind fun bt468=>((spec_l1Cur_key.f l0 bt468.2.2.1 bt468.2.2.2).bind fun bt476=>((spec_l1Cur_pick.f l0 bt476.2.1 bt476.2.2 24).bind fun bt479=>(some (bt468.1,bt468.2.1,bt476.1,bt479.1))))
theorem spec_DrawSeekSkip.mono:∀ a0 k,LeO (spec_DrawSeekSkip.f k a0) (spec_DrawSeekSkip.f (k + 1) a0):=by
  intro a0 k
  unfold spec_DrawSeekSkip.f
  repeat' first|(with_reducible first|exact spec_l1Cur_skip.mono _ _ _ _|exact LeO.refl _|exact LeO.none _|refine LeO.ite ?_ ?_|refine LeO.bind ?_ (fun _=>?_))|exact spec_l1Cur_skip.mono _ _ _ _|exact LeO.none _|refine LeO.ite ?_ ?_|refine LeO.bind ?_ (fun _=>?_)
set_option maxHeartbeats 8000000 in
set_option maxRecDepth 100000 in
theorem spec_DrawSeekSkip.calls (k:Nat) (A0:Option Addr) (c0:Nat) (l0:List Int) (r1:List Int) (r2:List (S77)) (r3:ByteArray) (r4:Int) (w:World) (hr0:Kd.C (Kd.int .u8) w A0 l0.length l0) (hc0:l0.length≤c0) (h:spec_DrawSeekSkip.f k l0=some (r1,r2,r3,r4)) :
    Calls Tryd.prog 73 #[.slice A0 l0.length c0] w fun e w' => ∃ v0_ v1_:Value,e = .returned (.tuple #[.agg #[v0_,v1_],.string r3,.int .i64 r4])∧Kd.Q (Kd.int .i64) 3 w' w.heap.size (fun _=>True) v0_ r1∧Kd.S k77 77 w' w.heap.size (fun k_=>some k_ ≠ (v0_:Value).ownBlock) v1_ r2∧Below w.heap.size w w':=by
 have hu26:=Tryd.underlying26
 have hu68:=Tryd.underlying68
 have HR0:=AsZ.mk hr0
 have HC0:=AsZ.mk hc0
 clear hr0 hc0
 have HB:=AsZ.mk (Below.refl w.heap.size w)
 have H:((spec_l1Cur_skip.f k l0 0 0).bind fun bt468=>((spec_l1Cur_key.f l0 bt468.2.2.1 bt468.2.2.2).bind fun bt476=>((spec_l1Cur_pick.f l0 bt476.2.1 bt476.2.2 24).bind fun bt479=>(some (bt468.1,bt468.2.1,bt476.1,bt479.1)))))=some (r1,r2,r3,r4):=h
 clear h
 replace H:=bs H
 obtain ⟨⟨t468,t471,t474,t475⟩,A2,H⟩:=H
 replace H:=bs H
 obtain ⟨⟨t476,t477,t478⟩,A3,H⟩:=H
 replace H:=bs H
 obtain ⟨⟨t479,t480,t481⟩,A4,H⟩:=H
 simp only [Option.some.injEq,Prod.mk.injEq] at H
 obtain ⟨rfl,rfl,rfl,rfl⟩:=H
 go_enter Tryd.func73,Tryd.ntmps73
 go_wp2_with (first|((with_reducible refine gate_dst (N:=2) rfl ?_);refine bev 2 26 (cs:=#[.slice none 0 0,.slice none 0 0]) ?_;intro gb466 hg w5 hbox hb;have BK466:=AsZ.mk (hbox);have GW466:=gz HB hg;have GE466:=gz HB hg;replace HB:=bp hb;clear hb hbox hg)|((with_reducible refine gate_dst (N:=8) rfl ?_);refine bev 8 68 (cs:=#[.slice A0 l0.length c0,.int .i64 0,.int .u64 0]) ?_;intro gb467 hg w6 hbox hb;have GW467:=gz HB hg;have GE467:=gz HB hg;have NB466_467:=nl BK466 hg;have NB467_466:=nr BK466 hg;have HI467:=AsZ.mk ((show IsS68 w w6 gb467 l0 0 0 from ⟨_,_,hbox,(by rw [hg];exact (bwz bel)),HR0.out,HC0.out⟩));replace BK466:=bb BK466 hb;replace HB:=bp hb;clear hb hbox hg)|((with_reducible refine gcl (f:=37) rfl ?_);refine goesL_ (some 10) rfl rfl Tryd.func37 (by kernel_rfl) rfl #[.pointer (some ⟨gb467,0,none⟩)] rfl gl ?_;(with_reducible refine (spec_l1Cur_skip.calls k gb467 l0 0 0 t468 t471 t474 t475 w _ ?side1 ?side2 A2.out).mono ?_);(case side1=>exact st68 HI467);(case side2=>exact bel);rintro e w7 ⟨v469,v472,rfl,ho0,ho1,hi,hb,hk⟩;refine ⟨_,rfl,?_⟩;have HO470:=AsZ.mk (Kd.Q_lower ho0 (bwz bel));have HO473:=AsZ.mk (Kd.S_lower ho1 (bwz bel));replace BK466:=AsZ.mk (KeepBut.blk hk (bk BK466) NB466_467.out (by simp));replace HB:=AsZ.mk (hb);replace HI467:=AsZ.mk (hi);(try clear hb);(try clear hb2);(try clear hk);(try clear hi);(try clear ho0);(try clear ho1))|((with_reducible refine gcl (f:=77) rfl ?_);refine goesL_ (some 12) rfl rfl Tryd.func77 (by kernel_rfl) rfl #[.pointer (some ⟨gb467,0,none⟩)] rfl gl ?_;(with_reducible refine (spec_l1Cur_key.calls gb467 l0 t474 t475 t476 t477 t478 w _ ?side1 ?side2 A3.out).mono ?_);(case side1=>exact st68 HI467);(case side2=>exact bel);rintro e w8 ⟨rfl,hi,hb,hk⟩;refine ⟨_,rfl,?_⟩;replace BK466:=AsZ.mk (KeepBut.blk hk (bk BK466) NB466_467.out (by simp));replace HO470:=AsZ.mk (Kd.Q_mono (Kd.Q_keep (IsS68.apartQ (show IsS68 w _ gb467 l0 t474 t475 from st68 HI467) (kQ HO470) (by decide)) hk (fun _ h=>h.2)) (fun _ h=>h.1));replace HO473:=AsZ.mk (Kd.S_mono (Kd.S_keep (IsS68.apartS (show IsS68 w _ gb467 l0 t474 t475 from st68 HI467) (kS HO473) (by decide)) hk (fun _ h=>h.2)) (fun _ h=>h.1));replace HB:=AsZ.mk (hb);replace HI467:=AsZ.mk (hi);(try clear hb);(try clear hb2);(try clear hk);(try clear hi))|((with_reducible refine gcl (f:=75) rfl ?_);refine goesL_ (some 14) rfl rfl Tryd.func75 (by kernel_rfl) rfl #[.pointer (some ⟨gb467,0,none⟩),.int .i64 24] rfl gl ?_;(with_reducible refine (spec_l1Cur_pick.calls gb467 l0 t477 t478 24 t479 t480 t481 w _ ?side1 ?side2 A4.out).mono ?_);(case side1=>exact st68 HI467);(case side2=>exact bel);rintro e w9 ⟨rfl,hi,hb,hk⟩;refine ⟨_,rfl,?_⟩;replace BK466:=AsZ.mk (KeepBut.blk hk (bk BK466) NB466_467.out (by simp));replace HO470:=AsZ.mk (Kd.Q_mono (Kd.Q_keep (IsS68.apartQ (show IsS68 w _ gb467 l0 t477 t478 from st68 HI467) (kQ HO470) (by decide)) hk (fun _ h=>h.2)) (fun _ h=>h.1));replace HO473:=AsZ.mk (Kd.S_mono (Kd.S_keep (IsS68.apartS (show IsS68 w _ gb467 l0 t477 t478 from st68 HI467) (kS HO473) (by decide)) hk (fun _ h=>h.2)) (fun _ h=>h.1));replace HB:=AsZ.mk (hb);replace HI467:=AsZ.mk (hi);(try clear hb);(try clear hb2);(try clear hk);(try clear hi);obtain ⟨Ao10,co10,eo10,_⟩:=Kd.Q_slice HO470.out;subst eo10;have hnb11:=NB466_467.out;have hnc11:=NB467_466.out;obtain ⟨hcz12_0,hcz12_1,hfz12_0,hfz12_1⟩:=bx2 BK466;obtain ⟨Ao13,co13,eo13⟩:=Kd.S_slice HO473.out;subst eo13))
 refine bodyPost_ret (results_ctt rfl _ _ gb466 26 #[.slice Ao10 t468.length co10,.slice Ao13 t471.length co13] (0,0) _ rfl (bq BK466) Tryd.underlying26 rfl (by kernel_rfl)) rfl ?_
 exact ⟨_,_,re,by (with_reducible repeat (first|apply Kd.Q_alloc|apply Kd.Q_drewN|apply Kd.Q_drew));exact Kd.Q_mono (fQ (fQ (Kd.Q_types HO470.out BK466.out (by decide)))) (fun _ hk=>trivial),by (with_reducible repeat (first|apply Kd.S_alloc|apply Kd.S_drewN|apply Kd.S_drew));exact Kd.S_mono (fS (fS (Kd.S_types HO473.out BK466.out (by decide)))) (fun _ hk=>hk.1),bel⟩
/-! ### spec_DrawFindSkip: function 34 -/
def spec_DrawFindSkip.f (k:Nat) (l0:List Int):Option (List Int × (List (S77)) × ByteArray × Int):=(spec_DrawSeekSkip.f k l0).bind fun bt483=>(some (bt483.1,bt483.2.1,bt483.2.2.1,bt483.2.2.2))
theorem spec_DrawFindSkip.mono:∀ a0 k,LeO (spec_DrawFindSkip.f k a0) (spec_DrawFindSkip.f (k + 1) a0):=by
  intro a0 k
  unfold spec_DrawFindSkip.f
  repeat' first|(with_reducible first|exact spec_DrawSeekSkip.mono _ _|exact LeO.refl _|exact LeO.none _|refine LeO.ite ?_ ?_|refine LeO.bind ?_ (fun _=>?_))|exact spec_DrawSeekSkip.mono _ _|exact LeO.none _|refine LeO.ite ?_ ?_|refine LeO.bind ?_ (fun _=>?_)
set_option maxHeartbeats 8000000 in
set_option maxRecDepth 100000 in
theorem spec_DrawFindSkip.calls (k:Nat) (A0:Option Addr) (c0:Nat) (l0:List Int) (r1:List Int) (r2:List (S77)) (r3:ByteArray) (r4:Int) (w:World) (hr0:Kd.C (Kd.int .u8) w A0 l0.length l0) (hc0:l0.length≤c0) (h:spec_DrawFindSkip.f k l0=some (r1,r2,r3,r4)) :
    Calls Tryd.prog 34 #[.slice A0 l0.length c0] w fun e w' => ∃ v0_ v1_:Value,e = .returned (.tuple #[.agg #[v0_,v1_],.string r3,.int .i64 r4])∧Kd.Q (Kd.int .i64) 3 w' w.heap.size (fun _=>True) v0_ r1∧Kd.S k77 77 w' w.heap.size (fun k_=>some k_ ≠ (v0_:Value).ownBlock) v1_ r2∧Below w.heap.size w w':=by
 have hu26:=Tryd.underlying26
 have HR0:=AsZ.mk hr0
 have HC0:=AsZ.mk hc0
 clear hr0 hc0
 have HB:=AsZ.mk (Below.refl w.heap.size w)
 have H:((spec_DrawSeekSkip.f k l0).bind fun bt483=>(some (bt483.1,bt483.2.1,bt483.2.2.1,bt483.2.2.2)))=some (r1,r2,r3,r4):=h
 clear h
 replace H:=bs H
 obtain ⟨⟨t483,t486,t489,t490⟩,A2,H⟩:=H
 simp only [Option.some.injEq,Prod.mk.injEq] at H
 obtain ⟨rfl,rfl,rfl,rfl⟩:=H
 go_enter Tryd.func34,Tryd.ntmps34
 go_wp2_with (first|((with_reducible refine gate_dst (N:=2) rfl ?_);refine bev 2 26 (cs:=#[.slice none 0 0,.slice none 0 0]) ?_;intro gb482 hg w3 hbox hb;have BK482:=AsZ.mk (hbox);have GW482:=gz HB hg;have GE482:=gz HB hg;replace HB:=bp hb;clear hb hbox hg)|((with_reducible refine gcl (f:=73) rfl ?_);refine goesL_ (some 6) rfl rfl Tryd.func73 (by kernel_rfl) rfl #[.slice A0 l0.length c0] rfl gl ?_;(with_reducible refine (spec_DrawSeekSkip.calls k _ _ l0 t483 t486 t489 t490 _ ?side1 ?side2 A2.out).mono ?_);(case side1=>exact cC (Kd.C_below HR0.out HB.out));(case side2=>exact HC0.out);rintro e w4 ⟨v484,v487,rfl,ho0,ho1,hb⟩;refine ⟨_,rfl,?_⟩;have HO485:=AsZ.mk (Kd.Q_lower ho0 (bwz bel));have HO488:=AsZ.mk (Kd.S_lower ho1 (bwz bel));replace BK482:=bb BK482 hb;replace HB:=bp hb;(try clear hb);(try clear hb2);(try clear hk);(try clear hi);(try clear ho0);(try clear ho1);obtain ⟨Ao5,co5,eo5,_⟩:=Kd.Q_slice HO485.out;subst eo5;obtain ⟨hcz6_0,hcz6_1,hfz6_0,hfz6_1⟩:=bx2 BK482;obtain ⟨Ao7,co7,eo7⟩:=Kd.S_slice HO488.out;subst eo7))
 refine bodyPost_ret (results_ctt rfl _ _ gb482 26 #[.slice Ao5 t483.length co5,.slice Ao7 t486.length co7] (0,0) _ rfl (bq BK482) Tryd.underlying26 rfl (by kernel_rfl)) rfl ?_
 exact ⟨_,_,re,by (with_reducible repeat (first|apply Kd.Q_alloc|apply Kd.Q_drewN|apply Kd.Q_drew));exact Kd.Q_mono (fQ (fQ (Kd.Q_types HO485.out BK482.out (by decide)))) (fun _ hk=>trivial),by (with_reducible repeat (first|apply Kd.S_alloc|apply Kd.S_drewN|apply Kd.S_drew));exact Kd.S_mono (fS (fS (Kd.S_types HO488.out BK482.out (by decide)))) (fun _ hk=>hk.1),bel⟩
/-! ### impl_FindSkip: function 35 -/
def impl_FindSkip.j0:Nat→Bool→ByteArray→Int→Int→ByteArray→Option (ByteArray × Int × Int × ByteArray × Bool)
  |0,_,_,_,_,_=>none
  |k + 1,x26,x500000,x500001,x500002,x500003=>if x26=true then (some ((⟨#[]⟩:ByteArray),0,0,(⟨#[]⟩:ByteArray),false)) else (some (x500000,x500001,x500002,x500003,true))
def impl_FindSkip.f (k:Nat) (l0_0:List Int) (l0_1:List (S77)) (a1:ByteArray) (a2:Int):Option (ByteArray × Int × Int × ByteArray × Bool):=(impl_SeekSkip.f k l0_0 l0_1 a1 a2).bind fun bt493=>(if bt493.2.2.2.2.2=true then (impl_FindSkip.j0 k (bt493.1.toList != a1.toList) bt493.1 bt493.2.1 bt493.2.2.1 bt493.2.2.2.1) else (impl_FindSkip.j0 k true bt493.1 bt493.2.1 bt493.2.2.1 bt493.2.2.2.1))
theorem impl_FindSkip.mono_l:∀ k,(∀ y0 y1 y2 y3 y4,LeO (impl_FindSkip.j0 k y0 y1 y2 y3 y4) (impl_FindSkip.j0 (k + 1) y0 y1 y2 y3 y4))
  |0=>fun _ _ _ _ _ r h=>by simp [impl_FindSkip.j0] at h
  |k + 1=>by
    have ih0:=impl_FindSkip.mono_l k
    · intro y0 y1 y2 y3 y4
      unfold impl_FindSkip.j0
      repeat' first|(with_reducible first|exact ih0 _ _ _ _ _|exact impl_SeekSkip.mono _ _ _ _ _|exact LeO.refl _|exact LeO.none _|refine LeO.ite ?_ ?_|refine LeO.bind ?_ (fun _=>?_))|exact ih0 _ _ _ _ _|exact impl_SeekSkip.mono _ _ _ _ _|exact LeO.none _|refine LeO.ite ?_ ?_|refine LeO.bind ?_ (fun _=>?_)
theorem impl_FindSkip.mono:∀ a0 a1 a2 a3 k,LeO (impl_FindSkip.f k a0 a1 a2 a3) (impl_FindSkip.f (k + 1) a0 a1 a2 a3):=by
  intro a0 a1 a2 a3 k
  have ih0:=impl_FindSkip.mono_l k
  unfold impl_FindSkip.f
  repeat' first|(with_reducible first|exact ih0 _ _ _ _ _|exact impl_SeekSkip.mono _ _ _ _ _|exact LeO.refl _|exact LeO.none _|refine LeO.ite ?_ ?_|refine LeO.bind ?_ (fun _=>?_))|exact ih0 _ _ _ _ _|exact impl_SeekSkip.mono _ _ _ _ _|exact LeO.none _|refine LeO.ite ?_ ?_|refine LeO.bind ?_ (fun _=>?_)
set_option maxHeartbeats 8000000 in
set_option maxRecDepth 100000 in
theorem impl_FindSkip.calls (k:Nat) (A0_0:Option Addr) (c0_0:Nat) (l0_0:List Int) (A0_1:Option Addr) (c0_1:Nat) (l0_1:List (S77)) (a1:ByteArray) (a2:Int) (r1:ByteArray) (r2:Int) (r3:Int) (r4:ByteArray) (r5:Bool) (w:World) (hr0_0:Kd.C (Kd.int .i64) w A0_0 l0_0.length l0_0) (hc0_0:l0_0.length≤c0_0) (hr0_1:Kd.C k77 w A0_1 l0_1.length l0_1) (hc0_1:l0_1.length≤c0_1) (hT:Tab w) (h:impl_FindSkip.f k l0_0 l0_1 a1 a2=some (r1,r2,r3,r4,r5)) :
    Calls Tryd.prog 35 #[.agg #[.slice A0_0 l0_0.length c0_0,.slice A0_1 l0_1.length c0_1],.string a1,.int .i64 a2] w fun e w'=>e = .returned (.tuple #[.agg #[.string r1,.int .i64 r2,.int .i64 r3,.string r4],.bool r5])∧Below w.heap.size w w':=by
 have HT:=AsZ.mk hT
 clear hT
 have hu26:=Tryd.underlying26
 have hu28:=Tryd.underlying28
 have HR0_0:=AsZ.mk hr0_0
 have HC0_0:=AsZ.mk hc0_0
 clear hr0_0 hc0_0
 have HR0_1:=AsZ.mk hr0_1
 have HC0_1:=AsZ.mk hc0_1
 clear hr0_1 hc0_1
 have HB:=AsZ.mk (Below.refl w.heap.size w)
 have H:((impl_SeekSkip.f k l0_0 l0_1 a1 a2).bind fun bt493=>(if bt493.2.2.2.2.2=true then (impl_FindSkip.j0 k (bt493.1.toList != a1.toList) bt493.1 bt493.2.1 bt493.2.2.1 bt493.2.2.2.1) else (impl_FindSkip.j0 k true bt493.1 bt493.2.1 bt493.2.2.1 bt493.2.2.2.1)))=some (r1,r2,r3,r4,r5):=h
 clear h
 replace H:=bs H
 obtain ⟨⟨t493,t494,t495,t496,t497,t498⟩,A4,H⟩:=H
 have HC5:=AsZ.mk H
 clear H
 go_enter Tryd.func35,Tryd.ntmps35
 go_upto_region 2 with (first|((with_reducible refine gate_dst (N:=3) rfl ?_);refine bev 3 26 (cs:=#[.slice A0_0 l0_0.length c0_0,.slice A0_1 l0_1.length c0_1]) ?_;intro gb491 hg w6 hbox hb;have BK491:=AsZ.mk (hbox);have GW491:=gz HB hg;have GE491:=gz HB hg;replace HB:=bp hb;clear hb hbox hg)|((with_reducible refine gate_dst (N:=6) rfl ?_);refine bev 6 28 (cs:=#[.string (⟨#[]⟩:ByteArray),.int .i64 0,.int .i64 0,.string (⟨#[]⟩:ByteArray)]) ?_;intro gb492 hg w7 hbox hb;have BK492:=AsZ.mk (hbox);have GW492:=gz HB hg;have GE492:=gz HB hg;have NB491_492:=nl BK491 hg;have NB492_491:=nr BK491 hg;replace BK491:=bb BK491 hb;replace HB:=bp hb;clear hb hbox hg;have hnb8:=NB491_492.out;have hnc8:=NB492_491.out;obtain ⟨hcz9_0,hcz9_1,hfz9_0,hfz9_1⟩:=bx2 BK491)|((with_reducible refine gcl (f:=32) rfl ?_);refine goesL_ (some 15) rfl rfl Tryd.func32 (by kernel_rfl) rfl #[.agg #[.slice A0_0 l0_0.length c0_0,.slice A0_1 l0_1.length c0_1],.string a1,.int .i64 a2] rfl gl ?_;(with_reducible refine (impl_SeekSkip.calls k _ _ l0_0 _ _ l0_1 a1 a2 t493 t494 t495 t496 t497 t498 _ ?side1 ?side2 ?side3 ?side4 ?sideT A4.out).mono ?_);(case sideT=>exact tab_below HT.out (by repeat (first|(with_reducible first|exact HB.out|apply bwa|apply pbN|apply bw1|refine bws ?_ (AsZ.out (by assumption)))|exact HB.out)));(case side1=>exact cC (Kd.C_below HR0_0.out HB.out));(case side2=>exact HC0_0.out);(case side3=>exact cC (Kd.C_below HR0_1.out HB.out));(case side4=>exact HC0_1.out);rintro e w10 ⟨rfl,hb⟩;refine ⟨_,rfl,?_⟩;replace BK491:=bb BK491 hb;replace BK492:=bb BK492 hb;replace HB:=bp hb;(try clear hb);(try clear hb2);(try clear hk);(try clear hi))|((with_reducible refine gate_dst (N:=8) rfl ?_);refine bev 8 28 (cs:=#[.string (⟨#[]⟩:ByteArray),.int .i64 0,.int .i64 0,.string (⟨#[]⟩:ByteArray)]) ?_;intro gb499 hg w11 hbox hb;have BK499:=AsZ.mk (hbox);have GW499:=gz HB hg;have GE499:=gz HB hg;have NB491_499:=nl BK491 hg;have NB499_491:=nr BK491 hg;have NB492_499:=nl BK492 hg;have NB499_492:=nr BK492 hg;replace BK491:=bb BK491 hb;replace BK492:=bb BK492 hb;replace HB:=bp hb;clear hb hbox hg;have hnb12:=NB499_491.out;have hnc12:=NB491_499.out;have hnb13:=NB499_492.out;have hnc13:=NB492_499.out;obtain ⟨hcz14_0,hcz14_1,hcz14_2,hcz14_3,hfz14_0,hfz14_1,hfz14_2,hfz14_3⟩:=bx4 BK499))
 (try simp only [Act.put,zS,zT,zU])
 go_cut [26] (fun v26 wc => ∃ (kq:Nat) (x26_4:Bool),v26 = .bool x26_4∧AsZ (impl_FindSkip.j0 kq x26_4 t493 t494 t495 t496=some (r1,r2,r3,r4,r5))∧AsZ (kq≤k)∧AsZ (wc.heap[gb491]? = some (.cells #[(.slice A0_0 l0_0.length c0_0),(.slice A0_1 l0_1.length c0_1)] 26 (0,0)))∧AsZ (wc.heap[gb492]? = some (.cells #[.string (⟨#[]⟩:ByteArray),.int .i64 0,.int .i64 0,.string (⟨#[]⟩:ByteArray)] 28 (0,0)))∧AsZ (wc.heap[gb499]? = some (.cells #[.string t493,.int .i64 t494,.int .i64 t495,.string t496] 28 (0,0)))∧AsZ (Below w.heap.size w wc))
 case first =>
  have H:=HC5.out
  clear HC5
  by_cases c15:t498=true
  rotate_left
  · replace c15:=Bool.eq_false_iff.mpr c15
    subst c15
    replace H:=iN H
    have H':=AsZ.mk H
    clear H
    go_wp2
    go_meet
    case rel=>exact ⟨_,(true),rs,H',⟨lo⟩,⟨bq BK491⟩,⟨bq BK492⟩,⟨bq BK499⟩,⟨bel⟩⟩
  subst c15
  replace H:=iP H
  have H':=AsZ.mk H
  clear H
  have hnb16:=NB499_491.out
  have hnc16:=NB491_499.out
  have hnb17:=NB499_492.out
  have hnc17:=NB492_499.out
  obtain ⟨hcz18_0,hcz18_1,hcz18_2,hcz18_3,hfz18_0,hfz18_1,hfz18_2,hfz18_3⟩:=bx4 BK499
  go_wp2
  go_meet
  case rel=>exact ⟨_,((t493.toList != a1.toList)),rs,H',⟨lo⟩,⟨bq BK491⟩,⟨bq BK492⟩,⟨bq BK499⟩,⟨bel⟩⟩
 case rest =>
  clear HC5
  try clear p2
  try clear hcz14_0 hcz14_1 hcz14_2 hcz14_3 hfz14_0 hfz14_1 hfz14_2 hfz14_3
  try clear hcz18_0 hcz18_1 hcz18_2 hcz18_3 hfz18_0 hfz18_1 hfz18_2 hfz18_3
  try clear hcz9_0 hcz9_1 hfz9_0 hfz9_1
  obtain ⟨kq,x26_4,rfl,HA,HJ4,BK491,BK492,BK499,HB⟩:=hcut
  cases kq with
  |zero=>exact absurd HA.out (by simp [impl_FindSkip.j0])
  |succ kj4 =>
   have H:=HA.out
   clear HA
   simp only [impl_FindSkip.j0] at H
   by_cases c19:x26_4=true
   · subst c19
     replace H:=iP H
     simp only [Option.some.injEq,Prod.mk.injEq] at H
     obtain ⟨rfl,rfl,rfl,rfl,rfl⟩:=H
     have hnb20:=NB492_491.out
     have hnc20:=NB491_492.out
     have hnb21:=NB492_499.out
     have hnc21:=NB499_492.out
     obtain ⟨hcz22_0,hcz22_1,hcz22_2,hcz22_3,hfz22_0,hfz22_1,hfz22_2,hfz22_3⟩:=bx4 BK492
     go_wp2
     refine bodyPost_ret (results_ct rfl _ _ gb492 28 #[.string (⟨#[]⟩:ByteArray),.int .i64 0,.int .i64 0,.string (⟨#[]⟩:ByteArray)] (0,0) _ rfl (bq BK492) Tryd.underlying28 rfl (by kernel_rfl)) rfl ?_
     exact ⟨re,bel⟩
   replace c19:=Bool.eq_false_iff.mpr c19
   subst c19
   replace H:=iN H
   simp only [Option.some.injEq,Prod.mk.injEq] at H
   obtain ⟨rfl,rfl,rfl,rfl,rfl⟩:=H
   have hnb23:=NB499_491.out
   have hnc23:=NB491_499.out
   have hnb24:=NB499_492.out
   have hnc24:=NB492_499.out
   obtain ⟨hcz25_0,hcz25_1,hcz25_2,hcz25_3,hfz25_0,hfz25_1,hfz25_2,hfz25_3⟩:=bx4 BK499
   have hnb26:=NB492_491.out
   have hnc26:=NB491_492.out
   obtain ⟨hcz27_0,hcz27_1,hcz27_2,hcz27_3,hfz27_0,hfz27_1,hfz27_2,hfz27_3⟩:=bx4 BK492
   go_wp2
   refine bodyPost_ret (results_ct rfl _ _ gb492 28 #[.string t493,.int .i64 t494,.int .i64 t495,.string t496] (0,0) _ rfl (bq BK492) Tryd.underlying28 rfl (by kernel_rfl)) rfl ?_
   exact ⟨re,bel⟩
/-! ### spec_FindSkip: function 36 -/
def spec_FindSkip.j0:Nat→Bool→ByteArray→Int→Int→ByteArray→Option (ByteArray × Int × Int × ByteArray × Bool)
  |0,_,_,_,_,_=>none
  |k + 1,x26,x509000,x509001,x509002,x509003=>if x26=true then (some ((⟨#[]⟩:ByteArray),0,0,(⟨#[]⟩:ByteArray),false)) else (some (x509000,x509001,x509002,x509003,true))
def spec_FindSkip.f (k:Nat) (l0_0:List Int) (l0_1:List (S77)) (a1:ByteArray) (a2:Int):Option (ByteArray × Int × Int × ByteArray × Bool):=(spec_SeekSkip.f k l0_0 l0_1 a1 a2).bind fun bt502=>(if bt502.2.2.2.2.2=true then (spec_FindSkip.j0 k (bt502.1.toList != a1.toList) bt502.1 bt502.2.1 bt502.2.2.1 bt502.2.2.2.1) else (spec_FindSkip.j0 k true bt502.1 bt502.2.1 bt502.2.2.1 bt502.2.2.2.1))
theorem spec_FindSkip.mono_l:∀ k,(∀ y0 y1 y2 y3 y4,LeO (spec_FindSkip.j0 k y0 y1 y2 y3 y4) (spec_FindSkip.j0 (k + 1) y0 y1 y2 y3 y4))
  |0=>fun _ _ _ _ _ r h=>by simp [spec_FindSkip.j0] at h
  |k + 1=>by
    have ih0:=spec_FindSkip.mono_l k
    · intro y0 y1 y2 y3 y4
      unfold spec_FindSkip.j0
      repeat' first|(with_reducible first|exact ih0 _ _ _ _ _|exact spec_SeekSkip.mono _ _ _ _ _|exact LeO.refl _|exact LeO.none _|refine LeO.ite ?_ ?_|refine LeO.bind ?_ (fun _=>?_))|exact ih0 _ _ _ _ _|exact spec_SeekSkip.mono _ _ _ _ _|exact LeO.none _|refine LeO.ite ?_ ?_|refine LeO.bind ?_ (fun _=>?_)
theorem spec_FindSkip.mono:∀ a0 a1 a2 a3 k,LeO (spec_FindSkip.f k a0 a1 a2 a3) (spec_FindSkip.f (k + 1) a0 a1 a2 a3):=by
  intro a0 a1 a2 a3 k
  have ih0:=spec_FindSkip.mono_l k
  unfold spec_FindSkip.f
  repeat' first|(with_reducible first|exact ih0 _ _ _ _ _|exact spec_SeekSkip.mono _ _ _ _ _|exact LeO.refl _|exact LeO.none _|refine LeO.ite ?_ ?_|refine LeO.bind ?_ (fun _=>?_))|exact ih0 _ _ _ _ _|exact spec_SeekSkip.mono _ _ _ _ _|exact LeO.none _|refine LeO.ite ?_ ?_|refine LeO.bind ?_ (fun _=>?_)
set_option maxHeartbeats 8000000 in
set_option maxRecDepth 100000 in
theorem spec_FindSkip.calls (k:Nat) (A0_0:Option Addr) (c0_0:Nat) (l0_0:List Int) (A0_1:Option Addr) (c0_1:Nat) (l0_1:List (S77)) (a1:ByteArray) (a2:Int) (r1:ByteArray) (r2:Int) (r3:Int) (r4:ByteArray) (r5:Bool) (w:World) (hr0_0:Kd.C (Kd.int .i64) w A0_0 l0_0.length l0_0) (hc0_0:l0_0.length≤c0_0) (hr0_1:Kd.C k77 w A0_1 l0_1.length l0_1) (hc0_1:l0_1.length≤c0_1) (h:spec_FindSkip.f k l0_0 l0_1 a1 a2=some (r1,r2,r3,r4,r5)) :
    Calls Tryd.prog 36 #[.agg #[.slice A0_0 l0_0.length c0_0,.slice A0_1 l0_1.length c0_1],.string a1,.int .i64 a2] w fun e w'=>e = .returned (.tuple #[.agg #[.string r1,.int .i64 r2,.int .i64 r3,.string r4],.bool r5])∧Below w.heap.size w w':=by
 have hu26:=Tryd.underlying26
 have hu28:=Tryd.underlying28
 have HR0_0:=AsZ.mk hr0_0
 have HC0_0:=AsZ.mk hc0_0
 clear hr0_0 hc0_0
 have HR0_1:=AsZ.mk hr0_1
 have HC0_1:=AsZ.mk hc0_1
 clear hr0_1 hc0_1
 have HB:=AsZ.mk (Below.refl w.heap.size w)
 have H:((spec_SeekSkip.f k l0_0 l0_1 a1 a2).bind fun bt502=>(if bt502.2.2.2.2.2=true then (spec_FindSkip.j0 k (bt502.1.toList != a1.toList) bt502.1 bt502.2.1 bt502.2.2.1 bt502.2.2.2.1) else (spec_FindSkip.j0 k true bt502.1 bt502.2.1 bt502.2.2.1 bt502.2.2.2.1)))=some (r1,r2,r3,r4,r5):=h
 clear h
 replace H:=bs H
 obtain ⟨⟨t502,t503,t504,t505,t506,t507⟩,A4,H⟩:=H
 have HC5:=AsZ.mk H
 clear H
 go_enter Tryd.func36,Tryd.ntmps36
 go_upto_region 2 with (first|((with_reducible refine gate_dst (N:=3) rfl ?_);refine bev 3 26 (cs:=#[.slice A0_0 l0_0.length c0_0,.slice A0_1 l0_1.length c0_1]) ?_;intro gb500 hg w6 hbox hb;have BK500:=AsZ.mk (hbox);have GW500:=gz HB hg;have GE500:=gz HB hg;replace HB:=bp hb;clear hb hbox hg)|((with_reducible refine gate_dst (N:=6) rfl ?_);refine bev 6 28 (cs:=#[.string (⟨#[]⟩:ByteArray),.int .i64 0,.int .i64 0,.string (⟨#[]⟩:ByteArray)]) ?_;intro gb501 hg w7 hbox hb;have BK501:=AsZ.mk (hbox);have GW501:=gz HB hg;have GE501:=gz HB hg;have NB500_501:=nl BK500 hg;have NB501_500:=nr BK500 hg;replace BK500:=bb BK500 hb;replace HB:=bp hb;clear hb hbox hg;have hnb8:=NB500_501.out;have hnc8:=NB501_500.out;obtain ⟨hcz9_0,hcz9_1,hfz9_0,hfz9_1⟩:=bx2 BK500)|((with_reducible refine gcl (f:=31) rfl ?_);refine goesL_ (some 15) rfl rfl Tryd.func31 (by kernel_rfl) rfl #[.agg #[.slice A0_0 l0_0.length c0_0,.slice A0_1 l0_1.length c0_1],.string a1,.int .i64 a2] rfl gl ?_;(with_reducible refine (spec_SeekSkip.calls k _ _ l0_0 _ _ l0_1 a1 a2 t502 t503 t504 t505 t506 t507 _ ?side1 ?side2 ?side3 ?side4 A4.out).mono ?_);(case side1=>exact cC (Kd.C_below HR0_0.out HB.out));(case side2=>exact HC0_0.out);(case side3=>exact cC (Kd.C_below HR0_1.out HB.out));(case side4=>exact HC0_1.out);rintro e w10 ⟨rfl,hb⟩;refine ⟨_,rfl,?_⟩;replace BK500:=bb BK500 hb;replace BK501:=bb BK501 hb;replace HB:=bp hb;(try clear hb);(try clear hb2);(try clear hk);(try clear hi))|((with_reducible refine gate_dst (N:=8) rfl ?_);refine bev 8 28 (cs:=#[.string (⟨#[]⟩:ByteArray),.int .i64 0,.int .i64 0,.string (⟨#[]⟩:ByteArray)]) ?_;intro gb508 hg w11 hbox hb;have BK508:=AsZ.mk (hbox);have GW508:=gz HB hg;have GE508:=gz HB hg;have NB500_508:=nl BK500 hg;have NB508_500:=nr BK500 hg;have NB501_508:=nl BK501 hg;have NB508_501:=nr BK501 hg;replace BK500:=bb BK500 hb;replace BK501:=bb BK501 hb;replace HB:=bp hb;clear hb hbox hg;have hnb12:=NB508_500.out;have hnc12:=NB500_508.out;have hnb13:=NB508_501.out;have hnc13:=NB501_508.out;obtain ⟨hcz14_0,hcz14_1,hcz14_2,hcz14_3,hfz14_0,hfz14_1,hfz14_2,hfz14_3⟩:=bx4 BK508))
 (try simp only [Act.put,zS,zT,zU])
 go_cut [26] (fun v26 wc => ∃ (kq:Nat) (x26_4:Bool),v26 = .bool x26_4∧AsZ (spec_FindSkip.j0 kq x26_4 t502 t503 t504 t505=some (r1,r2,r3,r4,r5))∧AsZ (kq≤k)∧AsZ (wc.heap[gb500]? = some (.cells #[(.slice A0_0 l0_0.length c0_0),(.slice A0_1 l0_1.length c0_1)] 26 (0,0)))∧AsZ (wc.heap[gb501]? = some (.cells #[.string (⟨#[]⟩:ByteArray),.int .i64 0,.int .i64 0,.string (⟨#[]⟩:ByteArray)] 28 (0,0)))∧AsZ (wc.heap[gb508]? = some (.cells #[.string t502,.int .i64 t503,.int .i64 t504,.string t505] 28 (0,0)))∧AsZ (Below w.heap.size w wc))
 case first =>
  have H:=HC5.out
  clear HC5
  by_cases c15:t507=true
  rotate_left
  · replace c15:=Bool.eq_false_iff.mpr c15
    subst c15
    replace H:=iN H
    have H':=AsZ.mk H
    clear H
    go_wp2
    go_meet
    case rel=>exact ⟨_,(true),rs,H',⟨lo⟩,⟨bq BK500⟩,⟨bq BK501⟩,⟨bq BK508⟩,⟨bel⟩⟩
  subst c15
  replace H:=iP H
  have H':=AsZ.mk H
  clear H
  have hnb16:=NB508_500.out
  have hnc16:=NB500_508.out
  have hnb17:=NB508_501.out
  have hnc17:=NB501_508.out
  obtain ⟨hcz18_0,hcz18_1,hcz18_2,hcz18_3,hfz18_0,hfz18_1,hfz18_2,hfz18_3⟩:=bx4 BK508
  go_wp2
  go_meet
  case rel=>exact ⟨_,((t502.toList != a1.toList)),rs,H',⟨lo⟩,⟨bq BK500⟩,⟨bq BK501⟩,⟨bq BK508⟩,⟨bel⟩⟩
 case rest =>
  clear HC5
  try clear p2
  try clear hcz14_0 hcz14_1 hcz14_2 hcz14_3 hfz14_0 hfz14_1 hfz14_2 hfz14_3
  try clear hcz18_0 hcz18_1 hcz18_2 hcz18_3 hfz18_0 hfz18_1 hfz18_2 hfz18_3
  try clear hcz9_0 hcz9_1 hfz9_0 hfz9_1
  obtain ⟨kq,x26_4,rfl,HA,HJ4,BK500,BK501,BK508,HB⟩:=hcut
  cases kq with
  |zero=>exact absurd HA.out (by simp [spec_FindSkip.j0])
  |succ kj4 =>
   have H:=HA.out
   clear HA
   simp only [spec_FindSkip.j0] at H
   by_cases c19:x26_4=true
   · subst c19
     replace H:=iP H
     simp only [Option.some.injEq,Prod.mk.injEq] at H
     obtain ⟨rfl,rfl,rfl,rfl,rfl⟩:=H
     have hnb20:=NB501_500.out
     have hnc20:=NB500_501.out
     have hnb21:=NB501_508.out
     have hnc21:=NB508_501.out
     obtain ⟨hcz22_0,hcz22_1,hcz22_2,hcz22_3,hfz22_0,hfz22_1,hfz22_2,hfz22_3⟩:=bx4 BK501
     go_wp2
     refine bodyPost_ret (results_ct rfl _ _ gb501 28 #[.string (⟨#[]⟩:ByteArray),.int .i64 0,.int .i64 0,.string (⟨#[]⟩:ByteArray)] (0,0) _ rfl (bq BK501) Tryd.underlying28 rfl (by kernel_rfl)) rfl ?_
     exact ⟨re,bel⟩
   replace c19:=Bool.eq_false_iff.mpr c19
   subst c19
   replace H:=iN H
   simp only [Option.some.injEq,Prod.mk.injEq] at H
   obtain ⟨rfl,rfl,rfl,rfl,rfl⟩:=H
   have hnb23:=NB508_500.out
   have hnc23:=NB500_508.out
   have hnb24:=NB508_501.out
   have hnc24:=NB501_508.out
   obtain ⟨hcz25_0,hcz25_1,hcz25_2,hcz25_3,hfz25_0,hfz25_1,hfz25_2,hfz25_3⟩:=bx4 BK508
   have hnb26:=NB501_500.out
   have hnc26:=NB500_501.out
   obtain ⟨hcz27_0,hcz27_1,hcz27_2,hcz27_3,hfz27_0,hfz27_1,hfz27_2,hfz27_3⟩:=bx4 BK501
   go_wp2
   refine bodyPost_ret (results_ct rfl _ _ gb501 28 #[.string t502,.int .i64 t503,.int .i64 t504,.string t505] (0,0) _ rfl (bq BK501) Tryd.underlying28 rfl (by kernel_rfl)) rfl ?_
   exact ⟨re,bel⟩
end Go.Proofs.YtffjlpphcjfdgaaDoor.MFnFound
