-- Written by a program of this session out of the translation. Not trusted: Lean checks it.
import Derived.Test.YtffjlpphcjfdgaaDoorDFnSkipx20
namespace Go.Proofs.YtffjlpphcjfdgaaDoor.MFnSkip
-- joined
-- short
-- shrunk
-- TAB
-- RD
open Go.Proofs.YtffjlpphcjfdgaaDoor Go.RowKit Go.Proofs.YtffjlpphcjfdgaaDoorW.PrintWords Go.Proofs.YtffjlpphcjfdgaaDoorW.PrintLast Go.Proofs.YtffjlpphcjfdgaaDoorW.PrintMore Go.Proofs.YtffjlpphcjfdgaaDoorX
attribute [local go_sem] max2_int min2_int max_two min_two max_three min_three max_four min_four str_gtr str_leq str_geq cell_twice
set_option linter.unusedVariables false
set_option linter.unusedSimpArgs false
-- COMPACT
attribute [local go_sem high] eqA28
set_option maxHeartbeats 8000000 in
set_option maxRecDepth 100000 in
theorem laws_FnSkip.calls (k:Nat) (A0:Option Addr) (c0:Nat) (l0:List Int) (r:Bool) (w:World) (hr0:Kd.C (Kd.int .u8) w A0 l0.length l0) (hc0:l0.length≤c0) (hT:Tab w) (h:laws_FnSkip.f k l0=some r) :
    Calls Tryd.prog 3 #[.slice A0 l0.length c0] w fun e w'=>e = .returned (.bool r)∧Below w.heap.size w w':=by
 have HT:=AsZ.mk hT;clear hT;have hu26:=Tryd.underlying26;have hu28:=Tryd.underlying28;have HR0:=AsZ.mk hr0;have HC0:=AsZ.mk hc0;clear hr0 hc0;have HB:=AsZ.mk (Below.refl w.heap.size w);have H:(if (l0.length:Int) > 1048576 then (some true) else ((spec_DrawInsertSkip.f k l0).bind fun bt527=>((impl_InsertSkip.f k bt527.1 bt527.2.1 bt527.2.2.1 bt527.2.2.2.1 bt527.2.2.2.2.1 bt527.2.2.2.2.2).bind fun bt539=>((spec_InsertSkip.f k bt527.1 bt527.2.1 bt527.2.2.1 bt527.2.2.2.1 bt527.2.2.2.2.1 bt527.2.2.2.2.2).bind fun bt547=>(if (bt539.2.2 != bt547.2.2)=true then (some false) else (if bt539.2.2=true then ((impl_ListSkip.f k bt527.1 bt527.2.1 0).bind fun bt555=>((impl_ListSkip.f k bt539.1 bt539.2.1 0).bind fun bt559=>(if bt555.2=true then (if bt559.2=true then (if (bt559.1.length:Int)=(wrap64 ((bt555.1.length:Int) + 1)) then ((impl_GoodSkip.f k bt539.1 bt539.2.1).bind fun t563=>(laws_FnSkip.j0 k bt555.1 bt559.1 (!t563) bt527.2.2.1 bt527.2.2.2.1 bt527.2.2.2.2.1 bt527.2.2.2.2.2 bt539.1 bt539.2.1)) else (laws_FnSkip.j0 k bt555.1 bt559.1 true bt527.2.2.1 bt527.2.2.2.1 bt527.2.2.2.2.1 bt527.2.2.2.2.2 bt539.1 bt539.2.1)) else (laws_FnSkip.j0 k bt555.1 bt559.1 true bt527.2.2.1 bt527.2.2.2.1 bt527.2.2.2.2.1 bt527.2.2.2.2.2 bt539.1 bt539.2.1)) else (laws_FnSkip.j0 k bt555.1 bt559.1 true bt527.2.2.1 bt527.2.2.2.1 bt527.2.2.2.2.1 bt527.2.2.2.2.2 bt539.1 bt539.2.1)))) else (some ((bt539.2.1.length:Int) == 0))))))))=some r:=h;clear h;by_cases c2:(l0.length:Int) > 1048576
 · rw [if_pos c2] at H
   have c2b0:decide (1048576 < (l0.length:Int))=true:=zE c2;have c2b1:decide (1048576 < l0.length)=true:=zE (by omega);clear c2;obtain rfl:=zI H;go_enter Tryd.func3,Tryd.ntmps3;go_wp2;go_ret;exact ⟨re,bel⟩
 rw [if_neg c2] at H;have c2b0:decide (1048576 < (l0.length:Int))=false:=decide_eq_false c2;have c2b1:decide (1048576 < l0.length)=false:=decide_eq_false (by omega);clear c2;replace H:=bs H;obtain ⟨⟨t527,t530,t533,t534,t535,t536⟩,A3,H⟩:=H;replace H:=bs H;obtain ⟨⟨t539,t542,t545⟩,A4,H⟩:=H;replace H:=bs H;obtain ⟨⟨t547,t550,t553⟩,A5,H⟩:=H;by_cases c6:(t545 != t553)=true
 · rw [if_pos c6] at H
   have c6b0:(t545 != t553)=true:=c6;(try (have c6b1:decide (t545=t553)=false:=by simpa using c6));(try (have c6b2:(t545 == t553)=false:=by simpa using c6));(try (have c6b3:¬ (t545=t553):=by simpa using c6));clear c6;obtain rfl:=zI H;go_enter Tryd.func3,Tryd.ntmps3;go_wp2_with (first|((with_reducible refine gcl (f:=11) rfl ?_);refine gk (some 33) Tryd.func11 #[.slice A0 l0.length c0] ?_;(with_reducible refine (spec_DrawInsertSkip.calls k _ _ l0 t527 t530 t533 t534 t535 t536 _ ?side1 ?side2 A3.out).mono ?_);(case side1=>exact cC (HR0.out));(case side2=>exact HC0.out);rintro e w7 ⟨v528,v531,rfl,ho0,ho1,hb⟩;refine ⟨_,rfl,?_⟩;have HO529:=AsZ.mk (Kd.Q_lower ho0 (bwz bel));have HO532:=AsZ.mk (Kd.S_lower ho1 (bwz bel));replace HB:=bp hb;(try clear hb);(try clear hb2);(try clear hk);(try clear hi);(try clear ho0);(try clear ho1))|((with_reducible refine gate_dst (N:=3) rfl ?_);(try (refine gate_guard (by rfl) ?_;dsimp only));refine bev 3 26 (cs:=#[.slice none 0 0,.slice none 0 0]) ?_;intro gb537 hg w8 hbox hb;have BK537:=AsZ.mk (hbox);have GW537:=gz HB hg;have GE537:=gz HB hg;replace HO529:=rQ HO529 hb;replace HO532:=rS HO532 hb;replace HB:=bp hb;clear hb hbox hg)|((with_reducible refine gate_dst (N:=4) rfl ?_);(try (refine gate_guard (by rfl) ?_;dsimp only));refine bev 4 28 (cs:=#[.string (⟨#[]⟩:ByteArray),.int .i64 0,.int .i64 0,.string (⟨#[]⟩:ByteArray)]) ?_;intro gb538 hg w9 hbox hb;have BK538:=AsZ.mk (hbox);have GW538:=gz HB hg;have GE538:=gz HB hg;have NB537_538:=nl BK537 hg;have NB538_537:=nr BK537 hg;replace HO529:=rQ HO529 hb;replace HO532:=rS HO532 hb;replace BK537:=bb BK537 hb;replace HB:=bp hb;clear hb hbox hg;obtain ⟨Ao10,co10,eo10,_⟩:=Kd.Q_slice HO529.out;subst eo10;have hnb11:=NB537_538.out;have hnc11:=NB538_537.out;obtain ⟨hcz12_0,hcz12_1,hfz12_0,hfz12_1⟩:=bx2 BK537;obtain ⟨Ao13,co13,eo13⟩:=Kd.S_slice HO532.out;subst eo13;obtain ⟨hcz14_0,hcz14_1,hcz14_2,hcz14_3,hfz14_0,hfz14_1,hfz14_2,hfz14_3⟩:=bx4 BK538)|((with_reducible refine gcl (f:=12) rfl ?_);refine gk (some 39) Tryd.func12 #[.agg #[.slice Ao10 t527.length co10,.slice Ao13 t530.length co13],.agg #[.string t533,.int .i64 t534,.int .i64 t535,.string t536]] ?_;(with_reducible refine (impl_InsertSkip.calls k _ _ t527 _ _ t530 t533 t534 t535 t536 t539 t542 t545 _ ?side1 ?side2 ?side3 ?side4 ?sideT A4.out).mono ?_);(case sideT=>exact tab_below HT.out (by repeat (first|(with_reducible first|exact HB.out|apply bwa|apply pbN|apply bw1|refine bws ?_ (AsZ.out (by assumption)))|exact HB.out)));(case side1=>refine (Kd.Q_reads' (e:=3) (base:=w.heap.size) (ok:=fun k_=>True) (n:=t527.length) (c:=co10) ?_).2.2;exact (by (with_reducible repeat (first|apply Kd.Q_alloc|apply Kd.Q_drewN|apply Kd.Q_drew));exact (Kd.Q_mono (Kd.Q_mono (fQ (fQ (fQ (fQ (Kd.Q_far (p:=⟨gb537,1,none⟩) (Kd.Q_far (p:=⟨gb537,0,none⟩) (Kd.Q_types (Kd.Q_types HO529.out BK537.out (by decide)) BK538.out (by decide)) (fun _ hk=>hk.1.2) (.slice Ao10 t527.length co10)) (fun _ hk=>hk.1.2) (.slice Ao13 t530.length co13)))))) (fun _ h_=>h_.1)) (fun _ h_=>h_.1))));(case side2=>exact (Kd.Q_reads' HO529.out).2.1);(case side3=>refine (Kd.S_reads' (e:=77) (base:=w.heap.size) (ok:=fun k_=>some k_ ≠ (.slice Ao10 t527.length co10:Value).ownBlock) (n:=t530.length) (c:=co13) ?_).2.2;exact (by (with_reducible repeat (first|apply Kd.S_alloc|apply Kd.S_drewN|apply Kd.S_drew));exact (Kd.S_mono (Kd.S_mono (fS (fS (fS (fS (Kd.S_far (p:=⟨gb537,1,none⟩) (Kd.S_far (p:=⟨gb537,0,none⟩) (Kd.S_types (Kd.S_types HO532.out BK537.out (by decide)) BK538.out (by decide)) (fun _ hk=>hk.1.2) (.slice Ao10 t527.length co10)) (fun _ hk=>hk.1.2) (.slice Ao13 t530.length co13)))))) (fun _ h_=>h_.1)) (fun _ h_=>h_.1))));(case side4=>exact (Kd.S_reads' HO532.out).2.1);rintro e w15 ⟨v540,v543,rfl,ho0,ho1,hb⟩;refine ⟨_,rfl,?_⟩;have HO541:=AsZ.mk (Kd.R_lower (Kd.R_new' ho0 (Kd.Q_lt (by (with_reducible repeat (first|apply Kd.Q_alloc|apply Kd.Q_drewN|apply Kd.Q_drew));exact (Kd.Q_mono (Kd.Q_mono (fQ (fQ (fQ (fQ (Kd.Q_far (p:=⟨gb537,1,none⟩) (Kd.Q_far (p:=⟨gb537,0,none⟩) (Kd.Q_types (Kd.Q_types HO529.out BK537.out (by decide)) BK538.out (by decide)) (fun _ hk=>hk.1.2) (.slice Ao10 t527.length co10)) (fun _ hk=>hk.1.2) (.slice Ao13 t530.length co13)))))) (fun _ h_=>h_.1)) (fun _ h_=>h_.1))))) (bwz bel));have HO544:=AsZ.mk (Kd.S_lower (Kd.S_new' (Kd.S_new' ho1 (Kd.Q_lt (by (with_reducible repeat (first|apply Kd.Q_alloc|apply Kd.Q_drewN|apply Kd.Q_drew));exact (Kd.Q_mono (Kd.Q_mono (fQ (fQ (fQ (fQ (Kd.Q_far (p:=⟨gb537,1,none⟩) (Kd.Q_far (p:=⟨gb537,0,none⟩) (Kd.Q_types (Kd.Q_types HO529.out BK537.out (by decide)) BK538.out (by decide)) (fun _ hk=>hk.1.2) (.slice Ao10 t527.length co10)) (fun _ hk=>hk.1.2) (.slice Ao13 t530.length co13)))))) (fun _ h_=>h_.1)) (fun _ h_=>h_.1))))) (Kd.S_lt (by (with_reducible repeat (first|apply Kd.S_alloc|apply Kd.S_drewN|apply Kd.S_drew));exact (Kd.S_mono (Kd.S_mono (fS (fS (fS (fS (Kd.S_far (p:=⟨gb537,1,none⟩) (Kd.S_far (p:=⟨gb537,0,none⟩) (Kd.S_types (Kd.S_types HO532.out BK537.out (by decide)) BK538.out (by decide)) (fun _ hk=>hk.1.2) (.slice Ao10 t527.length co10)) (fun _ hk=>hk.1.2) (.slice Ao13 t530.length co13)))))) (fun _ h_=>h_.1)) (fun _ h_=>h_.1))))) (bwz bel));replace HO529:=AsZ.mk (Kd.Q_elder' (by (with_reducible repeat (first|apply Kd.Q_alloc|apply Kd.Q_drewN|apply Kd.Q_drew));exact (Kd.Q_mono (Kd.Q_mono (fQ (fQ (fQ (fQ (Kd.Q_far (p:=⟨gb537,1,none⟩) (Kd.Q_far (p:=⟨gb537,0,none⟩) (Kd.Q_types (Kd.Q_types HO529.out BK537.out (by decide)) BK538.out (by decide)) (fun _ hk=>hk.1.2) (.slice Ao10 t527.length co10)) (fun _ hk=>hk.1.2) (.slice Ao13 t530.length co13)))))) (fun _ h_=>h_.1)) (fun _ h_=>h_.1))) (Kd.R_base ho0) hb);replace HO532:=AsZ.mk (Kd.S_mono (Kd.S_told (Kd.S_told (Kd.S_old (by (with_reducible repeat (first|apply Kd.S_alloc|apply Kd.S_drewN|apply Kd.S_drew));exact (Kd.S_mono (Kd.S_mono (fS (fS (fS (fS (Kd.S_far (p:=⟨gb537,1,none⟩) (Kd.S_far (p:=⟨gb537,0,none⟩) (Kd.S_types (Kd.S_types HO532.out BK537.out (by decide)) BK538.out (by decide)) (fun _ hk=>hk.1.2) (.slice Ao10 t527.length co10)) (fun _ hk=>hk.1.2) (.slice Ao13 t530.length co13)))))) (fun _ h_=>h_.1)) (fun _ h_=>h_.1))) hb) (Kd.R_base ho0)) (Kd.S_base ho1)) (fun _ h_=>h_.1));replace BK537:=AsZ.mk (kb (g:=gb537) (o := .cells #[.slice Ao10 t527.length co10,.slice Ao13 t530.length co13] 26 (0,0)) (bq BK537) hb);replace BK538:=AsZ.mk (kb (g:=gb538) (o := .cells #[.string t533,.int .i64 t534,.int .i64 t535,.string t536] 28 (0,0)) (bq BK538) hb);replace HB:=bp hb;(try clear hb);(try clear hb2);(try clear hk);(try clear hi);(try clear ho0);(try clear ho1))|((with_reducible refine gate_dst (N:=5) rfl ?_);(try (refine gate_guard (by rfl) ?_;dsimp only));refine bev 5 26 (cs:=#[.slice none 0 0,.slice none 0 0]) ?_;intro gb546 hg w16 hbox hb;have BK546:=AsZ.mk (hbox);have GW546:=gz HB hg;have GE546:=gz HB hg;have NB537_546:=nl BK537 hg;have NB546_537:=nr BK537 hg;have NB538_546:=nl BK538 hg;have NB546_538:=nr BK538 hg;replace HO529:=rQ HO529 hb;replace HO532:=rS HO532 hb;replace HO541:=rR HO541 hb;replace HO544:=rS HO544 hb;replace BK537:=bb BK537 hb;replace BK538:=bb BK538 hb;replace HB:=bp hb;clear hb hbox hg;obtain ⟨Ao17,co17,eo17⟩:=Kd.R_slice HO541.out;subst eo17;have hnb18:=NB546_537.out;have hnc18:=NB537_546.out;have hnb19:=NB546_538.out;have hnc19:=NB538_546.out;obtain ⟨hcz20_0,hcz20_1,hfz20_0,hfz20_1⟩:=bx2 BK546;obtain ⟨Ao21,co21,eo21⟩:=Kd.S_slice HO544.out;subst eo21;obtain ⟨hcz22_0,hcz22_1,hfz22_0,hfz22_1⟩:=bx2 BK537;obtain ⟨hcz23_0,hcz23_1,hcz23_2,hcz23_3,hfz23_0,hfz23_1,hfz23_2,hfz23_3⟩:=bx4 BK538)|((with_reducible refine gcl (f:=13) rfl ?_);refine gk (some 45) Tryd.func13 #[.agg #[.slice Ao10 t527.length co10,.slice Ao13 t530.length co13],.agg #[.string t533,.int .i64 t534,.int .i64 t535,.string t536]] ?_;(with_reducible refine (spec_InsertSkip.calls k _ _ t527 _ _ t530 t533 t534 t535 t536 t547 t550 t553 _ ?side1 ?side2 ?side3 ?side4 A5.out).mono ?_);(case side1=>refine (Kd.Q_reads' (e:=3) (base:=w.heap.size) (ok:=fun k_=>(True∧some k_ ≠ (.slice Ao17 t539.length co17:Value).ownBlock)) (n:=t527.length) (c:=co10) ?_).2.2;exact (by (with_reducible repeat (first|apply Kd.Q_alloc|apply Kd.Q_drewN|apply Kd.Q_drew));exact (Kd.Q_mono (fQ (fQ (Kd.Q_types HO529.out BK546.out (by decide)))) (fun _ h_=>h_.1))));(case side2=>exact (Kd.Q_reads' HO529.out).2.1);(case side3=>refine (Kd.S_reads' (e:=77) (base:=w.heap.size) (ok:=fun k_=>((some k_ ≠ (.slice Ao10 t527.length co10:Value).ownBlock∧some k_ ≠ (.slice Ao17 t539.length co17:Value).ownBlock)∧some k_ ≠ (.slice Ao21 t542.length co21:Value).ownBlock)) (n:=t530.length) (c:=co13) ?_).2.2;exact (by (with_reducible repeat (first|apply Kd.S_alloc|apply Kd.S_drewN|apply Kd.S_drew));exact (Kd.S_mono (fS (fS (Kd.S_types HO532.out BK546.out (by decide)))) (fun _ h_=>h_.1))));(case side4=>exact (Kd.S_reads' HO532.out).2.1);rintro e w24 ⟨v548,v551,rfl,ho0,ho1,hb⟩;refine ⟨_,rfl,?_⟩;have HO549:=AsZ.mk (Kd.R_lower (Kd.R_new' (Kd.R_new' ho0 (Kd.Q_lt (by (with_reducible repeat (first|apply Kd.Q_alloc|apply Kd.Q_drewN|apply Kd.Q_drew));exact (Kd.Q_mono (fQ (fQ (Kd.Q_types HO529.out BK546.out (by decide)))) (fun _ h_=>h_.1))))) (Kd.R_lt (by (with_reducible repeat (first|apply Kd.R_alloc|apply Kd.R_drewN|apply Kd.R_drew));exact (Kd.R_mono (fR (fR (Kd.R_types HO541.out BK546.out (by decide)))) (fun _ h_=>h_.1))))) (bwz bel));have HO552:=AsZ.mk (Kd.S_lower (Kd.S_new' (Kd.S_new' (Kd.S_new' (Kd.S_new' ho1 (Kd.Q_lt (by (with_reducible repeat (first|apply Kd.Q_alloc|apply Kd.Q_drewN|apply Kd.Q_drew));exact (Kd.Q_mono (fQ (fQ (Kd.Q_types HO529.out BK546.out (by decide)))) (fun _ h_=>h_.1))))) (Kd.S_lt (by (with_reducible repeat (first|apply Kd.S_alloc|apply Kd.S_drewN|apply Kd.S_drew));exact (Kd.S_mono (fS (fS (Kd.S_types HO532.out BK546.out (by decide)))) (fun _ h_=>h_.1))))) (Kd.R_lt (by (with_reducible repeat (first|apply Kd.R_alloc|apply Kd.R_drewN|apply Kd.R_drew));exact (Kd.R_mono (fR (fR (Kd.R_types HO541.out BK546.out (by decide)))) (fun _ h_=>h_.1))))) (Kd.S_lt (by (with_reducible repeat (first|apply Kd.S_alloc|apply Kd.S_drewN|apply Kd.S_drew));exact (Kd.S_mono (fS (fS (Kd.S_types HO544.out BK546.out (by decide)))) (fun _ h_=>h_.1))))) (bwz bel));replace HO529:=AsZ.mk (Kd.Q_elder' (by (with_reducible repeat (first|apply Kd.Q_alloc|apply Kd.Q_drewN|apply Kd.Q_drew));exact (Kd.Q_mono (fQ (fQ (Kd.Q_types HO529.out BK546.out (by decide)))) (fun _ h_=>h_.1))) (Kd.R_base ho0) hb);replace HO532:=AsZ.mk (Kd.S_mono (Kd.S_told (Kd.S_told (Kd.S_old (by (with_reducible repeat (first|apply Kd.S_alloc|apply Kd.S_drewN|apply Kd.S_drew));exact (Kd.S_mono (fS (fS (Kd.S_types HO532.out BK546.out (by decide)))) (fun _ h_=>h_.1))) hb) (Kd.R_base ho0)) (Kd.S_base ho1)) (fun _ h_=>h_.1));replace HO541:=AsZ.mk (Kd.R_elder' (by (with_reducible repeat (first|apply Kd.R_alloc|apply Kd.R_drewN|apply Kd.R_drew));exact (Kd.R_mono (fR (fR (Kd.R_types HO541.out BK546.out (by decide)))) (fun _ h_=>h_.1))) (Kd.R_base ho0) hb);replace HO544:=AsZ.mk (Kd.S_mono (Kd.S_told (Kd.S_told (Kd.S_old (by (with_reducible repeat (first|apply Kd.S_alloc|apply Kd.S_drewN|apply Kd.S_drew));exact (Kd.S_mono (fS (fS (Kd.S_types HO544.out BK546.out (by decide)))) (fun _ h_=>h_.1))) hb) (Kd.R_base ho0)) (Kd.S_base ho1)) (fun _ h_=>h_.1));replace BK537:=AsZ.mk (kb (g:=gb537) (o := .cells #[.slice Ao10 t527.length co10,.slice Ao13 t530.length co13] 26 (0,0)) (bq BK537) hb);replace BK538:=AsZ.mk (kb (g:=gb538) (o := .cells #[.string t533,.int .i64 t534,.int .i64 t535,.string t536] 28 (0,0)) (bq BK538) hb);replace BK546:=AsZ.mk (kb (g:=gb546) (o := .cells #[.slice Ao17 t539.length co17,.slice Ao21 t542.length co21] 26 (0,0)) (bq BK546) hb);replace HB:=bp hb;(try clear hb);(try clear hb2);(try clear hk);(try clear hi);(try clear ho0);(try clear ho1))|((with_reducible refine gate_dst (N:=7) rfl ?_);(try (refine gate_guard (by rfl) ?_;dsimp only));refine bev 7 26 (cs:=#[.slice none 0 0,.slice none 0 0]) ?_;intro gb554 hg w25 hbox hb;have BK554:=AsZ.mk (hbox);have GW554:=gz HB hg;have GE554:=gz HB hg;have NB537_554:=nl BK537 hg;have NB554_537:=nr BK537 hg;have NB538_554:=nl BK538 hg;have NB554_538:=nr BK538 hg;have NB546_554:=nl BK546 hg;have NB554_546:=nr BK546 hg;replace HO529:=rQ HO529 hb;replace HO532:=rS HO532 hb;replace HO541:=rR HO541 hb;replace HO544:=rS HO544 hb;replace HO549:=rR HO549 hb;replace HO552:=rS HO552 hb;replace BK537:=bb BK537 hb;replace BK538:=bb BK538 hb;replace BK546:=bb BK546 hb;replace HB:=bp hb;clear hb hbox hg;obtain ⟨Ao26,co26,eo26⟩:=Kd.R_slice HO549.out;subst eo26;have hnb27:=NB554_537.out;have hnc27:=NB537_554.out;have hnb28:=NB554_538.out;have hnc28:=NB538_554.out;have hnb29:=NB554_546.out;have hnc29:=NB546_554.out;obtain ⟨hcz30_0,hcz30_1,hfz30_0,hfz30_1⟩:=bx2 BK554;obtain ⟨Ao31,co31,eo31⟩:=Kd.S_slice HO552.out;subst eo31))
   go_ret;exact ⟨re,bel⟩
 rw [if_neg c6] at H;have c6b0:(t545 != t553)=false:=by simpa using c6
 (try (have c6b1:decide (t545=t553)=true:=by simpa using c6));(try (have c6b2:(t545 == t553)=true:=by simpa using c6));clear c6;by_cases c32:t545=true;rotate_left
 · replace c32:=Bool.eq_false_iff.mpr c32
   subst c32;replace H:=iN H;obtain rfl:=zI H;go_enter Tryd.func3,Tryd.ntmps3;go_wp2_with (first|((with_reducible refine gcl (f:=11) rfl ?_);refine gk (some 33) Tryd.func11 #[.slice A0 l0.length c0] ?_;(with_reducible refine (spec_DrawInsertSkip.calls k _ _ l0 t527 t530 t533 t534 t535 t536 _ ?side1 ?side2 A3.out).mono ?_);(case side1=>exact cC (HR0.out));(case side2=>exact HC0.out);rintro e w174 ⟨v528,v531,rfl,ho0,ho1,hb⟩;refine ⟨_,rfl,?_⟩;have HO529:=AsZ.mk (Kd.Q_lower ho0 (bwz bel));have HO532:=AsZ.mk (Kd.S_lower ho1 (bwz bel));replace HB:=bp hb;(try clear hb);(try clear hb2);(try clear hk);(try clear hi);(try clear ho0);(try clear ho1))|((with_reducible refine gate_dst (N:=3) rfl ?_);(try (refine gate_guard (by rfl) ?_;dsimp only));refine bev 3 26 (cs:=#[.slice none 0 0,.slice none 0 0]) ?_;intro gb537 hg w175 hbox hb;have BK537:=AsZ.mk (hbox);have GW537:=gz HB hg;have GE537:=gz HB hg;replace HO529:=rQ HO529 hb;replace HO532:=rS HO532 hb;replace HB:=bp hb;clear hb hbox hg)|((with_reducible refine gate_dst (N:=4) rfl ?_);(try (refine gate_guard (by rfl) ?_;dsimp only));refine bev 4 28 (cs:=#[.string (⟨#[]⟩:ByteArray),.int .i64 0,.int .i64 0,.string (⟨#[]⟩:ByteArray)]) ?_;intro gb538 hg w176 hbox hb;have BK538:=AsZ.mk (hbox);have GW538:=gz HB hg;have GE538:=gz HB hg;have NB537_538:=nl BK537 hg;have NB538_537:=nr BK537 hg;replace HO529:=rQ HO529 hb;replace HO532:=rS HO532 hb;replace BK537:=bb BK537 hb;replace HB:=bp hb;clear hb hbox hg;obtain ⟨Ao177,co177,eo177,_⟩:=Kd.Q_slice HO529.out;subst eo177;have hnb178:=NB537_538.out;have hnc178:=NB538_537.out;obtain ⟨hcz179_0,hcz179_1,hfz179_0,hfz179_1⟩:=bx2 BK537;obtain ⟨Ao180,co180,eo180⟩:=Kd.S_slice HO532.out;subst eo180;obtain ⟨hcz181_0,hcz181_1,hcz181_2,hcz181_3,hfz181_0,hfz181_1,hfz181_2,hfz181_3⟩:=bx4 BK538)|((with_reducible refine gcl (f:=12) rfl ?_);refine gk (some 39) Tryd.func12 #[.agg #[.slice Ao177 t527.length co177,.slice Ao180 t530.length co180],.agg #[.string t533,.int .i64 t534,.int .i64 t535,.string t536]] ?_;(with_reducible refine (impl_InsertSkip.calls k _ _ t527 _ _ t530 t533 t534 t535 t536 t539 t542 false _ ?side1 ?side2 ?side3 ?side4 ?sideT A4.out).mono ?_);(case sideT=>exact tab_below HT.out (by repeat (first|(with_reducible first|exact HB.out|apply bwa|apply pbN|apply bw1|refine bws ?_ (AsZ.out (by assumption)))|exact HB.out)));(case side1=>refine (Kd.Q_reads' (e:=3) (base:=w.heap.size) (ok:=fun k_=>True) (n:=t527.length) (c:=co177) ?_).2.2;exact (by (with_reducible repeat (first|apply Kd.Q_alloc|apply Kd.Q_drewN|apply Kd.Q_drew));exact (Kd.Q_mono (Kd.Q_mono (fQ (fQ (fQ (fQ (Kd.Q_far (p:=⟨gb537,1,none⟩) (Kd.Q_far (p:=⟨gb537,0,none⟩) (Kd.Q_types (Kd.Q_types HO529.out BK537.out (by decide)) BK538.out (by decide)) (fun _ hk=>hk.1.2) (.slice Ao177 t527.length co177)) (fun _ hk=>hk.1.2) (.slice Ao180 t530.length co180)))))) (fun _ h_=>h_.1)) (fun _ h_=>h_.1))));(case side2=>exact (Kd.Q_reads' HO529.out).2.1);(case side3=>refine (Kd.S_reads' (e:=77) (base:=w.heap.size) (ok:=fun k_=>some k_ ≠ (.slice Ao177 t527.length co177:Value).ownBlock) (n:=t530.length) (c:=co180) ?_).2.2;exact (by (with_reducible repeat (first|apply Kd.S_alloc|apply Kd.S_drewN|apply Kd.S_drew));exact (Kd.S_mono (Kd.S_mono (fS (fS (fS (fS (Kd.S_far (p:=⟨gb537,1,none⟩) (Kd.S_far (p:=⟨gb537,0,none⟩) (Kd.S_types (Kd.S_types HO532.out BK537.out (by decide)) BK538.out (by decide)) (fun _ hk=>hk.1.2) (.slice Ao177 t527.length co177)) (fun _ hk=>hk.1.2) (.slice Ao180 t530.length co180)))))) (fun _ h_=>h_.1)) (fun _ h_=>h_.1))));(case side4=>exact (Kd.S_reads' HO532.out).2.1);rintro e w182 ⟨v540,v543,rfl,ho0,ho1,hb⟩;refine ⟨_,rfl,?_⟩;have HO541:=AsZ.mk (Kd.R_lower (Kd.R_new' ho0 (Kd.Q_lt (by (with_reducible repeat (first|apply Kd.Q_alloc|apply Kd.Q_drewN|apply Kd.Q_drew));exact (Kd.Q_mono (Kd.Q_mono (fQ (fQ (fQ (fQ (Kd.Q_far (p:=⟨gb537,1,none⟩) (Kd.Q_far (p:=⟨gb537,0,none⟩) (Kd.Q_types (Kd.Q_types HO529.out BK537.out (by decide)) BK538.out (by decide)) (fun _ hk=>hk.1.2) (.slice Ao177 t527.length co177)) (fun _ hk=>hk.1.2) (.slice Ao180 t530.length co180)))))) (fun _ h_=>h_.1)) (fun _ h_=>h_.1))))) (bwz bel));have HO544:=AsZ.mk (Kd.S_lower (Kd.S_new' (Kd.S_new' ho1 (Kd.Q_lt (by (with_reducible repeat (first|apply Kd.Q_alloc|apply Kd.Q_drewN|apply Kd.Q_drew));exact (Kd.Q_mono (Kd.Q_mono (fQ (fQ (fQ (fQ (Kd.Q_far (p:=⟨gb537,1,none⟩) (Kd.Q_far (p:=⟨gb537,0,none⟩) (Kd.Q_types (Kd.Q_types HO529.out BK537.out (by decide)) BK538.out (by decide)) (fun _ hk=>hk.1.2) (.slice Ao177 t527.length co177)) (fun _ hk=>hk.1.2) (.slice Ao180 t530.length co180)))))) (fun _ h_=>h_.1)) (fun _ h_=>h_.1))))) (Kd.S_lt (by (with_reducible repeat (first|apply Kd.S_alloc|apply Kd.S_drewN|apply Kd.S_drew));exact (Kd.S_mono (Kd.S_mono (fS (fS (fS (fS (Kd.S_far (p:=⟨gb537,1,none⟩) (Kd.S_far (p:=⟨gb537,0,none⟩) (Kd.S_types (Kd.S_types HO532.out BK537.out (by decide)) BK538.out (by decide)) (fun _ hk=>hk.1.2) (.slice Ao177 t527.length co177)) (fun _ hk=>hk.1.2) (.slice Ao180 t530.length co180)))))) (fun _ h_=>h_.1)) (fun _ h_=>h_.1))))) (bwz bel));replace HO529:=AsZ.mk (Kd.Q_elder' (by (with_reducible repeat (first|apply Kd.Q_alloc|apply Kd.Q_drewN|apply Kd.Q_drew));exact (Kd.Q_mono (Kd.Q_mono (fQ (fQ (fQ (fQ (Kd.Q_far (p:=⟨gb537,1,none⟩) (Kd.Q_far (p:=⟨gb537,0,none⟩) (Kd.Q_types (Kd.Q_types HO529.out BK537.out (by decide)) BK538.out (by decide)) (fun _ hk=>hk.1.2) (.slice Ao177 t527.length co177)) (fun _ hk=>hk.1.2) (.slice Ao180 t530.length co180)))))) (fun _ h_=>h_.1)) (fun _ h_=>h_.1))) (Kd.R_base ho0) hb);replace HO532:=AsZ.mk (Kd.S_mono (Kd.S_told (Kd.S_told (Kd.S_old (by (with_reducible repeat (first|apply Kd.S_alloc|apply Kd.S_drewN|apply Kd.S_drew));exact (Kd.S_mono (Kd.S_mono (fS (fS (fS (fS (Kd.S_far (p:=⟨gb537,1,none⟩) (Kd.S_far (p:=⟨gb537,0,none⟩) (Kd.S_types (Kd.S_types HO532.out BK537.out (by decide)) BK538.out (by decide)) (fun _ hk=>hk.1.2) (.slice Ao177 t527.length co177)) (fun _ hk=>hk.1.2) (.slice Ao180 t530.length co180)))))) (fun _ h_=>h_.1)) (fun _ h_=>h_.1))) hb) (Kd.R_base ho0)) (Kd.S_base ho1)) (fun _ h_=>h_.1));replace BK537:=AsZ.mk (kb (g:=gb537) (o := .cells #[.slice Ao177 t527.length co177,.slice Ao180 t530.length co180] 26 (0,0)) (bq BK537) hb);replace BK538:=AsZ.mk (kb (g:=gb538) (o := .cells #[.string t533,.int .i64 t534,.int .i64 t535,.string t536] 28 (0,0)) (bq BK538) hb);replace HB:=bp hb;(try clear hb);(try clear hb2);(try clear hk);(try clear hi);(try clear ho0);(try clear ho1))|((with_reducible refine gate_dst (N:=5) rfl ?_);(try (refine gate_guard (by rfl) ?_;dsimp only));refine bev 5 26 (cs:=#[.slice none 0 0,.slice none 0 0]) ?_;intro gb546 hg w183 hbox hb;have BK546:=AsZ.mk (hbox);have GW546:=gz HB hg;have GE546:=gz HB hg;have NB537_546:=nl BK537 hg;have NB546_537:=nr BK537 hg;have NB538_546:=nl BK538 hg;have NB546_538:=nr BK538 hg;replace HO529:=rQ HO529 hb;replace HO532:=rS HO532 hb;replace HO541:=rR HO541 hb;replace HO544:=rS HO544 hb;replace BK537:=bb BK537 hb;replace BK538:=bb BK538 hb;replace HB:=bp hb;clear hb hbox hg;obtain ⟨Ao184,co184,eo184⟩:=Kd.R_slice HO541.out;subst eo184;have hnb185:=NB546_537.out;have hnc185:=NB537_546.out;have hnb186:=NB546_538.out;have hnc186:=NB538_546.out;obtain ⟨hcz187_0,hcz187_1,hfz187_0,hfz187_1⟩:=bx2 BK546;obtain ⟨Ao188,co188,eo188⟩:=Kd.S_slice HO544.out;subst eo188;obtain ⟨hcz189_0,hcz189_1,hfz189_0,hfz189_1⟩:=bx2 BK537;obtain ⟨hcz190_0,hcz190_1,hcz190_2,hcz190_3,hfz190_0,hfz190_1,hfz190_2,hfz190_3⟩:=bx4 BK538)|((with_reducible refine gcl (f:=13) rfl ?_);refine gk (some 45) Tryd.func13 #[.agg #[.slice Ao177 t527.length co177,.slice Ao180 t530.length co180],.agg #[.string t533,.int .i64 t534,.int .i64 t535,.string t536]] ?_;(with_reducible refine (spec_InsertSkip.calls k _ _ t527 _ _ t530 t533 t534 t535 t536 t547 t550 t553 _ ?side1 ?side2 ?side3 ?side4 A5.out).mono ?_);(case side1=>refine (Kd.Q_reads' (e:=3) (base:=w.heap.size) (ok:=fun k_=>(True∧some k_ ≠ (.slice Ao184 t539.length co184:Value).ownBlock)) (n:=t527.length) (c:=co177) ?_).2.2;exact (by (with_reducible repeat (first|apply Kd.Q_alloc|apply Kd.Q_drewN|apply Kd.Q_drew));exact (Kd.Q_mono (fQ (fQ (Kd.Q_types HO529.out BK546.out (by decide)))) (fun _ h_=>h_.1))));(case side2=>exact (Kd.Q_reads' HO529.out).2.1);(case side3=>refine (Kd.S_reads' (e:=77) (base:=w.heap.size) (ok:=fun k_=>((some k_ ≠ (.slice Ao177 t527.length co177:Value).ownBlock∧some k_ ≠ (.slice Ao184 t539.length co184:Value).ownBlock)∧some k_ ≠ (.slice Ao188 t542.length co188:Value).ownBlock)) (n:=t530.length) (c:=co180) ?_).2.2;exact (by (with_reducible repeat (first|apply Kd.S_alloc|apply Kd.S_drewN|apply Kd.S_drew));exact (Kd.S_mono (fS (fS (Kd.S_types HO532.out BK546.out (by decide)))) (fun _ h_=>h_.1))));(case side4=>exact (Kd.S_reads' HO532.out).2.1);rintro e w191 ⟨v548,v551,rfl,ho0,ho1,hb⟩;refine ⟨_,rfl,?_⟩;have HO549:=AsZ.mk (Kd.R_lower (Kd.R_new' (Kd.R_new' ho0 (Kd.Q_lt (by (with_reducible repeat (first|apply Kd.Q_alloc|apply Kd.Q_drewN|apply Kd.Q_drew));exact (Kd.Q_mono (fQ (fQ (Kd.Q_types HO529.out BK546.out (by decide)))) (fun _ h_=>h_.1))))) (Kd.R_lt (by (with_reducible repeat (first|apply Kd.R_alloc|apply Kd.R_drewN|apply Kd.R_drew));exact (Kd.R_mono (fR (fR (Kd.R_types HO541.out BK546.out (by decide)))) (fun _ h_=>h_.1))))) (bwz bel));have HO552:=AsZ.mk (Kd.S_lower (Kd.S_new' (Kd.S_new' (Kd.S_new' (Kd.S_new' ho1 (Kd.Q_lt (by (with_reducible repeat (first|apply Kd.Q_alloc|apply Kd.Q_drewN|apply Kd.Q_drew));exact (Kd.Q_mono (fQ (fQ (Kd.Q_types HO529.out BK546.out (by decide)))) (fun _ h_=>h_.1))))) (Kd.S_lt (by (with_reducible repeat (first|apply Kd.S_alloc|apply Kd.S_drewN|apply Kd.S_drew));exact (Kd.S_mono (fS (fS (Kd.S_types HO532.out BK546.out (by decide)))) (fun _ h_=>h_.1))))) (Kd.R_lt (by (with_reducible repeat (first|apply Kd.R_alloc|apply Kd.R_drewN|apply Kd.R_drew));exact (Kd.R_mono (fR (fR (Kd.R_types HO541.out BK546.out (by decide)))) (fun _ h_=>h_.1))))) (Kd.S_lt (by (with_reducible repeat (first|apply Kd.S_alloc|apply Kd.S_drewN|apply Kd.S_drew));exact (Kd.S_mono (fS (fS (Kd.S_types HO544.out BK546.out (by decide)))) (fun _ h_=>h_.1))))) (bwz bel));replace HO529:=AsZ.mk (Kd.Q_elder' (by (with_reducible repeat (first|apply Kd.Q_alloc|apply Kd.Q_drewN|apply Kd.Q_drew));exact (Kd.Q_mono (fQ (fQ (Kd.Q_types HO529.out BK546.out (by decide)))) (fun _ h_=>h_.1))) (Kd.R_base ho0) hb);replace HO532:=AsZ.mk (Kd.S_mono (Kd.S_told (Kd.S_told (Kd.S_old (by (with_reducible repeat (first|apply Kd.S_alloc|apply Kd.S_drewN|apply Kd.S_drew));exact (Kd.S_mono (fS (fS (Kd.S_types HO532.out BK546.out (by decide)))) (fun _ h_=>h_.1))) hb) (Kd.R_base ho0)) (Kd.S_base ho1)) (fun _ h_=>h_.1));replace HO541:=AsZ.mk (Kd.R_elder' (by (with_reducible repeat (first|apply Kd.R_alloc|apply Kd.R_drewN|apply Kd.R_drew));exact (Kd.R_mono (fR (fR (Kd.R_types HO541.out BK546.out (by decide)))) (fun _ h_=>h_.1))) (Kd.R_base ho0) hb);replace HO544:=AsZ.mk (Kd.S_mono (Kd.S_told (Kd.S_told (Kd.S_old (by (with_reducible repeat (first|apply Kd.S_alloc|apply Kd.S_drewN|apply Kd.S_drew));exact (Kd.S_mono (fS (fS (Kd.S_types HO544.out BK546.out (by decide)))) (fun _ h_=>h_.1))) hb) (Kd.R_base ho0)) (Kd.S_base ho1)) (fun _ h_=>h_.1));replace BK537:=AsZ.mk (kb (g:=gb537) (o := .cells #[.slice Ao177 t527.length co177,.slice Ao180 t530.length co180] 26 (0,0)) (bq BK537) hb);replace BK538:=AsZ.mk (kb (g:=gb538) (o := .cells #[.string t533,.int .i64 t534,.int .i64 t535,.string t536] 28 (0,0)) (bq BK538) hb);replace BK546:=AsZ.mk (kb (g:=gb546) (o := .cells #[.slice Ao184 t539.length co184,.slice Ao188 t542.length co188] 26 (0,0)) (bq BK546) hb);replace HB:=bp hb;(try clear hb);(try clear hb2);(try clear hk);(try clear hi);(try clear ho0);(try clear ho1))|((with_reducible refine gate_dst (N:=7) rfl ?_);(try (refine gate_guard (by rfl) ?_;dsimp only));refine bev 7 26 (cs:=#[.slice none 0 0,.slice none 0 0]) ?_;intro gb554 hg w192 hbox hb;have BK554:=AsZ.mk (hbox);have GW554:=gz HB hg;have GE554:=gz HB hg;have NB537_554:=nl BK537 hg;have NB554_537:=nr BK537 hg;have NB538_554:=nl BK538 hg;have NB554_538:=nr BK538 hg;have NB546_554:=nl BK546 hg;have NB554_546:=nr BK546 hg;replace HO529:=rQ HO529 hb;replace HO532:=rS HO532 hb;replace HO541:=rR HO541 hb;replace HO544:=rS HO544 hb;replace HO549:=rR HO549 hb;replace HO552:=rS HO552 hb;replace BK537:=bb BK537 hb;replace BK538:=bb BK538 hb;replace BK546:=bb BK546 hb;replace HB:=bp hb;clear hb hbox hg;obtain ⟨Ao193,co193,eo193⟩:=Kd.R_slice HO549.out;subst eo193;have hnb194:=NB554_537.out;have hnc194:=NB537_554.out;have hnb195:=NB554_538.out;have hnc195:=NB538_554.out;have hnb196:=NB554_546.out;have hnc196:=NB546_554.out;obtain ⟨hcz197_0,hcz197_1,hfz197_0,hfz197_1⟩:=bx2 BK554;obtain ⟨Ao198,co198,eo198⟩:=Kd.S_slice HO552.out;subst eo198;obtain ⟨hcz199_0,hcz199_1,hfz199_0,hfz199_1⟩:=bx2 BK546))
   go_ret;exact ⟨re,bel⟩
 subst c32;replace H:=iP H;replace H:=bs H;obtain ⟨⟨t555,t558⟩,A33,H⟩:=H;replace H:=bs H;obtain ⟨⟨t559,t562⟩,A34,H⟩:=H;have HC35:=AsZ.mk H;clear H;go_enter Tryd.func3,Tryd.ntmps3;go_upto_region 12 with (first|((with_reducible refine gcl (f:=11) rfl ?_);refine gk (some 33) Tryd.func11 #[.slice A0 l0.length c0] ?_;(with_reducible refine (spec_DrawInsertSkip.calls k _ _ l0 t527 t530 t533 t534 t535 t536 _ ?side1 ?side2 A3.out).mono ?_);(case side1=>exact cC (HR0.out));(case side2=>exact HC0.out);rintro e w36 ⟨v528,v531,rfl,ho0,ho1,hb⟩;refine ⟨_,rfl,?_⟩;have HO529:=AsZ.mk (Kd.Q_lower ho0 (bwz bel));have HO532:=AsZ.mk (Kd.S_lower ho1 (bwz bel));replace HB:=bp hb;(try clear hb);(try clear hb2);(try clear hk);(try clear hi);(try clear ho0);(try clear ho1))|((with_reducible refine gate_dst (N:=3) rfl ?_);(try (refine gate_guard (by rfl) ?_;dsimp only));refine bev 3 26 (cs:=#[.slice none 0 0,.slice none 0 0]) ?_;intro gb537 hg w37 hbox hb;have BK537:=AsZ.mk (hbox);have GW537:=gz HB hg;have GE537:=gz HB hg;replace HO529:=rQ HO529 hb;replace HO532:=rS HO532 hb;replace HB:=bp hb;clear hb hbox hg)|((with_reducible refine gate_dst (N:=4) rfl ?_);(try (refine gate_guard (by rfl) ?_;dsimp only));refine bev 4 28 (cs:=#[.string (⟨#[]⟩:ByteArray),.int .i64 0,.int .i64 0,.string (⟨#[]⟩:ByteArray)]) ?_;intro gb538 hg w38 hbox hb;have BK538:=AsZ.mk (hbox);have GW538:=gz HB hg;have GE538:=gz HB hg;have NB537_538:=nl BK537 hg;have NB538_537:=nr BK537 hg;replace HO529:=rQ HO529 hb;replace HO532:=rS HO532 hb;replace BK537:=bb BK537 hb;replace HB:=bp hb;clear hb hbox hg;obtain ⟨Ao39,co39,eo39,_⟩:=Kd.Q_slice HO529.out;subst eo39;have hnb40:=NB537_538.out;have hnc40:=NB538_537.out;obtain ⟨hcz41_0,hcz41_1,hfz41_0,hfz41_1⟩:=bx2 BK537;obtain ⟨Ao42,co42,eo42⟩:=Kd.S_slice HO532.out;subst eo42;obtain ⟨hcz43_0,hcz43_1,hcz43_2,hcz43_3,hfz43_0,hfz43_1,hfz43_2,hfz43_3⟩:=bx4 BK538)|((with_reducible refine gcl (f:=12) rfl ?_);refine gk (some 39) Tryd.func12 #[.agg #[.slice Ao39 t527.length co39,.slice Ao42 t530.length co42],.agg #[.string t533,.int .i64 t534,.int .i64 t535,.string t536]] ?_;(with_reducible refine (impl_InsertSkip.calls k _ _ t527 _ _ t530 t533 t534 t535 t536 t539 t542 true _ ?side1 ?side2 ?side3 ?side4 ?sideT A4.out).mono ?_);(case sideT=>exact tab_below HT.out (by repeat (first|(with_reducible first|exact HB.out|apply bwa|apply pbN|apply bw1|refine bws ?_ (AsZ.out (by assumption)))|exact HB.out)));(case side1=>refine (Kd.Q_reads' (e:=3) (base:=w.heap.size) (ok:=fun k_=>True) (n:=t527.length) (c:=co39) ?_).2.2;exact (by (with_reducible repeat (first|apply Kd.Q_alloc|apply Kd.Q_drewN|apply Kd.Q_drew));exact (Kd.Q_mono (Kd.Q_mono (fQ (fQ (fQ (fQ (Kd.Q_far (p:=⟨gb537,1,none⟩) (Kd.Q_far (p:=⟨gb537,0,none⟩) (Kd.Q_types (Kd.Q_types HO529.out BK537.out (by decide)) BK538.out (by decide)) (fun _ hk=>hk.1.2) (.slice Ao39 t527.length co39)) (fun _ hk=>hk.1.2) (.slice Ao42 t530.length co42)))))) (fun _ h_=>h_.1)) (fun _ h_=>h_.1))));(case side2=>exact (Kd.Q_reads' HO529.out).2.1);(case side3=>refine (Kd.S_reads' (e:=77) (base:=w.heap.size) (ok:=fun k_=>some k_ ≠ (.slice Ao39 t527.length co39:Value).ownBlock) (n:=t530.length) (c:=co42) ?_).2.2;exact (by (with_reducible repeat (first|apply Kd.S_alloc|apply Kd.S_drewN|apply Kd.S_drew));exact (Kd.S_mono (Kd.S_mono (fS (fS (fS (fS (Kd.S_far (p:=⟨gb537,1,none⟩) (Kd.S_far (p:=⟨gb537,0,none⟩) (Kd.S_types (Kd.S_types HO532.out BK537.out (by decide)) BK538.out (by decide)) (fun _ hk=>hk.1.2) (.slice Ao39 t527.length co39)) (fun _ hk=>hk.1.2) (.slice Ao42 t530.length co42)))))) (fun _ h_=>h_.1)) (fun _ h_=>h_.1))));(case side4=>exact (Kd.S_reads' HO532.out).2.1);rintro e w44 ⟨v540,v543,rfl,ho0,ho1,hb⟩;refine ⟨_,rfl,?_⟩;have HO541:=AsZ.mk (Kd.R_lower (Kd.R_new' ho0 (Kd.Q_lt (by (with_reducible repeat (first|apply Kd.Q_alloc|apply Kd.Q_drewN|apply Kd.Q_drew));exact (Kd.Q_mono (Kd.Q_mono (fQ (fQ (fQ (fQ (Kd.Q_far (p:=⟨gb537,1,none⟩) (Kd.Q_far (p:=⟨gb537,0,none⟩) (Kd.Q_types (Kd.Q_types HO529.out BK537.out (by decide)) BK538.out (by decide)) (fun _ hk=>hk.1.2) (.slice Ao39 t527.length co39)) (fun _ hk=>hk.1.2) (.slice Ao42 t530.length co42)))))) (fun _ h_=>h_.1)) (fun _ h_=>h_.1))))) (bwz bel));have HO544:=AsZ.mk (Kd.S_lower (Kd.S_new' (Kd.S_new' ho1 (Kd.Q_lt (by (with_reducible repeat (first|apply Kd.Q_alloc|apply Kd.Q_drewN|apply Kd.Q_drew));exact (Kd.Q_mono (Kd.Q_mono (fQ (fQ (fQ (fQ (Kd.Q_far (p:=⟨gb537,1,none⟩) (Kd.Q_far (p:=⟨gb537,0,none⟩) (Kd.Q_types (Kd.Q_types HO529.out BK537.out (by decide)) BK538.out (by decide)) (fun _ hk=>hk.1.2) (.slice Ao39 t527.length co39)) (fun _ hk=>hk.1.2) (.slice Ao42 t530.length co42)))))) (fun _ h_=>h_.1)) (fun _ h_=>h_.1))))) (Kd.S_lt (by (with_reducible repeat (first|apply Kd.S_alloc|apply Kd.S_drewN|apply Kd.S_drew));exact (Kd.S_mono (Kd.S_mono (fS (fS (fS (fS (Kd.S_far (p:=⟨gb537,1,none⟩) (Kd.S_far (p:=⟨gb537,0,none⟩) (Kd.S_types (Kd.S_types HO532.out BK537.out (by decide)) BK538.out (by decide)) (fun _ hk=>hk.1.2) (.slice Ao39 t527.length co39)) (fun _ hk=>hk.1.2) (.slice Ao42 t530.length co42)))))) (fun _ h_=>h_.1)) (fun _ h_=>h_.1))))) (bwz bel));replace HO529:=AsZ.mk (Kd.Q_elder' (by (with_reducible repeat (first|apply Kd.Q_alloc|apply Kd.Q_drewN|apply Kd.Q_drew));exact (Kd.Q_mono (Kd.Q_mono (fQ (fQ (fQ (fQ (Kd.Q_far (p:=⟨gb537,1,none⟩) (Kd.Q_far (p:=⟨gb537,0,none⟩) (Kd.Q_types (Kd.Q_types HO529.out BK537.out (by decide)) BK538.out (by decide)) (fun _ hk=>hk.1.2) (.slice Ao39 t527.length co39)) (fun _ hk=>hk.1.2) (.slice Ao42 t530.length co42)))))) (fun _ h_=>h_.1)) (fun _ h_=>h_.1))) (Kd.R_base ho0) hb);replace HO532:=AsZ.mk (Kd.S_mono (Kd.S_told (Kd.S_told (Kd.S_old (by (with_reducible repeat (first|apply Kd.S_alloc|apply Kd.S_drewN|apply Kd.S_drew));exact (Kd.S_mono (Kd.S_mono (fS (fS (fS (fS (Kd.S_far (p:=⟨gb537,1,none⟩) (Kd.S_far (p:=⟨gb537,0,none⟩) (Kd.S_types (Kd.S_types HO532.out BK537.out (by decide)) BK538.out (by decide)) (fun _ hk=>hk.1.2) (.slice Ao39 t527.length co39)) (fun _ hk=>hk.1.2) (.slice Ao42 t530.length co42)))))) (fun _ h_=>h_.1)) (fun _ h_=>h_.1))) hb) (Kd.R_base ho0)) (Kd.S_base ho1)) (fun _ h_=>h_.1));replace BK537:=AsZ.mk (kb (g:=gb537) (o := .cells #[.slice Ao39 t527.length co39,.slice Ao42 t530.length co42] 26 (0,0)) (bq BK537) hb);replace BK538:=AsZ.mk (kb (g:=gb538) (o := .cells #[.string t533,.int .i64 t534,.int .i64 t535,.string t536] 28 (0,0)) (bq BK538) hb);replace HB:=bp hb;(try clear hb);(try clear hb2);(try clear hk);(try clear hi);(try clear ho0);(try clear ho1))|((with_reducible refine gate_dst (N:=5) rfl ?_);(try (refine gate_guard (by rfl) ?_;dsimp only));refine bev 5 26 (cs:=#[.slice none 0 0,.slice none 0 0]) ?_;intro gb546 hg w45 hbox hb;have BK546:=AsZ.mk (hbox);have GW546:=gz HB hg;have GE546:=gz HB hg;have NB537_546:=nl BK537 hg;have NB546_537:=nr BK537 hg;have NB538_546:=nl BK538 hg;have NB546_538:=nr BK538 hg;replace HO529:=rQ HO529 hb;replace HO532:=rS HO532 hb;replace HO541:=rR HO541 hb;replace HO544:=rS HO544 hb;replace BK537:=bb BK537 hb;replace BK538:=bb BK538 hb;replace HB:=bp hb;clear hb hbox hg;obtain ⟨Ao46,co46,eo46⟩:=Kd.R_slice HO541.out;subst eo46;have hnb47:=NB546_537.out;have hnc47:=NB537_546.out;have hnb48:=NB546_538.out;have hnc48:=NB538_546.out;obtain ⟨hcz49_0,hcz49_1,hfz49_0,hfz49_1⟩:=bx2 BK546;obtain ⟨Ao50,co50,eo50⟩:=Kd.S_slice HO544.out;subst eo50;obtain ⟨hcz51_0,hcz51_1,hfz51_0,hfz51_1⟩:=bx2 BK537;obtain ⟨hcz52_0,hcz52_1,hcz52_2,hcz52_3,hfz52_0,hfz52_1,hfz52_2,hfz52_3⟩:=bx4 BK538)|((with_reducible refine gcl (f:=13) rfl ?_);refine gk (some 45) Tryd.func13 #[.agg #[.slice Ao39 t527.length co39,.slice Ao42 t530.length co42],.agg #[.string t533,.int .i64 t534,.int .i64 t535,.string t536]] ?_;(with_reducible refine (spec_InsertSkip.calls k _ _ t527 _ _ t530 t533 t534 t535 t536 t547 t550 t553 _ ?side1 ?side2 ?side3 ?side4 A5.out).mono ?_);(case side1=>refine (Kd.Q_reads' (e:=3) (base:=w.heap.size) (ok:=fun k_=>(True∧some k_ ≠ (.slice Ao46 t539.length co46:Value).ownBlock)) (n:=t527.length) (c:=co39) ?_).2.2;exact (by (with_reducible repeat (first|apply Kd.Q_alloc|apply Kd.Q_drewN|apply Kd.Q_drew));exact (Kd.Q_mono (fQ (fQ (Kd.Q_types HO529.out BK546.out (by decide)))) (fun _ h_=>h_.1))));(case side2=>exact (Kd.Q_reads' HO529.out).2.1);(case side3=>refine (Kd.S_reads' (e:=77) (base:=w.heap.size) (ok:=fun k_=>((some k_ ≠ (.slice Ao39 t527.length co39:Value).ownBlock∧some k_ ≠ (.slice Ao46 t539.length co46:Value).ownBlock)∧some k_ ≠ (.slice Ao50 t542.length co50:Value).ownBlock)) (n:=t530.length) (c:=co42) ?_).2.2;exact (by (with_reducible repeat (first|apply Kd.S_alloc|apply Kd.S_drewN|apply Kd.S_drew));exact (Kd.S_mono (fS (fS (Kd.S_types HO532.out BK546.out (by decide)))) (fun _ h_=>h_.1))));(case side4=>exact (Kd.S_reads' HO532.out).2.1);rintro e w53 ⟨v548,v551,rfl,ho0,ho1,hb⟩;refine ⟨_,rfl,?_⟩;have HO549:=AsZ.mk (Kd.R_lower (Kd.R_new' (Kd.R_new' ho0 (Kd.Q_lt (by (with_reducible repeat (first|apply Kd.Q_alloc|apply Kd.Q_drewN|apply Kd.Q_drew));exact (Kd.Q_mono (fQ (fQ (Kd.Q_types HO529.out BK546.out (by decide)))) (fun _ h_=>h_.1))))) (Kd.R_lt (by (with_reducible repeat (first|apply Kd.R_alloc|apply Kd.R_drewN|apply Kd.R_drew));exact (Kd.R_mono (fR (fR (Kd.R_types HO541.out BK546.out (by decide)))) (fun _ h_=>h_.1))))) (bwz bel));have HO552:=AsZ.mk (Kd.S_lower (Kd.S_new' (Kd.S_new' (Kd.S_new' (Kd.S_new' ho1 (Kd.Q_lt (by (with_reducible repeat (first|apply Kd.Q_alloc|apply Kd.Q_drewN|apply Kd.Q_drew));exact (Kd.Q_mono (fQ (fQ (Kd.Q_types HO529.out BK546.out (by decide)))) (fun _ h_=>h_.1))))) (Kd.S_lt (by (with_reducible repeat (first|apply Kd.S_alloc|apply Kd.S_drewN|apply Kd.S_drew));exact (Kd.S_mono (fS (fS (Kd.S_types HO532.out BK546.out (by decide)))) (fun _ h_=>h_.1))))) (Kd.R_lt (by (with_reducible repeat (first|apply Kd.R_alloc|apply Kd.R_drewN|apply Kd.R_drew));exact (Kd.R_mono (fR (fR (Kd.R_types HO541.out BK546.out (by decide)))) (fun _ h_=>h_.1))))) (Kd.S_lt (by (with_reducible repeat (first|apply Kd.S_alloc|apply Kd.S_drewN|apply Kd.S_drew));exact (Kd.S_mono (fS (fS (Kd.S_types HO544.out BK546.out (by decide)))) (fun _ h_=>h_.1))))) (bwz bel));replace HO529:=AsZ.mk (Kd.Q_elder' (by (with_reducible repeat (first|apply Kd.Q_alloc|apply Kd.Q_drewN|apply Kd.Q_drew));exact (Kd.Q_mono (fQ (fQ (Kd.Q_types HO529.out BK546.out (by decide)))) (fun _ h_=>h_.1))) (Kd.R_base ho0) hb);replace HO532:=AsZ.mk (Kd.S_mono (Kd.S_told (Kd.S_told (Kd.S_old (by (with_reducible repeat (first|apply Kd.S_alloc|apply Kd.S_drewN|apply Kd.S_drew));exact (Kd.S_mono (fS (fS (Kd.S_types HO532.out BK546.out (by decide)))) (fun _ h_=>h_.1))) hb) (Kd.R_base ho0)) (Kd.S_base ho1)) (fun _ h_=>h_.1));replace HO541:=AsZ.mk (Kd.R_elder' (by (with_reducible repeat (first|apply Kd.R_alloc|apply Kd.R_drewN|apply Kd.R_drew));exact (Kd.R_mono (fR (fR (Kd.R_types HO541.out BK546.out (by decide)))) (fun _ h_=>h_.1))) (Kd.R_base ho0) hb);replace HO544:=AsZ.mk (Kd.S_mono (Kd.S_told (Kd.S_told (Kd.S_old (by (with_reducible repeat (first|apply Kd.S_alloc|apply Kd.S_drewN|apply Kd.S_drew));exact (Kd.S_mono (fS (fS (Kd.S_types HO544.out BK546.out (by decide)))) (fun _ h_=>h_.1))) hb) (Kd.R_base ho0)) (Kd.S_base ho1)) (fun _ h_=>h_.1));replace BK537:=AsZ.mk (kb (g:=gb537) (o := .cells #[.slice Ao39 t527.length co39,.slice Ao42 t530.length co42] 26 (0,0)) (bq BK537) hb);replace BK538:=AsZ.mk (kb (g:=gb538) (o := .cells #[.string t533,.int .i64 t534,.int .i64 t535,.string t536] 28 (0,0)) (bq BK538) hb);replace BK546:=AsZ.mk (kb (g:=gb546) (o := .cells #[.slice Ao46 t539.length co46,.slice Ao50 t542.length co50] 26 (0,0)) (bq BK546) hb);replace HB:=bp hb;(try clear hb);(try clear hb2);(try clear hk);(try clear hi);(try clear ho0);(try clear ho1))|((with_reducible refine gate_dst (N:=7) rfl ?_);(try (refine gate_guard (by rfl) ?_;dsimp only));refine bev 7 26 (cs:=#[.slice none 0 0,.slice none 0 0]) ?_;intro gb554 hg w54 hbox hb;have BK554:=AsZ.mk (hbox);have GW554:=gz HB hg;have GE554:=gz HB hg;have NB537_554:=nl BK537 hg;have NB554_537:=nr BK537 hg;have NB538_554:=nl BK538 hg;have NB554_538:=nr BK538 hg;have NB546_554:=nl BK546 hg;have NB554_546:=nr BK546 hg;replace HO529:=rQ HO529 hb;replace HO532:=rS HO532 hb;replace HO541:=rR HO541 hb;replace HO544:=rS HO544 hb;replace HO549:=rR HO549 hb;replace HO552:=rS HO552 hb;replace BK537:=bb BK537 hb;replace BK538:=bb BK538 hb;replace BK546:=bb BK546 hb;replace HB:=bp hb;clear hb hbox hg;obtain ⟨Ao55,co55,eo55⟩:=Kd.R_slice HO549.out;subst eo55;have hnb56:=NB554_537.out;have hnc56:=NB537_554.out;have hnb57:=NB554_538.out;have hnc57:=NB538_554.out;have hnb58:=NB554_546.out;have hnc58:=NB546_554.out;obtain ⟨hcz59_0,hcz59_1,hfz59_0,hfz59_1⟩:=bx2 BK554;obtain ⟨Ao60,co60,eo60⟩:=Kd.S_slice HO552.out;subst eo60;obtain ⟨hcz61_0,hcz61_1,hfz61_0,hfz61_1⟩:=bx2 BK537)|((with_reducible refine gcl (f:=14) rfl ?_);refine gk (some 59) Tryd.func14 #[.agg #[.slice Ao39 t527.length co39,.slice Ao42 t530.length co42],.int .i64 0] ?_;(with_reducible refine (impl_ListSkip.calls k _ _ t527 _ _ t530 0 t555 t558 _ ?side1 ?side2 ?side3 ?side4 ?sideT A33.out).mono ?_);(case sideT=>exact tab_below HT.out (by repeat (first|(with_reducible first|exact HB.out|apply bwa|apply pbN|apply bw1|refine bws ?_ (AsZ.out (by assumption)))|exact HB.out)));(case side1=>refine (Kd.Q_reads' (e:=3) (base:=w.heap.size) (ok:=fun k_=>((True∧some k_ ≠ (.slice Ao46 t539.length co46:Value).ownBlock)∧some k_ ≠ (.slice Ao55 t547.length co55:Value).ownBlock)) (n:=t527.length) (c:=co39) ?_).2.2;exact (by (with_reducible repeat (first|apply Kd.Q_alloc|apply Kd.Q_drewN|apply Kd.Q_drew));exact (Kd.Q_mono (fQ (fQ (Kd.Q_types HO529.out BK554.out (by decide)))) (fun _ h_=>h_.1))));(case side2=>exact (Kd.Q_reads' HO529.out).2.1);(case side3=>refine (Kd.S_reads' (e:=77) (base:=w.heap.size) (ok:=fun k_=>((((some k_ ≠ (.slice Ao39 t527.length co39:Value).ownBlock∧some k_ ≠ (.slice Ao46 t539.length co46:Value).ownBlock)∧some k_ ≠ (.slice Ao50 t542.length co50:Value).ownBlock)∧some k_ ≠ (.slice Ao55 t547.length co55:Value).ownBlock)∧some k_ ≠ (.slice Ao60 t550.length co60:Value).ownBlock)) (n:=t530.length) (c:=co42) ?_).2.2;exact (by (with_reducible repeat (first|apply Kd.S_alloc|apply Kd.S_drewN|apply Kd.S_drew));exact (Kd.S_mono (fS (fS (Kd.S_types HO532.out BK554.out (by decide)))) (fun _ h_=>h_.1))));(case side4=>exact (Kd.S_reads' HO532.out).2.1);rintro e w62 ⟨v556,rfl,ho0,hb⟩;refine ⟨_,rfl,?_⟩;have HO557:=AsZ.mk (Kd.R_lower (Kd.R_newB ho0 (g:=gb538) (o := .cells #[.string t533,.int .i64 t534,.int .i64 t535,.string t536] 28 (0,0)) (bq BK538)) (bwz bel));replace HO529:=AsZ.mk (Kd.Q_below (by (with_reducible repeat (first|apply Kd.Q_alloc|apply Kd.Q_drewN|apply Kd.Q_drew));exact (Kd.Q_mono (fQ (fQ (Kd.Q_types HO529.out BK554.out (by decide)))) (fun _ h_=>h_.1))) hb);replace HO532:=AsZ.mk (Kd.S_below (by (with_reducible repeat (first|apply Kd.S_alloc|apply Kd.S_drewN|apply Kd.S_drew));exact (Kd.S_mono (fS (fS (Kd.S_types HO532.out BK554.out (by decide)))) (fun _ h_=>h_.1))) hb);replace HO541:=AsZ.mk (Kd.R_below (by (with_reducible repeat (first|apply Kd.R_alloc|apply Kd.R_drewN|apply Kd.R_drew));exact (Kd.R_mono (fR (fR (Kd.R_types HO541.out BK554.out (by decide)))) (fun _ h_=>h_.1))) hb);replace HO544:=AsZ.mk (Kd.S_below (by (with_reducible repeat (first|apply Kd.S_alloc|apply Kd.S_drewN|apply Kd.S_drew));exact (Kd.S_mono (fS (fS (Kd.S_types HO544.out BK554.out (by decide)))) (fun _ h_=>h_.1))) hb);replace HO549:=AsZ.mk (Kd.R_below (by (with_reducible repeat (first|apply Kd.R_alloc|apply Kd.R_drewN|apply Kd.R_drew));exact (Kd.R_mono (fR (fR (Kd.R_types HO549.out BK554.out (by decide)))) (fun _ h_=>h_.1))) hb);replace HO552:=AsZ.mk (Kd.S_below (by (with_reducible repeat (first|apply Kd.S_alloc|apply Kd.S_drewN|apply Kd.S_drew));exact (Kd.S_mono (fS (fS (Kd.S_types HO552.out BK554.out (by decide)))) (fun _ h_=>h_.1))) hb);replace BK537:=AsZ.mk (kb (g:=gb537) (o := .cells #[.slice Ao39 t527.length co39,.slice Ao42 t530.length co42] 26 (0,0)) (bq BK537) hb);replace BK538:=AsZ.mk (kb (g:=gb538) (o := .cells #[.string t533,.int .i64 t534,.int .i64 t535,.string t536] 28 (0,0)) (bq BK538) hb);replace BK546:=AsZ.mk (kb (g:=gb546) (o := .cells #[.slice Ao46 t539.length co46,.slice Ao50 t542.length co50] 26 (0,0)) (bq BK546) hb);replace BK554:=AsZ.mk (kb (g:=gb554) (o := .cells #[.slice Ao55 t547.length co55,.slice Ao60 t550.length co60] 26 (0,0)) (bq BK554) hb);replace HB:=bp hb;(try clear hb);(try clear hb2);(try clear hk);(try clear hi);(try clear ho0);obtain ⟨hcz63_0,hcz63_1,hfz63_0,hfz63_1⟩:=bx2 BK546)|((with_reducible refine gcl (f:=14) rfl ?_);refine gk (some 64) Tryd.func14 #[.agg #[.slice Ao46 t539.length co46,.slice Ao50 t542.length co50],.int .i64 0] ?_;(with_reducible refine (impl_ListSkip.calls k _ _ t539 _ _ t542 0 t559 t562 _ ?side1 ?side2 ?side3 ?side4 ?sideT A34.out).mono ?_);(case sideT=>exact tab_below HT.out (by repeat (first|(with_reducible first|exact HB.out|apply bwa|apply pbN|apply bw1|refine bws ?_ (AsZ.out (by assumption)))|exact HB.out)));(case side1=>exact cC (Kd.R_reads' HO541.out).2.2);(case side2=>exact (Kd.R_reads' HO541.out).2.1);(case side3=>exact cC (Kd.S_reads' HO544.out).2.2);(case side4=>exact (Kd.S_reads' HO544.out).2.1);rintro e w64 ⟨v560,rfl,ho0,hb⟩;refine ⟨_,rfl,?_⟩;have HO561:=AsZ.mk (Kd.R_lower (Kd.R_newB (Kd.R_new' ho0 (Kd.R_lt (kR HO557))) (bk BK538)) (bwz bel));replace HO529:=rQ HO529 hb;replace HO532:=rS HO532 hb;replace HO541:=rR HO541 hb;replace HO544:=rS HO544 hb;replace HO549:=rR HO549 hb;replace HO552:=rS HO552 hb;replace HO557:=AsZ.mk (Kd.R_elder' (kR HO557) (Kd.R_base ho0) hb);replace BK537:=bb BK537 hb;replace BK538:=bb BK538 hb;replace BK546:=bb BK546 hb;replace BK554:=bb BK554 hb;replace HB:=bp hb;(try clear hb);(try clear hb2);(try clear hk);(try clear hi);(try clear ho0)))
 (try simp only [Act.put,zS,zT,zU])
 go_cut [85] (fun v85 wc => ∃ (kq:Nat) (x85_34:Bool),v85 = .bool x85_34∧AsZ (laws_FnSkip.j0 kq t555 t559 x85_34 t533 t534 t535 t536 t539 t542=some r)∧AsZ (kq≤k)∧AsZ (Kd.R k28 28 wc w.heap.size (fun k_=>some k_ ≠ (v560:Value).ownBlock∧k_ ≠ gb538) v556 t555)∧AsZ (Kd.R k28 28 wc w.heap.size (fun k_=>some k_ ≠ (v556:Value).ownBlock∧k_ ≠ gb538) v560 t559)∧AsZ (Kd.Q (Kd.int .i64) 3 wc w.heap.size (fun k_=>some k_ ≠ ((.slice Ao46 t539.length co46):Value).ownBlock∧some k_ ≠ ((.slice Ao55 t547.length co55):Value).ownBlock) (.slice Ao39 t527.length co39) t527)∧AsZ (Kd.S k77 77 wc w.heap.size (fun k_=>some k_ ≠ ((.slice Ao39 t527.length co39):Value).ownBlock∧some k_ ≠ ((.slice Ao46 t539.length co46):Value).ownBlock∧some k_ ≠ ((.slice Ao50 t542.length co50):Value).ownBlock∧some k_ ≠ ((.slice Ao55 t547.length co55):Value).ownBlock∧some k_ ≠ ((.slice Ao60 t550.length co60):Value).ownBlock) (.slice Ao42 t530.length co42) t530)∧AsZ (Kd.Q (Kd.int .i64) 3 wc w.heap.size (fun k_=>some k_ ≠ ((.slice Ao39 t527.length co39):Value).ownBlock∧some k_ ≠ ((.slice Ao55 t547.length co55):Value).ownBlock) (.slice Ao46 t539.length co46) t539)∧AsZ (Kd.S k77 77 wc w.heap.size (fun k_=>some k_ ≠ ((.slice Ao39 t527.length co39):Value).ownBlock∧some k_ ≠ ((.slice Ao42 t530.length co42):Value).ownBlock∧some k_ ≠ ((.slice Ao46 t539.length co46):Value).ownBlock∧some k_ ≠ ((.slice Ao55 t547.length co55):Value).ownBlock∧some k_ ≠ ((.slice Ao60 t550.length co60):Value).ownBlock) (.slice Ao50 t542.length co50) t542)∧AsZ (Kd.Q (Kd.int .i64) 3 wc w.heap.size (fun k_=>some k_ ≠ ((.slice Ao39 t527.length co39):Value).ownBlock∧some k_ ≠ ((.slice Ao46 t539.length co46):Value).ownBlock) (.slice Ao55 t547.length co55) t547)∧AsZ (Kd.S k77 77 wc w.heap.size (fun k_=>some k_ ≠ ((.slice Ao39 t527.length co39):Value).ownBlock∧some k_ ≠ ((.slice Ao42 t530.length co42):Value).ownBlock∧some k_ ≠ ((.slice Ao46 t539.length co46):Value).ownBlock∧some k_ ≠ ((.slice Ao50 t542.length co50):Value).ownBlock∧some k_ ≠ ((.slice Ao55 t547.length co55):Value).ownBlock) (.slice Ao60 t550.length co60) t550)∧AsZ (wc.heap[gb537]? = some (.cells #[(.slice Ao39 t527.length co39),(.slice Ao42 t530.length co42)] 26 (0,0)))∧AsZ (wc.heap[gb538]? = some (.cells #[.string t533,.int .i64 t534,.int .i64 t535,.string t536] 28 (0,0)))∧AsZ (wc.heap[gb546]? = some (.cells #[(.slice Ao46 t539.length co46),(.slice Ao50 t542.length co50)] 26 (0,0)))∧AsZ (wc.heap[gb554]? = some (.cells #[(.slice Ao55 t547.length co55),(.slice Ao60 t550.length co60)] 26 (0,0)))∧AsZ (Below w.heap.size w wc))
 case first =>
  have H:=HC35.out;clear HC35;by_cases c65:t558=true;rotate_left
  · replace c65:=Bool.eq_false_iff.mpr c65
    subst c65;replace H:=iN H;have H':=AsZ.mk H;clear H;go_wp2;go_meet
    case rel=>exact ⟨_,(true),rs,H',⟨lo⟩,⟨by (with_reducible repeat (first|apply Kd.R_alloc|apply Kd.R_drewN|apply Kd.R_drew));exact Kd.R_mono HO557.out (fun _ hk=>⟨hk.2,hk.1.2⟩)⟩,⟨by (with_reducible repeat (first|apply Kd.R_alloc|apply Kd.R_drewN|apply Kd.R_drew));exact Kd.R_mono HO561.out (fun _ hk=>⟨hk.1.2,hk.2⟩)⟩,⟨by (with_reducible repeat (first|apply Kd.Q_alloc|apply Kd.Q_drewN|apply Kd.Q_drew));exact Kd.Q_mono HO529.out (fun _ hk=>⟨hk.1.2,hk.2⟩)⟩,⟨by (with_reducible repeat (first|apply Kd.S_alloc|apply Kd.S_drewN|apply Kd.S_drew));exact Kd.S_mono HO532.out (fun _ hk=>⟨hk.1.1.1.1,⟨hk.1.1.1.2,⟨hk.1.1.2,⟨hk.1.2,hk.2⟩⟩⟩⟩)⟩,⟨Kd.Q_of_R (by (with_reducible repeat (first|apply Kd.R_alloc|apply Kd.R_drewN|apply Kd.R_drew));exact Kd.R_mono HO541.out (fun _ hk=>⟨hk.1.2,hk.2⟩))⟩,⟨by (with_reducible repeat (first|apply Kd.S_alloc|apply Kd.S_drewN|apply Kd.S_drew));exact Kd.S_mono HO544.out (fun _ hk=>⟨hk.1.1.1.2,⟨hk.1.1.2,⟨hk.1.1.1.1,⟨hk.1.2,hk.2⟩⟩⟩⟩)⟩,⟨Kd.Q_of_R (by (with_reducible repeat (first|apply Kd.R_alloc|apply Kd.R_drewN|apply Kd.R_drew));exact Kd.R_mono HO549.out (fun _ hk=>⟨hk.1.2,hk.2⟩))⟩,⟨by (with_reducible repeat (first|apply Kd.S_alloc|apply Kd.S_drewN|apply Kd.S_drew));exact Kd.S_mono HO552.out (fun _ hk=>⟨hk.1.1.1.2,⟨hk.1.1.2,⟨hk.1.2,⟨hk.2,hk.1.1.1.1⟩⟩⟩⟩)⟩,⟨bk BK537⟩,⟨bk BK538⟩,⟨bk BK546⟩,⟨bk BK554⟩,⟨bel⟩⟩
  subst c65;replace H:=iP H;by_cases c66:t562=true;rotate_left
  · replace c66:=Bool.eq_false_iff.mpr c66
    subst c66;replace H:=iN H;have H':=AsZ.mk H;clear H;go_wp2;go_meet
    case rel=>exact ⟨_,(true),rs,H',⟨lo⟩,⟨by (with_reducible repeat (first|apply Kd.R_alloc|apply Kd.R_drewN|apply Kd.R_drew));exact Kd.R_mono HO557.out (fun _ hk=>⟨hk.2,hk.1.2⟩)⟩,⟨by (with_reducible repeat (first|apply Kd.R_alloc|apply Kd.R_drewN|apply Kd.R_drew));exact Kd.R_mono HO561.out (fun _ hk=>⟨hk.1.2,hk.2⟩)⟩,⟨by (with_reducible repeat (first|apply Kd.Q_alloc|apply Kd.Q_drewN|apply Kd.Q_drew));exact Kd.Q_mono HO529.out (fun _ hk=>⟨hk.1.2,hk.2⟩)⟩,⟨by (with_reducible repeat (first|apply Kd.S_alloc|apply Kd.S_drewN|apply Kd.S_drew));exact Kd.S_mono HO532.out (fun _ hk=>⟨hk.1.1.1.1,⟨hk.1.1.1.2,⟨hk.1.1.2,⟨hk.1.2,hk.2⟩⟩⟩⟩)⟩,⟨Kd.Q_of_R (by (with_reducible repeat (first|apply Kd.R_alloc|apply Kd.R_drewN|apply Kd.R_drew));exact Kd.R_mono HO541.out (fun _ hk=>⟨hk.1.2,hk.2⟩))⟩,⟨by (with_reducible repeat (first|apply Kd.S_alloc|apply Kd.S_drewN|apply Kd.S_drew));exact Kd.S_mono HO544.out (fun _ hk=>⟨hk.1.1.1.2,⟨hk.1.1.2,⟨hk.1.1.1.1,⟨hk.1.2,hk.2⟩⟩⟩⟩)⟩,⟨Kd.Q_of_R (by (with_reducible repeat (first|apply Kd.R_alloc|apply Kd.R_drewN|apply Kd.R_drew));exact Kd.R_mono HO549.out (fun _ hk=>⟨hk.1.2,hk.2⟩))⟩,⟨by (with_reducible repeat (first|apply Kd.S_alloc|apply Kd.S_drewN|apply Kd.S_drew));exact Kd.S_mono HO552.out (fun _ hk=>⟨hk.1.1.1.2,⟨hk.1.1.2,⟨hk.1.2,⟨hk.2,hk.1.1.1.1⟩⟩⟩⟩)⟩,⟨bk BK537⟩,⟨bk BK538⟩,⟨bk BK546⟩,⟨bk BK554⟩,⟨bel⟩⟩
  subst c66;replace H:=iP H;by_cases c67:(t559.length:Int)=(wrap64 ((t555.length:Int) + 1));rotate_left
  · rw [if_neg c67] at H
    have c67b0:((t559.length:Int) == (wrap64 ((t555.length:Int) + 1)))=false:=beq_eq_false_iff_ne.mpr c67;have c67b1:((t559.length:Int) != (wrap64 ((t555.length:Int) + 1)))=true:=bne_iff_ne.mpr c67;(first|rw [c67b0]|(simp only [i64_w,i32_w];rw [c67b0])|rw [c67b1]|skip);have H':=AsZ.mk H;clear H;obtain ⟨Ao76,co76,eo76⟩:=Kd.R_slice HO561.out;subst eo76;obtain ⟨Ao77,co77,eo77⟩:=Kd.R_slice HO557.out;subst eo77;go_wp2;go_meet
    case rel=>exact ⟨_,(true),rs,H',⟨lo⟩,⟨by (with_reducible repeat (first|apply Kd.R_alloc|apply Kd.R_drewN|apply Kd.R_drew));exact Kd.R_mono HO557.out (fun _ hk=>⟨hk.2,hk.1.2⟩)⟩,⟨by (with_reducible repeat (first|apply Kd.R_alloc|apply Kd.R_drewN|apply Kd.R_drew));exact Kd.R_mono HO561.out (fun _ hk=>⟨hk.1.2,hk.2⟩)⟩,⟨by (with_reducible repeat (first|apply Kd.Q_alloc|apply Kd.Q_drewN|apply Kd.Q_drew));exact Kd.Q_mono HO529.out (fun _ hk=>⟨hk.1.2,hk.2⟩)⟩,⟨by (with_reducible repeat (first|apply Kd.S_alloc|apply Kd.S_drewN|apply Kd.S_drew));exact Kd.S_mono HO532.out (fun _ hk=>⟨hk.1.1.1.1,⟨hk.1.1.1.2,⟨hk.1.1.2,⟨hk.1.2,hk.2⟩⟩⟩⟩)⟩,⟨Kd.Q_of_R (by (with_reducible repeat (first|apply Kd.R_alloc|apply Kd.R_drewN|apply Kd.R_drew));exact Kd.R_mono HO541.out (fun _ hk=>⟨hk.1.2,hk.2⟩))⟩,⟨by (with_reducible repeat (first|apply Kd.S_alloc|apply Kd.S_drewN|apply Kd.S_drew));exact Kd.S_mono HO544.out (fun _ hk=>⟨hk.1.1.1.2,⟨hk.1.1.2,⟨hk.1.1.1.1,⟨hk.1.2,hk.2⟩⟩⟩⟩)⟩,⟨Kd.Q_of_R (by (with_reducible repeat (first|apply Kd.R_alloc|apply Kd.R_drewN|apply Kd.R_drew));exact Kd.R_mono HO549.out (fun _ hk=>⟨hk.1.2,hk.2⟩))⟩,⟨by (with_reducible repeat (first|apply Kd.S_alloc|apply Kd.S_drewN|apply Kd.S_drew));exact Kd.S_mono HO552.out (fun _ hk=>⟨hk.1.1.1.2,⟨hk.1.1.2,⟨hk.1.2,⟨hk.2,hk.1.1.1.1⟩⟩⟩⟩)⟩,⟨bk BK537⟩,⟨bk BK538⟩,⟨bk BK546⟩,⟨bk BK554⟩,⟨bel⟩⟩
  rw [if_pos c67] at H;have c67b0:((t559.length:Int) == (wrap64 ((t555.length:Int) + 1)))=true:=beq_iff_eq.mpr c67;have c67b1:((t559.length:Int) != (wrap64 ((t555.length:Int) + 1)))=false:=bne_eq_false_iff_eq.mpr c67;clear c67;(first|rw [c67b0]|(simp only [i64_w,i32_w];rw [c67b0])|rw [c67b1]|skip);replace H:=bs H;obtain ⟨t563,A68,H⟩:=H;have H':=AsZ.mk H;clear H;obtain ⟨Ao69,co69,eo69⟩:=Kd.R_slice HO561.out;subst eo69;obtain ⟨Ao70,co70,eo70⟩:=Kd.R_slice HO557.out;subst eo70;have hnb71:=NB546_537.out;have hnc71:=NB537_546.out;have hnb72:=NB546_538.out;have hnc72:=NB538_546.out;have hnb73:=NB546_554.out;have hnc73:=NB554_546.out;obtain ⟨hcz74_0,hcz74_1,hfz74_0,hfz74_1⟩:=bx2 BK546;go_wp2_with (first|(go_at_call 15;(with_reducible refine (impl_GoodSkip.calls k _ _ t539 _ _ t542 t563 _ ?side1 ?side2 ?side3 ?side4 ?sideT A68.out).mono ?_);(case sideT=>exact tab_below HT.out (by repeat (first|(with_reducible first|exact HB.out|apply bwa|apply pbN|apply bw1|refine bws ?_ (AsZ.out (by assumption)))|exact HB.out)));(case side1=>exact cC (Kd.R_reads' HO541.out).2.2);(case side2=>exact (Kd.R_reads' HO541.out).2.1);(case side3=>exact cC (Kd.S_reads' HO544.out).2.2);(case side4=>exact (Kd.S_reads' HO544.out).2.1);rintro e w75 ⟨rfl,hb⟩;replace HO529:=rQ HO529 hb;replace HO532:=rS HO532 hb;replace HO541:=rR HO541 hb;replace HO544:=rS HO544 hb;replace HO549:=rR HO549 hb;replace HO552:=rS HO552 hb;replace HO557:=rR HO557 hb;replace HO561:=rR HO561 hb;replace BK537:=bb BK537 hb;replace BK538:=bb BK538 hb;replace BK546:=bb BK546 hb;replace BK554:=bb BK554 hb;replace HB:=bp hb;(try clear hb);(try clear hb2);(try clear hk);(try clear hi)));go_meet
  case rel=>exact ⟨_,(!t563),rs,H',⟨lo⟩,⟨by (with_reducible repeat (first|apply Kd.R_alloc|apply Kd.R_drewN|apply Kd.R_drew));exact Kd.R_mono HO557.out (fun _ hk=>⟨hk.2,hk.1.2⟩)⟩,⟨by (with_reducible repeat (first|apply Kd.R_alloc|apply Kd.R_drewN|apply Kd.R_drew));exact Kd.R_mono HO561.out (fun _ hk=>⟨hk.1.2,hk.2⟩)⟩,⟨by (with_reducible repeat (first|apply Kd.Q_alloc|apply Kd.Q_drewN|apply Kd.Q_drew));exact Kd.Q_mono HO529.out (fun _ hk=>⟨hk.1.2,hk.2⟩)⟩,⟨by (with_reducible repeat (first|apply Kd.S_alloc|apply Kd.S_drewN|apply Kd.S_drew));exact Kd.S_mono HO532.out (fun _ hk=>⟨hk.1.1.1.1,⟨hk.1.1.1.2,⟨hk.1.1.2,⟨hk.1.2,hk.2⟩⟩⟩⟩)⟩,⟨Kd.Q_of_R (by (with_reducible repeat (first|apply Kd.R_alloc|apply Kd.R_drewN|apply Kd.R_drew));exact Kd.R_mono HO541.out (fun _ hk=>⟨hk.1.2,hk.2⟩))⟩,⟨by (with_reducible repeat (first|apply Kd.S_alloc|apply Kd.S_drewN|apply Kd.S_drew));exact Kd.S_mono HO544.out (fun _ hk=>⟨hk.1.1.1.2,⟨hk.1.1.2,⟨hk.1.1.1.1,⟨hk.1.2,hk.2⟩⟩⟩⟩)⟩,⟨Kd.Q_of_R (by (with_reducible repeat (first|apply Kd.R_alloc|apply Kd.R_drewN|apply Kd.R_drew));exact Kd.R_mono HO549.out (fun _ hk=>⟨hk.1.2,hk.2⟩))⟩,⟨by (with_reducible repeat (first|apply Kd.S_alloc|apply Kd.S_drewN|apply Kd.S_drew));exact Kd.S_mono HO552.out (fun _ hk=>⟨hk.1.1.1.2,⟨hk.1.1.2,⟨hk.1.2,⟨hk.2,hk.1.1.1.1⟩⟩⟩⟩)⟩,⟨bk BK537⟩,⟨bk BK538⟩,⟨bk BK546⟩,⟨bk BK554⟩,⟨bel⟩⟩
 case rest =>
  clear HC35
  try clear c2b0
  try clear c2b1
  try clear p2
  try clear c6b0
  try clear c6b1
  try clear c6b2
  try clear p6
  try clear p64
  try clear c67b0
  try clear c67b1
  try clear hcz12_0 hcz12_1 hfz12_0 hfz12_1
  try clear hcz14_0 hcz14_1 hcz14_2 hcz14_3 hfz14_0 hfz14_1 hfz14_2 hfz14_3
  try clear hcz20_0 hcz20_1 hfz20_0 hfz20_1
  try clear hcz22_0 hcz22_1 hfz22_0 hfz22_1
  try clear hcz23_0 hcz23_1 hcz23_2 hcz23_3 hfz23_0 hfz23_1 hfz23_2 hfz23_3
  try clear hcz30_0 hcz30_1 hfz30_0 hfz30_1
  try clear hcz41_0 hcz41_1 hfz41_0 hfz41_1
  try clear hcz43_0 hcz43_1 hcz43_2 hcz43_3 hfz43_0 hfz43_1 hfz43_2 hfz43_3
  try clear hcz49_0 hcz49_1 hfz49_0 hfz49_1
  try clear hcz51_0 hcz51_1 hfz51_0 hfz51_1
  try clear hcz52_0 hcz52_1 hcz52_2 hcz52_3 hfz52_0 hfz52_1 hfz52_2 hfz52_3
  try clear hcz59_0 hcz59_1 hfz59_0 hfz59_1
  try clear hcz61_0 hcz61_1 hfz61_0 hfz61_1
  try clear hcz63_0 hcz63_1 hfz63_0 hfz63_1
  try clear hcz74_0 hcz74_1 hfz74_0 hfz74_1
  obtain ⟨kq,x85_34,rfl,HA,HJ34,HO_9,HO_11,HO_538000,HO_538001,HO_547000,HO_547001,HO_555000,HO_555001,BK537,BK538,BK546,BK554,HB⟩:=hcut
  cases kq with
  |zero=>exact absurd HA.out (by simp [laws_FnSkip.j0])
  |succ kj34 =>
   have H:=HA.out;clear HA;simp only [laws_FnSkip.j0] at H;by_cases c78:x85_34=true
   · subst c78
     replace H:=iP H;obtain rfl:=zI H;go_wp2;go_ret;exact ⟨re,bel⟩
   replace c78:=Bool.eq_false_iff.mpr c78;subst c78;replace H:=iN H;have H':=AsZ.mk H;clear H;obtain ⟨Ao79,co79,eo79⟩:=Kd.R_slice HO_11.out;subst eo79;go_wp2
   go_loopg [13,88] kj34 (fun kq v13 v88 w' => ∃ (x13_2:Int) (x88_2:Int),v13 = .int .i64 x13_2∧v88 = .int .i64 x88_2∧AsZ (laws_FnSkip.l0 kq t555 t559 x13_2 t559 (t559.length:Int) x88_2 t533 t534 t535 t536 t539 t542=some r)∧AsZ (kq≤kj34)∧AsZ (Kd.R k28 28 w' w.heap.size (fun k_=>some k_ ≠ ((.slice Ao79 t559.length co79):Value).ownBlock∧some k_ ≠ ((.slice Ao79 t559.length co79):Value).ownBlock∧k_ ≠ gb538) v556 t555)∧AsZ (Kd.R k28 28 w' w.heap.size (fun k_=>some k_ ≠ (v556:Value).ownBlock∧k_ ≠ gb538) (.slice Ao79 t559.length co79) t559)∧AsZ (Kd.R k28 28 w' w.heap.size (fun k_=>some k_ ≠ (v556:Value).ownBlock∧k_ ≠ gb538) (.slice Ao79 t559.length co79) t559)∧AsZ (Kd.Q (Kd.int .i64) 3 w' w.heap.size (fun k_=>some k_ ≠ ((.slice Ao46 t539.length co46):Value).ownBlock∧some k_ ≠ ((.slice Ao55 t547.length co55):Value).ownBlock) (.slice Ao39 t527.length co39) t527)∧AsZ (Kd.S k77 77 w' w.heap.size (fun k_=>some k_ ≠ ((.slice Ao39 t527.length co39):Value).ownBlock∧some k_ ≠ ((.slice Ao46 t539.length co46):Value).ownBlock∧some k_ ≠ ((.slice Ao50 t542.length co50):Value).ownBlock∧some k_ ≠ ((.slice Ao55 t547.length co55):Value).ownBlock∧some k_ ≠ ((.slice Ao60 t550.length co60):Value).ownBlock) (.slice Ao42 t530.length co42) t530)∧AsZ (Kd.Q (Kd.int .i64) 3 w' w.heap.size (fun k_=>some k_ ≠ ((.slice Ao39 t527.length co39):Value).ownBlock∧some k_ ≠ ((.slice Ao55 t547.length co55):Value).ownBlock) (.slice Ao46 t539.length co46) t539)∧AsZ (Kd.S k77 77 w' w.heap.size (fun k_=>some k_ ≠ ((.slice Ao39 t527.length co39):Value).ownBlock∧some k_ ≠ ((.slice Ao42 t530.length co42):Value).ownBlock∧some k_ ≠ ((.slice Ao46 t539.length co46):Value).ownBlock∧some k_ ≠ ((.slice Ao55 t547.length co55):Value).ownBlock∧some k_ ≠ ((.slice Ao60 t550.length co60):Value).ownBlock) (.slice Ao50 t542.length co50) t542)∧AsZ (Kd.Q (Kd.int .i64) 3 w' w.heap.size (fun k_=>some k_ ≠ ((.slice Ao39 t527.length co39):Value).ownBlock∧some k_ ≠ ((.slice Ao46 t539.length co46):Value).ownBlock) (.slice Ao55 t547.length co55) t547)∧AsZ (Kd.S k77 77 w' w.heap.size (fun k_=>some k_ ≠ ((.slice Ao39 t527.length co39):Value).ownBlock∧some k_ ≠ ((.slice Ao42 t530.length co42):Value).ownBlock∧some k_ ≠ ((.slice Ao46 t539.length co46):Value).ownBlock∧some k_ ≠ ((.slice Ao50 t542.length co50):Value).ownBlock∧some k_ ≠ ((.slice Ao55 t547.length co55):Value).ownBlock) (.slice Ao60 t550.length co60) t550)∧AsZ (w'.heap[gb537]? = some (.cells #[(.slice Ao39 t527.length co39),(.slice Ao42 t530.length co42)] 26 (0,0)))∧AsZ (w'.heap[gb538]? = some (.cells #[.string t533,.int .i64 t534,.int .i64 t535,.string t536] 28 (0,0)))∧AsZ (w'.heap[gb546]? = some (.cells #[(.slice Ao46 t539.length co46),(.slice Ao50 t542.length co50)] 26 (0,0)))∧AsZ (w'.heap[gb554]? = some (.cells #[(.slice Ao55 t547.length co55),(.slice Ao60 t550.length co60)] 26 (0,0)))∧AsZ (Below w.heap.size w w'))
   case atStart=>exact ⟨(0),(0),rs,rs,H',⟨Nat.le_refl _⟩,⟨by (with_reducible repeat (first|apply Kd.R_alloc|apply Kd.R_drewN|apply Kd.R_drew));exact Kd.R_mono HO_9.out (fun _ hk=>⟨hk.1,⟨hk.1,hk.2⟩⟩)⟩,⟨kR HO_11⟩,⟨kR HO_11⟩,⟨kQ HO_538000⟩,⟨kS HO_538001⟩,⟨kQ HO_547000⟩,⟨kS HO_547001⟩,⟨kQ HO_555000⟩,⟨kS HO_555001⟩,⟨bk BK537⟩,⟨bk BK538⟩,⟨bk BK546⟩,⟨bk BK554⟩,⟨bel⟩⟩
   case round =>
    clear H'
    try clear c2b0
    try clear c2b1
    try clear p2
    try clear c6b0
    try clear c6b1
    try clear c6b2
    try clear p6
    try clear p64
    try clear c67b0
    try clear c67b1
    try clear hcz12_0 hcz12_1 hfz12_0 hfz12_1
    try clear hcz14_0 hcz14_1 hcz14_2 hcz14_3 hfz14_0 hfz14_1 hfz14_2 hfz14_3
    try clear hcz20_0 hcz20_1 hfz20_0 hfz20_1
    try clear hcz22_0 hcz22_1 hfz22_0 hfz22_1
    try clear hcz23_0 hcz23_1 hcz23_2 hcz23_3 hfz23_0 hfz23_1 hfz23_2 hfz23_3
    try clear hcz30_0 hcz30_1 hfz30_0 hfz30_1
    try clear hcz41_0 hcz41_1 hfz41_0 hfz41_1
    try clear hcz43_0 hcz43_1 hcz43_2 hcz43_3 hfz43_0 hfz43_1 hfz43_2 hfz43_3
    try clear hcz49_0 hcz49_1 hfz49_0 hfz49_1
    try clear hcz51_0 hcz51_1 hfz51_0 hfz51_1
    try clear hcz52_0 hcz52_1 hcz52_2 hcz52_3 hfz52_0 hfz52_1 hfz52_2 hfz52_3
    try clear hcz59_0 hcz59_1 hfz59_0 hfz59_1
    try clear hcz61_0 hcz61_1 hfz61_0 hfz61_1
    try clear hcz63_0 hcz63_1 hfz63_0 hfz63_1
    try clear hcz74_0 hcz74_1 hfz74_0 hfz74_1
    obtain ⟨x13_2,x88_2,rfl,rfl,HA,HK2,HO_9,HO_11,HO_86,HO_538000,HO_538001,HO_547000,HO_547001,HO_555000,HO_555001,BK537,BK538,BK546,BK554,HB⟩:=hrel
    cases gk with
    |zero=>exact absurd HA.out (by simp [laws_FnSkip.l0])
    |succ k2 =>
     have H:=HA.out;clear HA;simp only [laws_FnSkip.l0] at H;by_cases c80:x88_2 < (t559.length:Int)
     · rw [if_pos c80] at H
       have c80b0:=zE c80;clear c80;by_cases c81:0≤x88_2;rotate_left
       · rw [if_neg c81] at H
         exact absurd H (by simp)
       rw [if_pos c81] at H;have c81b0:=zE c81;clear c81;by_cases c82:x88_2 < (t559.length:Int);rotate_left
       · rw [if_neg c82] at H
         exact absurd H (by simp)
       rw [if_pos c82] at H;have c82b0:=zE c82;clear c82;have HC83:=AsZ.mk H;clear H;have p564:0≤(x88_2:Int):=dd;have q564:x88_2 < (t559.length:Int):=dd;obtain ⟨ad564,e564,hx564_0,hx564_1,hx564_2,hx564_3⟩:=at_T28 (Kd.R_reads' HO_86.out).2.2 x88_2 p564 q564;cases e564;replace p564:=eq_true p564;replace q564:=eq_true q564;go_upto_if 94 with (first|((with_reducible refine gate_dst (N:=15) rfl ?_);(try (refine gate_guard (by rfl) ?_;dsimp only));refine bev 15 28 (cs:=#[.string (⟨#[]⟩:ByteArray),.int .i64 0,.int .i64 0,.string (⟨#[]⟩:ByteArray)]) ?_;intro gb565 hg w84 hbox hb;have BK565:=AsZ.mk (hbox);have GW565:=gz HB hg;have GE565:=gz HB hg;have NB537_565:=nl BK537 hg;have NB565_537:=nr BK537 hg;have NB538_565:=nl BK538 hg;have NB565_538:=nr BK538 hg;have NB546_565:=nl BK546 hg;have NB565_546:=nr BK546 hg;have NB554_565:=nl BK554 hg;have NB565_554:=nr BK554 hg;replace HO_9:=AsZ.mk (Kd.R_below (Kd.R_elderB (kR HO_9) gb565 (Nat.le_of_eq hg.symm)) hb);replace HO_11:=AsZ.mk (Kd.R_below (Kd.R_elderB (kR HO_11) gb565 (Nat.le_of_eq hg.symm)) hb);replace HO_86:=AsZ.mk (Kd.R_below (Kd.R_elderB (kR HO_86) gb565 (Nat.le_of_eq hg.symm)) hb);replace HO_538000:=rQ HO_538000 hb;replace HO_538001:=rS HO_538001 hb;replace HO_547000:=rQ HO_547000 hb;replace HO_547001:=rS HO_547001 hb;replace HO_555000:=rQ HO_555000 hb;replace HO_555001:=rS HO_555001 hb;replace BK537:=bb BK537 hb;replace BK538:=bb BK538 hb;replace BK546:=bb BK546 hb;replace BK554:=bb BK554 hb;replace HB:=bp hb;clear hb hbox hg;have hnb85:=NB565_537.out;have hnc85:=NB537_565.out;have hnb86:=NB565_538.out;have hnc86:=NB538_565.out;have hnb87:=NB565_546.out;have hnc87:=NB546_565.out;have hnb88:=NB565_554.out;have hnc88:=NB554_565.out;obtain ⟨hcz89_0,hcz89_1,hcz89_2,hcz89_3,hfz89_0,hfz89_1,hfz89_2,hfz89_3⟩:=bx4 BK565))
       (try simp only [Act.put,zS,zT,zU])
       go_cut [] (fun wc => ∃ (kq:Nat),AsZ (laws_FnSkip.j3 kq t555 t559 x13_2 t559 (t559.length:Int) x88_2 t533 t534 t535 t536 t539 t542 ((rd_T28 t559 x88_2).f0) ((rd_T28 t559 x88_2).f1) ((rd_T28 t559 x88_2).f2) ((rd_T28 t559 x88_2).f3)=some r)∧AsZ (kq≤k2)∧AsZ (Kd.R k28 28 wc w.heap.size (fun k_=>some k_ ≠ ((.slice (some ad564) t559.length co79):Value).ownBlock∧some k_ ≠ ((.slice (some ad564) t559.length co79):Value).ownBlock∧k_ ≠ gb538∧k_ ≠ gb565) v556 t555)∧AsZ (Kd.R k28 28 wc w.heap.size (fun k_=>some k_ ≠ (v556:Value).ownBlock∧k_ ≠ gb538∧k_ ≠ gb565) (.slice (some ad564) t559.length co79) t559)∧AsZ (Kd.R k28 28 wc w.heap.size (fun k_=>some k_ ≠ (v556:Value).ownBlock∧k_ ≠ gb538∧k_ ≠ gb565) (.slice (some ad564) t559.length co79) t559)∧AsZ (Kd.Q (Kd.int .i64) 3 wc w.heap.size (fun k_=>some k_ ≠ ((.slice Ao46 t539.length co46):Value).ownBlock∧some k_ ≠ ((.slice Ao55 t547.length co55):Value).ownBlock) (.slice Ao39 t527.length co39) t527)∧AsZ (Kd.S k77 77 wc w.heap.size (fun k_=>some k_ ≠ ((.slice Ao39 t527.length co39):Value).ownBlock∧some k_ ≠ ((.slice Ao46 t539.length co46):Value).ownBlock∧some k_ ≠ ((.slice Ao50 t542.length co50):Value).ownBlock∧some k_ ≠ ((.slice Ao55 t547.length co55):Value).ownBlock∧some k_ ≠ ((.slice Ao60 t550.length co60):Value).ownBlock) (.slice Ao42 t530.length co42) t530)∧AsZ (Kd.Q (Kd.int .i64) 3 wc w.heap.size (fun k_=>some k_ ≠ ((.slice Ao39 t527.length co39):Value).ownBlock∧some k_ ≠ ((.slice Ao55 t547.length co55):Value).ownBlock) (.slice Ao46 t539.length co46) t539)∧AsZ (Kd.S k77 77 wc w.heap.size (fun k_=>some k_ ≠ ((.slice Ao39 t527.length co39):Value).ownBlock∧some k_ ≠ ((.slice Ao42 t530.length co42):Value).ownBlock∧some k_ ≠ ((.slice Ao46 t539.length co46):Value).ownBlock∧some k_ ≠ ((.slice Ao55 t547.length co55):Value).ownBlock∧some k_ ≠ ((.slice Ao60 t550.length co60):Value).ownBlock) (.slice Ao50 t542.length co50) t542)∧AsZ (Kd.Q (Kd.int .i64) 3 wc w.heap.size (fun k_=>some k_ ≠ ((.slice Ao39 t527.length co39):Value).ownBlock∧some k_ ≠ ((.slice Ao46 t539.length co46):Value).ownBlock) (.slice Ao55 t547.length co55) t547)∧AsZ (Kd.S k77 77 wc w.heap.size (fun k_=>some k_ ≠ ((.slice Ao39 t527.length co39):Value).ownBlock∧some k_ ≠ ((.slice Ao42 t530.length co42):Value).ownBlock∧some k_ ≠ ((.slice Ao46 t539.length co46):Value).ownBlock∧some k_ ≠ ((.slice Ao50 t542.length co50):Value).ownBlock∧some k_ ≠ ((.slice Ao55 t547.length co55):Value).ownBlock) (.slice Ao60 t550.length co60) t550)∧AsZ (wc.heap[gb537]? = some (.cells #[(.slice Ao39 t527.length co39),(.slice Ao42 t530.length co42)] 26 (0,0)))∧AsZ (wc.heap[gb538]? = some (.cells #[.string t533,.int .i64 t534,.int .i64 t535,.string t536] 28 (0,0)))∧AsZ (wc.heap[gb546]? = some (.cells #[(.slice Ao46 t539.length co46),(.slice Ao50 t542.length co50)] 26 (0,0)))∧AsZ (wc.heap[gb554]? = some (.cells #[(.slice Ao55 t547.length co55),(.slice Ao60 t550.length co60)] 26 (0,0)))∧AsZ (wc.heap[gb565]? = some (.cells #[.string ((rd_T28 t559 x88_2).f0),.int .i64 ((rd_T28 t559 x88_2).f1),.int .i64 ((rd_T28 t559 x88_2).f2),.string ((rd_T28 t559 x88_2).f3)] 28 (0,0)))∧AsZ (Below w.heap.size w wc))
       case first =>
        have H:=HC83.out;clear HC83;by_cases c90:x88_2 > 0;rotate_left
        · rw [if_neg c90] at H
          have c90b0:decide (0 < x88_2)=false:=decide_eq_false c90;clear c90;(first|rw [c90b0]|(simp only [i64_w,i32_w];rw [c90b0])|rw [c90b1]|skip);have H':=AsZ.mk H;clear H;go_wp2;go_meet
          case rel=>exact ⟨_,H',⟨by have:=HJ34.out;have:=HK2.out;first|omega|exact Nat.le_refl _⟩,⟨by (with_reducible repeat (first|apply Kd.R_alloc|apply Kd.R_drewN|apply Kd.R_drew));exact Kd.R_mono (fR (fR (fR (fR (Kd.R_mono HO_9.out (fun k_ hk=>(⟨hk,hk.2⟩:_∧k_ ≠ gb565))))))) (fun _ hk=>⟨hk.1.1.1,⟨hk.1.1.2.1,⟨hk.1.1.2.2,hk.1.2⟩⟩⟩)⟩,⟨by (with_reducible repeat (first|apply Kd.R_alloc|apply Kd.R_drewN|apply Kd.R_drew));exact Kd.R_mono (fR (fR (fR (fR (Kd.R_mono HO_11.out (fun k_ hk=>(⟨hk,hk.2⟩:_∧k_ ≠ gb565))))))) (fun _ hk=>⟨hk.1.1.1,⟨hk.1.1.2,hk.1.2⟩⟩)⟩,⟨by (with_reducible repeat (first|apply Kd.R_alloc|apply Kd.R_drewN|apply Kd.R_drew));exact Kd.R_mono (fR (fR (fR (fR (Kd.R_mono HO_86.out (fun k_ hk=>(⟨hk,hk.2⟩:_∧k_ ≠ gb565))))))) (fun _ hk=>⟨hk.1.1.1,⟨hk.1.1.2,hk.1.2⟩⟩)⟩,⟨by (with_reducible repeat (first|apply Kd.Q_alloc|apply Kd.Q_drewN|apply Kd.Q_drew));exact Kd.Q_mono (fQ (fQ (fQ (fQ (Kd.Q_types HO_538000.out BK565.out (by decide)))))) (fun _ hk=>⟨hk.1.1,hk.1.2⟩)⟩,⟨by (with_reducible repeat (first|apply Kd.S_alloc|apply Kd.S_drewN|apply Kd.S_drew));exact Kd.S_mono (fS (fS (fS (fS (Kd.S_types HO_538001.out BK565.out (by decide)))))) (fun _ hk=>⟨hk.1.1,⟨hk.1.2.1,⟨hk.1.2.2.1,⟨hk.1.2.2.2.1,hk.1.2.2.2.2⟩⟩⟩⟩)⟩,⟨by (with_reducible repeat (first|apply Kd.Q_alloc|apply Kd.Q_drewN|apply Kd.Q_drew));exact Kd.Q_mono (fQ (fQ (fQ (fQ (Kd.Q_types HO_547000.out BK565.out (by decide)))))) (fun _ hk=>⟨hk.1.1,hk.1.2⟩)⟩,⟨by (with_reducible repeat (first|apply Kd.S_alloc|apply Kd.S_drewN|apply Kd.S_drew));exact Kd.S_mono (fS (fS (fS (fS (Kd.S_types HO_547001.out BK565.out (by decide)))))) (fun _ hk=>⟨hk.1.1,⟨hk.1.2.1,⟨hk.1.2.2.1,⟨hk.1.2.2.2.1,hk.1.2.2.2.2⟩⟩⟩⟩)⟩,⟨by (with_reducible repeat (first|apply Kd.Q_alloc|apply Kd.Q_drewN|apply Kd.Q_drew));exact Kd.Q_mono (fQ (fQ (fQ (fQ (Kd.Q_types HO_555000.out BK565.out (by decide)))))) (fun _ hk=>⟨hk.1.1,hk.1.2⟩)⟩,⟨by (with_reducible repeat (first|apply Kd.S_alloc|apply Kd.S_drewN|apply Kd.S_drew));exact Kd.S_mono (fS (fS (fS (fS (Kd.S_types HO_555001.out BK565.out (by decide)))))) (fun _ hk=>⟨hk.1.1,⟨hk.1.2.1,⟨hk.1.2.2.1,⟨hk.1.2.2.2.1,hk.1.2.2.2.2⟩⟩⟩⟩)⟩,⟨bq BK537⟩,⟨bq BK538⟩,⟨bq BK546⟩,⟨bq BK554⟩,⟨bq BK565⟩,⟨bel⟩⟩
        rw [if_pos c90] at H;have c90b0:decide (0 < x88_2)=true:=zE c90;clear c90;(first|rw [c90b0]|(simp only [i64_w,i32_w];rw [c90b0])|rw [c90b1]|skip);obtain ⟨ji91,hji91⟩:∃ j_:Int,(wrap64 (x88_2 - 1))=j_:=⟨_,rfl⟩;replace H:(if 0≤(ji91) then (if (ji91) < (t559.length:Int) then ((spec_CompareItem.f k2 ((rd_T28 t559 (ji91)).f0) ((rd_T28 t559 (ji91)).f1) ((rd_T28 t559 (ji91)).f2) ((rd_T28 t559 (ji91)).f3) ((rd_T28 t559 x88_2).f0) ((rd_T28 t559 x88_2).f1) ((rd_T28 t559 x88_2).f2) ((rd_T28 t559 x88_2).f3)).bind fun bt567=>(if bt567.2=true then (laws_FnSkip.j2 k2 t555 t559 x13_2 t559 (t559.length:Int) x88_2 (bt567.1 != (-1)) t533 t534 t535 t536 t539 t542 ((rd_T28 t559 x88_2).f0) ((rd_T28 t559 x88_2).f1) ((rd_T28 t559 x88_2).f2) ((rd_T28 t559 x88_2).f3)) else (laws_FnSkip.j2 k2 t555 t559 x13_2 t559 (t559.length:Int) x88_2 true t533 t534 t535 t536 t539 t542 ((rd_T28 t559 x88_2).f0) ((rd_T28 t559 x88_2).f1) ((rd_T28 t559 x88_2).f2) ((rd_T28 t559 x88_2).f3)))) else (none)) else (none))=some r:=by first|(rw [hji91] at H;exact H)|(simp only [hji91] at H ⊢;exact H)
        have hji91w:(IntKind.i64.wrap (x88_2 - 1))=ji91:=(i64_w _).trans hji91;by_cases c92:0≤(ji91);rotate_left
        · rw [if_neg c92] at H
          exact absurd H (by simp)
        rw [if_pos c92] at H;have c92b0:=zE c92;clear c92;by_cases c93:(ji91) < (t559.length:Int);rotate_left
        · rw [if_neg c93] at H
          exact absurd H (by simp)
        rw [if_pos c93] at H;have c93b0:=zE c93;clear c93;replace H:=bs H;obtain ⟨⟨t567,t568⟩,A94,H⟩:=H;have HC95:=AsZ.mk H;clear H
        try go_wp2
        have n0_:AsZ (Kd.R k28 28 ((((w84.setCell ⟨gb565,0,none⟩ (.string ((rd_T28 t559 x88_2).f0))).setCell ⟨gb565,1,none⟩ (.int .i64 ((rd_T28 t559 x88_2).f1))).setCell ⟨gb565,2,none⟩ (.int .i64 ((rd_T28 t559 x88_2).f2))).setCell ⟨gb565,3,none⟩ (.string ((rd_T28 t559 x88_2).f3))) w.heap.size (fun k_=>some k_ ≠ (.slice (some ad564) t559.length co79:Value).ownBlock∧some k_ ≠ (.slice (some ad564) t559.length co79:Value).ownBlock∧k_ ≠ gb538∧k_ ≠ gb565) v556 t555):=⟨by (with_reducible repeat (first|apply Kd.R_alloc|apply Kd.R_drewN|apply Kd.R_drew));exact Kd.R_mono (fR (fR (fR (fR (Kd.R_mono HO_9.out (fun k_ hk=>(⟨hk,hk.2⟩:_∧k_ ≠ gb565))))))) (fun _ hk=>⟨hk.1.1.1,⟨hk.1.1.2.1,⟨hk.1.1.2.2,hk.1.2⟩⟩⟩)⟩;have n1_:AsZ (Kd.R k28 28 ((((w84.setCell ⟨gb565,0,none⟩ (.string ((rd_T28 t559 x88_2).f0))).setCell ⟨gb565,1,none⟩ (.int .i64 ((rd_T28 t559 x88_2).f1))).setCell ⟨gb565,2,none⟩ (.int .i64 ((rd_T28 t559 x88_2).f2))).setCell ⟨gb565,3,none⟩ (.string ((rd_T28 t559 x88_2).f3))) w.heap.size (fun k_=>some k_ ≠ (v556:Value).ownBlock∧k_ ≠ gb538∧k_ ≠ gb565) (.slice (some ad564) t559.length co79) t559):=⟨by (with_reducible repeat (first|apply Kd.R_alloc|apply Kd.R_drewN|apply Kd.R_drew));exact Kd.R_mono (fR (fR (fR (fR (Kd.R_mono HO_11.out (fun k_ hk=>(⟨hk,hk.2⟩:_∧k_ ≠ gb565))))))) (fun _ hk=>⟨hk.1.1.1,⟨hk.1.1.2,hk.1.2⟩⟩)⟩;have n2_:AsZ (Kd.R k28 28 ((((w84.setCell ⟨gb565,0,none⟩ (.string ((rd_T28 t559 x88_2).f0))).setCell ⟨gb565,1,none⟩ (.int .i64 ((rd_T28 t559 x88_2).f1))).setCell ⟨gb565,2,none⟩ (.int .i64 ((rd_T28 t559 x88_2).f2))).setCell ⟨gb565,3,none⟩ (.string ((rd_T28 t559 x88_2).f3))) w.heap.size (fun k_=>some k_ ≠ (v556:Value).ownBlock∧k_ ≠ gb538∧k_ ≠ gb565) (.slice (some ad564) t559.length co79) t559):=⟨by (with_reducible repeat (first|apply Kd.R_alloc|apply Kd.R_drewN|apply Kd.R_drew));exact Kd.R_mono (fR (fR (fR (fR (Kd.R_mono HO_86.out (fun k_ hk=>(⟨hk,hk.2⟩:_∧k_ ≠ gb565))))))) (fun _ hk=>⟨hk.1.1.1,⟨hk.1.1.2,hk.1.2⟩⟩)⟩;have n3_:AsZ (Kd.Q (Kd.int .i64) 3 ((((w84.setCell ⟨gb565,0,none⟩ (.string ((rd_T28 t559 x88_2).f0))).setCell ⟨gb565,1,none⟩ (.int .i64 ((rd_T28 t559 x88_2).f1))).setCell ⟨gb565,2,none⟩ (.int .i64 ((rd_T28 t559 x88_2).f2))).setCell ⟨gb565,3,none⟩ (.string ((rd_T28 t559 x88_2).f3))) w.heap.size (fun k_=>some k_ ≠ (.slice Ao46 t539.length co46:Value).ownBlock∧some k_ ≠ (.slice Ao55 t547.length co55:Value).ownBlock) (.slice Ao39 t527.length co39) t527):=⟨by (with_reducible repeat (first|apply Kd.Q_alloc|apply Kd.Q_drewN|apply Kd.Q_drew));exact Kd.Q_mono (fQ (fQ (fQ (fQ (Kd.Q_types HO_538000.out BK565.out (by decide)))))) (fun _ hk=>⟨hk.1.1,hk.1.2⟩)⟩;have n4_:AsZ (Kd.S k77 77 ((((w84.setCell ⟨gb565,0,none⟩ (.string ((rd_T28 t559 x88_2).f0))).setCell ⟨gb565,1,none⟩ (.int .i64 ((rd_T28 t559 x88_2).f1))).setCell ⟨gb565,2,none⟩ (.int .i64 ((rd_T28 t559 x88_2).f2))).setCell ⟨gb565,3,none⟩ (.string ((rd_T28 t559 x88_2).f3))) w.heap.size (fun k_=>some k_ ≠ (.slice Ao39 t527.length co39:Value).ownBlock∧some k_ ≠ (.slice Ao46 t539.length co46:Value).ownBlock∧some k_ ≠ (.slice Ao50 t542.length co50:Value).ownBlock∧some k_ ≠ (.slice Ao55 t547.length co55:Value).ownBlock∧some k_ ≠ (.slice Ao60 t550.length co60:Value).ownBlock) (.slice Ao42 t530.length co42) t530):=⟨by (with_reducible repeat (first|apply Kd.S_alloc|apply Kd.S_drewN|apply Kd.S_drew));exact Kd.S_mono (fS (fS (fS (fS (Kd.S_types HO_538001.out BK565.out (by decide)))))) (fun _ hk=>⟨hk.1.1,⟨hk.1.2.1,⟨hk.1.2.2.1,⟨hk.1.2.2.2.1,hk.1.2.2.2.2⟩⟩⟩⟩)⟩;have n5_:AsZ (Kd.Q (Kd.int .i64) 3 ((((w84.setCell ⟨gb565,0,none⟩ (.string ((rd_T28 t559 x88_2).f0))).setCell ⟨gb565,1,none⟩ (.int .i64 ((rd_T28 t559 x88_2).f1))).setCell ⟨gb565,2,none⟩ (.int .i64 ((rd_T28 t559 x88_2).f2))).setCell ⟨gb565,3,none⟩ (.string ((rd_T28 t559 x88_2).f3))) w.heap.size (fun k_=>some k_ ≠ (.slice Ao39 t527.length co39:Value).ownBlock∧some k_ ≠ (.slice Ao55 t547.length co55:Value).ownBlock) (.slice Ao46 t539.length co46) t539):=⟨by (with_reducible repeat (first|apply Kd.Q_alloc|apply Kd.Q_drewN|apply Kd.Q_drew));exact Kd.Q_mono (fQ (fQ (fQ (fQ (Kd.Q_types HO_547000.out BK565.out (by decide)))))) (fun _ hk=>⟨hk.1.1,hk.1.2⟩)⟩;have n6_:AsZ (Kd.S k77 77 ((((w84.setCell ⟨gb565,0,none⟩ (.string ((rd_T28 t559 x88_2).f0))).setCell ⟨gb565,1,none⟩ (.int .i64 ((rd_T28 t559 x88_2).f1))).setCell ⟨gb565,2,none⟩ (.int .i64 ((rd_T28 t559 x88_2).f2))).setCell ⟨gb565,3,none⟩ (.string ((rd_T28 t559 x88_2).f3))) w.heap.size (fun k_=>some k_ ≠ (.slice Ao39 t527.length co39:Value).ownBlock∧some k_ ≠ (.slice Ao42 t530.length co42:Value).ownBlock∧some k_ ≠ (.slice Ao46 t539.length co46:Value).ownBlock∧some k_ ≠ (.slice Ao55 t547.length co55:Value).ownBlock∧some k_ ≠ (.slice Ao60 t550.length co60:Value).ownBlock) (.slice Ao50 t542.length co50) t542):=⟨by (with_reducible repeat (first|apply Kd.S_alloc|apply Kd.S_drewN|apply Kd.S_drew));exact Kd.S_mono (fS (fS (fS (fS (Kd.S_types HO_547001.out BK565.out (by decide)))))) (fun _ hk=>⟨hk.1.1,⟨hk.1.2.1,⟨hk.1.2.2.1,⟨hk.1.2.2.2.1,hk.1.2.2.2.2⟩⟩⟩⟩)⟩;have n7_:AsZ (Kd.Q (Kd.int .i64) 3 ((((w84.setCell ⟨gb565,0,none⟩ (.string ((rd_T28 t559 x88_2).f0))).setCell ⟨gb565,1,none⟩ (.int .i64 ((rd_T28 t559 x88_2).f1))).setCell ⟨gb565,2,none⟩ (.int .i64 ((rd_T28 t559 x88_2).f2))).setCell ⟨gb565,3,none⟩ (.string ((rd_T28 t559 x88_2).f3))) w.heap.size (fun k_=>some k_ ≠ (.slice Ao39 t527.length co39:Value).ownBlock∧some k_ ≠ (.slice Ao46 t539.length co46:Value).ownBlock) (.slice Ao55 t547.length co55) t547):=⟨by (with_reducible repeat (first|apply Kd.Q_alloc|apply Kd.Q_drewN|apply Kd.Q_drew));exact Kd.Q_mono (fQ (fQ (fQ (fQ (Kd.Q_types HO_555000.out BK565.out (by decide)))))) (fun _ hk=>⟨hk.1.1,hk.1.2⟩)⟩;have n8_:AsZ (Kd.S k77 77 ((((w84.setCell ⟨gb565,0,none⟩ (.string ((rd_T28 t559 x88_2).f0))).setCell ⟨gb565,1,none⟩ (.int .i64 ((rd_T28 t559 x88_2).f1))).setCell ⟨gb565,2,none⟩ (.int .i64 ((rd_T28 t559 x88_2).f2))).setCell ⟨gb565,3,none⟩ (.string ((rd_T28 t559 x88_2).f3))) w.heap.size (fun k_=>some k_ ≠ (.slice Ao39 t527.length co39:Value).ownBlock∧some k_ ≠ (.slice Ao42 t530.length co42:Value).ownBlock∧some k_ ≠ (.slice Ao46 t539.length co46:Value).ownBlock∧some k_ ≠ (.slice Ao50 t542.length co50:Value).ownBlock∧some k_ ≠ (.slice Ao55 t547.length co55:Value).ownBlock) (.slice Ao60 t550.length co60) t550):=⟨by (with_reducible repeat (first|apply Kd.S_alloc|apply Kd.S_drewN|apply Kd.S_drew));exact Kd.S_mono (fS (fS (fS (fS (Kd.S_types HO_555001.out BK565.out (by decide)))))) (fun _ hk=>⟨hk.1.1,⟨hk.1.2.1,⟨hk.1.2.2.1,⟨hk.1.2.2.2.1,hk.1.2.2.2.2⟩⟩⟩⟩)⟩
        have n9_:AsZ (((((w84.setCell ⟨gb565,0,none⟩ (.string ((rd_T28 t559 x88_2).f0))).setCell ⟨gb565,1,none⟩ (.int .i64 ((rd_T28 t559 x88_2).f1))).setCell ⟨gb565,2,none⟩ (.int .i64 ((rd_T28 t559 x88_2).f2))).setCell ⟨gb565,3,none⟩ (.string ((rd_T28 t559 x88_2).f3))).heap[gb537]? = some (.cells #[.slice Ao39 t527.length co39,.slice Ao42 t530.length co42] 26 (0,0))):=⟨bq BK537⟩;have n10_:AsZ (((((w84.setCell ⟨gb565,0,none⟩ (.string ((rd_T28 t559 x88_2).f0))).setCell ⟨gb565,1,none⟩ (.int .i64 ((rd_T28 t559 x88_2).f1))).setCell ⟨gb565,2,none⟩ (.int .i64 ((rd_T28 t559 x88_2).f2))).setCell ⟨gb565,3,none⟩ (.string ((rd_T28 t559 x88_2).f3))).heap[gb538]? = some (.cells #[.string t533,.int .i64 t534,.int .i64 t535,.string t536] 28 (0,0))):=⟨bq BK538⟩;have n11_:AsZ (((((w84.setCell ⟨gb565,0,none⟩ (.string ((rd_T28 t559 x88_2).f0))).setCell ⟨gb565,1,none⟩ (.int .i64 ((rd_T28 t559 x88_2).f1))).setCell ⟨gb565,2,none⟩ (.int .i64 ((rd_T28 t559 x88_2).f2))).setCell ⟨gb565,3,none⟩ (.string ((rd_T28 t559 x88_2).f3))).heap[gb546]? = some (.cells #[.slice Ao46 t539.length co46,.slice Ao50 t542.length co50] 26 (0,0))):=⟨bq BK546⟩;have n12_:AsZ (((((w84.setCell ⟨gb565,0,none⟩ (.string ((rd_T28 t559 x88_2).f0))).setCell ⟨gb565,1,none⟩ (.int .i64 ((rd_T28 t559 x88_2).f1))).setCell ⟨gb565,2,none⟩ (.int .i64 ((rd_T28 t559 x88_2).f2))).setCell ⟨gb565,3,none⟩ (.string ((rd_T28 t559 x88_2).f3))).heap[gb554]? = some (.cells #[.slice Ao55 t547.length co55,.slice Ao60 t550.length co60] 26 (0,0))):=⟨bq BK554⟩;have n13_:AsZ (((((w84.setCell ⟨gb565,0,none⟩ (.string ((rd_T28 t559 x88_2).f0))).setCell ⟨gb565,1,none⟩ (.int .i64 ((rd_T28 t559 x88_2).f1))).setCell ⟨gb565,2,none⟩ (.int .i64 ((rd_T28 t559 x88_2).f2))).setCell ⟨gb565,3,none⟩ (.string ((rd_T28 t559 x88_2).f3))).heap[gb565]? = some (.cells #[.string ((rd_T28 t559 x88_2).f0),.int .i64 ((rd_T28 t559 x88_2).f1),.int .i64 ((rd_T28 t559 x88_2).f2),.string ((rd_T28 t559 x88_2).f3)] 28 (0,0))):=⟨bq BK565⟩;have n14_:AsZ (Below w.heap.size w ((((w84.setCell ⟨gb565,0,none⟩ (.string ((rd_T28 t559 x88_2).f0))).setCell ⟨gb565,1,none⟩ (.int .i64 ((rd_T28 t559 x88_2).f1))).setCell ⟨gb565,2,none⟩ (.int .i64 ((rd_T28 t559 x88_2).f2))).setCell ⟨gb565,3,none⟩ (.string ((rd_T28 t559 x88_2).f3)))):=⟨bel⟩;(try clear HO_9);(try clear HO_11);(try clear HO_86);(try clear HO_538000);(try clear HO_538001);(try clear HO_547000);(try clear HO_547001);(try clear HO_555000);(try clear HO_555001);(try clear BK537);(try clear BK538);(try clear BK546);(try clear BK554);(try clear BK565);(try clear HB);generalize ((((w84.setCell ⟨gb565,0,none⟩ (.string ((rd_T28 t559 x88_2).f0))).setCell ⟨gb565,1,none⟩ (.int .i64 ((rd_T28 t559 x88_2).f1))).setCell ⟨gb565,2,none⟩ (.int .i64 ((rd_T28 t559 x88_2).f2))).setCell ⟨gb565,3,none⟩ (.string ((rd_T28 t559 x88_2).f3)))=w96 at n0_ n1_ n2_ n3_ n4_ n5_ n6_ n7_ n8_ n9_ n10_ n11_ n12_ n13_ n14_ ⊢;have HO_9:=n0_;have HO_11:=n1_;have HO_86:=n2_;have HO_538000:=n3_;have HO_538001:=n4_;have HO_547000:=n5_;have HO_547001:=n6_;have HO_555000:=n7_;have HO_555001:=n8_;have BK537:=n9_;have BK538:=n10_;have BK546:=n11_;have BK554:=n12_;have BK565:=n13_;have HB:=n14_;clear n0_ n1_ n2_ n3_ n4_ n5_ n6_ n7_ n8_ n9_ n10_ n11_ n12_ n13_ n14_;replace HO_9:=dR HO_9;replace HO_11:=dR HO_11;replace HO_86:=dR HO_86;replace HO_538000:=dQ HO_538000;replace HO_538001:=dS HO_538001;replace HO_547000:=dQ HO_547000;replace HO_547001:=dS HO_547001;replace HO_555000:=dQ HO_555000;replace HO_555001:=dS HO_555001;replace BK537:=db BK537;replace BK538:=db BK538;replace BK546:=db BK546;replace BK554:=db BK554;replace BK565:=db BK565;replace HB:=dB HB;have p566:0≤((ji91):Int):=dd;have q566:(ji91) < (t559.length:Int):=dd;obtain ⟨ad566,e566,hx566_0,hx566_1,hx566_2,hx566_3⟩:=at_T28 (Kd.R_reads' HO_11.out).2.2 (ji91) p566 q566;obtain rfl:ad564=ad566:=(by injection e566);replace p566:=eq_true p566;replace q566:=eq_true q566;refine start_ (n:=12) (S:=fun w'=>w'.cell? ⟨gb565,0,none⟩=some (.string ((rd_T28 t559 x88_2).f0))∧w'.cell? ⟨gb565,1,none⟩=some (.int .i64 ((rd_T28 t559 x88_2).f1))∧w'.cell? ⟨gb565,2,none⟩=some (.int .i64 ((rd_T28 t559 x88_2).f2))∧w'.cell? ⟨gb565,3,none⟩=some (.string ((rd_T28 t559 x88_2).f3))∧w'.cell? (ad564.add (((ji91)).toNat * 4))=some (.string ((rd_T28 t559 (ji91)).f0))∧w'.cell? ⟨(ad564.add (((ji91)).toNat * 4)).block,(ad564.add (((ji91)).toNat * 4)).off + 1,none⟩=some (.int .i64 ((rd_T28 t559 (ji91)).f1))∧w'.cell? ⟨(ad564.add (((ji91)).toNat * 4)).block,(ad564.add (((ji91)).toNat * 4)).off + 2,none⟩=some (.int .i64 ((rd_T28 t559 (ji91)).f2))∧w'.cell? ⟨(ad564.add (((ji91)).toNat * 4)).block,(ad564.add (((ji91)).toNat * 4)).off + 3,none⟩=some (.string ((rd_T28 t559 (ji91)).f3))) (ds:=[]) (b_ 0 12) (by kernel_rfl) rfl rfl ⟨(kc BK565.out 0).trans rfl,(kc BK565.out 1).trans rfl,(kc BK565.out 2).trans rfl,(kc BK565.out 3).trans rfl,hx566_0,hx566_1,hx566_2,hx566_3⟩ (fun hHeld=>?_);refine with_tabW laws_FnSkip.tab19 laws_FnSkip.bits19 (fun HT_ HW_=>?_);generalize w96.drew=w97 at HO_9 HO_11 HO_86 HO_538000 HO_538001 HO_547000 HO_547001 HO_555000 HO_555001 BK537 BK538 BK546 BK554 BK565 HB hx566_0 hx566_1 hx566_2 hx566_3 hHeld ⊢;refine pu 0 96 (b_ 1 11) HT_.out ?_;refine pu 1 97 (b_ 2 10) HT_.out ?_;refine pu 2 98 (b_ 3 9) HT_.out ?_;refine pu 3 99 (b_ 4 8) HT_.out ?_;refine tk8 4 100 (b_ 5 7) HT_.out HW_.out hHeld ?_;refine tk8 5 101 (b_ 6 6) HT_.out HW_.out hHeld ?_;refine on 6 (some 102) (b_ 7 5) HT_.out (fun K hK=>?_);refine goes_ Tryd.func16 (by kernel_rfl) rfl #[.agg #[.string ((rd_T28 t559 (ji91)).f0),.int .i64 ((rd_T28 t559 (ji91)).f1),.int .i64 ((rd_T28 t559 (ji91)).f2),.string ((rd_T28 t559 (ji91)).f3)],.agg #[.string ((rd_T28 t559 x88_2).f0),.int .i64 ((rd_T28 t559 x88_2).f1),.int .i64 ((rd_T28 t559 x88_2).f2),.string ((rd_T28 t559 x88_2).f3)]] (by rfl) rfl rfl (by (try simp only [zA,zC,zN]);first|done|(simp only [hji91];rfl)|rfl|(simp only [zM,zL];rfl)) ?_
        with_reducible refine (spec_CompareItem.calls k2 ((rd_T28 t559 (ji91)).f0) ((rd_T28 t559 (ji91)).f1) ((rd_T28 t559 (ji91)).f2) ((rd_T28 t559 (ji91)).f3) ((rd_T28 t559 x88_2).f0) ((rd_T28 t559 x88_2).f1) ((rd_T28 t559 x88_2).f2) ((rd_T28 t559 x88_2).f3) t567 t568 _ A94.out).mono ?_
        rintro e w98 ⟨rfl,hb⟩;have HS4_:=(hb.cell (zB _ _ (hHeld.2.2.2.2.1))).trans (hHeld.2.2.2.2.1);have HS5_:=(hb.cell (zB _ _ (hHeld.2.2.2.2.2.1))).trans (hHeld.2.2.2.2.2.1);have HS6_:=(hb.cell (zB _ _ (hHeld.2.2.2.2.2.2.1))).trans (hHeld.2.2.2.2.2.2.1);have HS7_:=(hb.cell (zB _ _ (hHeld.2.2.2.2.2.2.2))).trans (hHeld.2.2.2.2.2.2.2);refine ⟨_,rfl,?_⟩;replace HO_9:=rR HO_9 hb;replace HO_11:=rR HO_11 hb;replace HO_86:=rR HO_86 hb;replace HO_538000:=rQ HO_538000 hb;replace HO_538001:=rS HO_538001 hb;replace HO_547000:=rQ HO_547000 hb;replace HO_547001:=rS HO_547001 hb;replace HO_555000:=rQ HO_555000 hb;replace HO_555001:=rS HO_555001 hb;replace BK537:=bb BK537 hb;replace BK538:=bb BK538 hb;replace BK546:=bb BK546 hb;replace BK554:=bb BK554 hb;replace BK565:=bb BK565 hb;replace HB:=bp hb;(try clear hb);(try clear hb2);(try clear hk);(try clear hi);refine hK.out _ _ cl (fun hHeld=>?_);clear hK K;refine norm_ (a':=?_) ?_ ?_;rotate_left
        · show Act.put _ (some 102) _=_
          simp only [Act.put,zS,zT,zU,i64_w,i32_w]
          rfl
        refine pu 7 95 (b_ 8 4) HT_.out ?_;refine pu 8 103 (b_ 9 3) HT_.out ?_;refine pu 9 104 (b_ 10 2) HT_.out ?_;refine pu 10 16 (b_ 11 1) HT_.out ?_;refine pu 11 17 (b_ 12 0) HT_.out ?_;refine dn_ (dnO HT_.out (by kernel_rfl)) ?_;go_upto_region 20 with (fail)
        go_cut [110] (fun v110 wc => ∃ (kq:Nat) (x110_94:Bool),v110 = .bool x110_94∧AsZ (laws_FnSkip.j2 kq t555 t559 x13_2 t559 (t559.length:Int) x88_2 x110_94 t533 t534 t535 t536 t539 t542 ((rd_T28 t559 x88_2).f0) ((rd_T28 t559 x88_2).f1) ((rd_T28 t559 x88_2).f2) ((rd_T28 t559 x88_2).f3)=some r)∧AsZ (kq≤k2)∧AsZ (Kd.R k28 28 wc w.heap.size (fun k_=>some k_ ≠ ((.slice (some ad564) t559.length co79):Value).ownBlock∧some k_ ≠ ((.slice (some ad564) t559.length co79):Value).ownBlock∧k_ ≠ gb538∧k_ ≠ gb565) v556 t555)∧AsZ (Kd.R k28 28 wc w.heap.size (fun k_=>some k_ ≠ (v556:Value).ownBlock∧k_ ≠ gb538∧k_ ≠ gb565) (.slice (some ad564) t559.length co79) t559)∧AsZ (Kd.R k28 28 wc w.heap.size (fun k_=>some k_ ≠ (v556:Value).ownBlock∧k_ ≠ gb538∧k_ ≠ gb565) (.slice (some ad564) t559.length co79) t559)∧AsZ (Kd.Q (Kd.int .i64) 3 wc w.heap.size (fun k_=>some k_ ≠ ((.slice Ao46 t539.length co46):Value).ownBlock∧some k_ ≠ ((.slice Ao55 t547.length co55):Value).ownBlock) (.slice Ao39 t527.length co39) t527)∧AsZ (Kd.S k77 77 wc w.heap.size (fun k_=>some k_ ≠ ((.slice Ao39 t527.length co39):Value).ownBlock∧some k_ ≠ ((.slice Ao46 t539.length co46):Value).ownBlock∧some k_ ≠ ((.slice Ao50 t542.length co50):Value).ownBlock∧some k_ ≠ ((.slice Ao55 t547.length co55):Value).ownBlock∧some k_ ≠ ((.slice Ao60 t550.length co60):Value).ownBlock) (.slice Ao42 t530.length co42) t530)∧AsZ (Kd.Q (Kd.int .i64) 3 wc w.heap.size (fun k_=>some k_ ≠ ((.slice Ao39 t527.length co39):Value).ownBlock∧some k_ ≠ ((.slice Ao55 t547.length co55):Value).ownBlock) (.slice Ao46 t539.length co46) t539)∧AsZ (Kd.S k77 77 wc w.heap.size (fun k_=>some k_ ≠ ((.slice Ao39 t527.length co39):Value).ownBlock∧some k_ ≠ ((.slice Ao42 t530.length co42):Value).ownBlock∧some k_ ≠ ((.slice Ao46 t539.length co46):Value).ownBlock∧some k_ ≠ ((.slice Ao55 t547.length co55):Value).ownBlock∧some k_ ≠ ((.slice Ao60 t550.length co60):Value).ownBlock) (.slice Ao50 t542.length co50) t542)∧AsZ (Kd.Q (Kd.int .i64) 3 wc w.heap.size (fun k_=>some k_ ≠ ((.slice Ao39 t527.length co39):Value).ownBlock∧some k_ ≠ ((.slice Ao46 t539.length co46):Value).ownBlock) (.slice Ao55 t547.length co55) t547)∧AsZ (Kd.S k77 77 wc w.heap.size (fun k_=>some k_ ≠ ((.slice Ao39 t527.length co39):Value).ownBlock∧some k_ ≠ ((.slice Ao42 t530.length co42):Value).ownBlock∧some k_ ≠ ((.slice Ao46 t539.length co46):Value).ownBlock∧some k_ ≠ ((.slice Ao50 t542.length co50):Value).ownBlock∧some k_ ≠ ((.slice Ao55 t547.length co55):Value).ownBlock) (.slice Ao60 t550.length co60) t550)∧AsZ (wc.heap[gb537]? = some (.cells #[(.slice Ao39 t527.length co39),(.slice Ao42 t530.length co42)] 26 (0,0)))∧AsZ (wc.heap[gb538]? = some (.cells #[.string t533,.int .i64 t534,.int .i64 t535,.string t536] 28 (0,0)))∧AsZ (wc.heap[gb546]? = some (.cells #[(.slice Ao46 t539.length co46),(.slice Ao50 t542.length co50)] 26 (0,0)))∧AsZ (wc.heap[gb554]? = some (.cells #[(.slice Ao55 t547.length co55),(.slice Ao60 t550.length co60)] 26 (0,0)))∧AsZ (wc.heap[gb565]? = some (.cells #[.string ((rd_T28 t559 x88_2).f0),.int .i64 ((rd_T28 t559 x88_2).f1),.int .i64 ((rd_T28 t559 x88_2).f2),.string ((rd_T28 t559 x88_2).f3)] 28 (0,0)))∧AsZ (Below w.heap.size w wc))
        case first =>
         have H:=HC95.out;clear HC95;by_cases c99:t568=true
         · subst c99
           replace H:=iP H;have H':=AsZ.mk H;clear H;go_wp2;go_meet
           case rel=>exact ⟨_,((t567 != (-1))),rs,H',⟨by have:=HJ34.out;have:=HK2.out;first|omega|exact Nat.le_refl _⟩,⟨kR HO_9⟩,⟨kR HO_11⟩,⟨kR HO_86⟩,⟨kQ HO_538000⟩,⟨kS HO_538001⟩,⟨kQ HO_547000⟩,⟨kS HO_547001⟩,⟨kQ HO_555000⟩,⟨kS HO_555001⟩,⟨bk BK537⟩,⟨bk BK538⟩,⟨bk BK546⟩,⟨bk BK554⟩,⟨bk BK565⟩,⟨bel⟩⟩
         replace c99:=Bool.eq_false_iff.mpr c99;subst c99;replace H:=iN H;have H':=AsZ.mk H;clear H;go_wp2;go_meet
         case rel=>exact ⟨_,(true),rs,H',⟨by have:=HJ34.out;have:=HK2.out;first|omega|exact Nat.le_refl _⟩,⟨kR HO_9⟩,⟨kR HO_11⟩,⟨kR HO_86⟩,⟨kQ HO_538000⟩,⟨kS HO_538001⟩,⟨kQ HO_547000⟩,⟨kS HO_547001⟩,⟨kQ HO_555000⟩,⟨kS HO_555001⟩,⟨bk BK537⟩,⟨bk BK538⟩,⟨bk BK546⟩,⟨bk BK554⟩,⟨bk BK565⟩,⟨bel⟩⟩
        case rest =>
         clear HC95
         try clear c2b0
         try clear c2b1
         try clear p2
         try clear p5 q5
         try clear hx5
         try clear c6b0
         try clear c6b1
         try clear c6b2
         try clear p6
         try clear p56 q56
         try clear hx56
         try clear p64
         try clear c67b0
         try clear c67b1
         try clear c80b0
         try clear c81b0
         try clear c82b0
         try clear c90b0
         try clear c90b1
         try clear c92b0
         try clear c93b0
         try clear hcz12_0 hcz12_1 hfz12_0 hfz12_1
         try clear hcz14_0 hcz14_1 hcz14_2 hcz14_3 hfz14_0 hfz14_1 hfz14_2 hfz14_3
         try clear hcz20_0 hcz20_1 hfz20_0 hfz20_1
         try clear hcz22_0 hcz22_1 hfz22_0 hfz22_1
         try clear hcz23_0 hcz23_1 hcz23_2 hcz23_3 hfz23_0 hfz23_1 hfz23_2 hfz23_3
         try clear hcz30_0 hcz30_1 hfz30_0 hfz30_1
         try clear hcz41_0 hcz41_1 hfz41_0 hfz41_1
         try clear hcz43_0 hcz43_1 hcz43_2 hcz43_3 hfz43_0 hfz43_1 hfz43_2 hfz43_3
         try clear hcz49_0 hcz49_1 hfz49_0 hfz49_1
         try clear hcz51_0 hcz51_1 hfz51_0 hfz51_1
         try clear hcz52_0 hcz52_1 hcz52_2 hcz52_3 hfz52_0 hfz52_1 hfz52_2 hfz52_3
         try clear hcz59_0 hcz59_1 hfz59_0 hfz59_1
         try clear hcz61_0 hcz61_1 hfz61_0 hfz61_1
         try clear hcz63_0 hcz63_1 hfz63_0 hfz63_1
         try clear hcz74_0 hcz74_1 hfz74_0 hfz74_1
         try clear hcz89_0 hcz89_1 hcz89_2 hcz89_3 hfz89_0 hfz89_1 hfz89_2 hfz89_3
         try clear hx564_0 hx564_1 hx564_2 hx564_3
         try clear hx566_0 hx566_1 hx566_2 hx566_3
         try clear p564 q564
         try clear p566 q566
         obtain ⟨kq,x110_94,rfl,HA,HJ94,HO_9,HO_11,HO_86,HO_538000,HO_538001,HO_547000,HO_547001,HO_555000,HO_555001,BK537,BK538,BK546,BK554,BK565,HB⟩:=hcut
         cases kq with
         |zero=>exact absurd HA.out (by simp [laws_FnSkip.j2])
         |succ kj94 =>
          have H:=HA.out;clear HA;simp only [laws_FnSkip.j2] at H;by_cases c100:x110_94=true
          · subst c100
            replace H:=iP H;obtain rfl:=zI H;go_wp2;go_ret;exact ⟨by first|rfl|(simp [errW_none,errW_some]<;>rfl)|(simp only [← hji91];first|rfl|(simp [errW_none,errW_some]<;>rfl))|(simp [*,errW_none,errW_some]<;>rfl),bel⟩
          replace c100:=Bool.eq_false_iff.mpr c100;subst c100;replace H:=iN H;have H':=AsZ.mk H;clear H;go_wp2;go_meet
          case rel=>exact ⟨_,H',⟨by have:=HJ34.out;have:=HK2.out;have:=HJ94.out;first|omega|exact Nat.le_refl _⟩,⟨kR HO_9⟩,⟨kR HO_11⟩,⟨kR HO_86⟩,⟨kQ HO_538000⟩,⟨kS HO_538001⟩,⟨kQ HO_547000⟩,⟨kS HO_547001⟩,⟨kQ HO_555000⟩,⟨kS HO_555001⟩,⟨bk BK537⟩,⟨bk BK538⟩,⟨bk BK546⟩,⟨bk BK554⟩,⟨bk BK565⟩,⟨bel⟩⟩
       case rest =>
        clear HC83
        try clear c2b0
        try clear c2b1
        try clear p2
        try clear p5 q5
        try clear hx5
        try clear c6b0
        try clear c6b1
        try clear c6b2
        try clear p6
        try clear p56 q56
        try clear hx56
        try clear p64
        try clear c67b0
        try clear c67b1
        try clear c80b0
        try clear c81b0
        try clear c82b0
        try clear c90b0
        try clear c90b1
        try clear c92b0
        try clear c93b0
        try clear hcz12_0 hcz12_1 hfz12_0 hfz12_1
        try clear hcz14_0 hcz14_1 hcz14_2 hcz14_3 hfz14_0 hfz14_1 hfz14_2 hfz14_3
        try clear hcz20_0 hcz20_1 hfz20_0 hfz20_1
        try clear hcz22_0 hcz22_1 hfz22_0 hfz22_1
        try clear hcz23_0 hcz23_1 hcz23_2 hcz23_3 hfz23_0 hfz23_1 hfz23_2 hfz23_3
        try clear hcz30_0 hcz30_1 hfz30_0 hfz30_1
        try clear hcz41_0 hcz41_1 hfz41_0 hfz41_1
        try clear hcz43_0 hcz43_1 hcz43_2 hcz43_3 hfz43_0 hfz43_1 hfz43_2 hfz43_3
        try clear hcz49_0 hcz49_1 hfz49_0 hfz49_1
        try clear hcz51_0 hcz51_1 hfz51_0 hfz51_1
        try clear hcz52_0 hcz52_1 hcz52_2 hcz52_3 hfz52_0 hfz52_1 hfz52_2 hfz52_3
        try clear hcz59_0 hcz59_1 hfz59_0 hfz59_1
        try clear hcz61_0 hcz61_1 hfz61_0 hfz61_1
        try clear hcz63_0 hcz63_1 hfz63_0 hfz63_1
        try clear hcz74_0 hcz74_1 hfz74_0 hfz74_1
        try clear hcz89_0 hcz89_1 hcz89_2 hcz89_3 hfz89_0 hfz89_1 hfz89_2 hfz89_3
        try clear hx564_0 hx564_1 hx564_2 hx564_3
        try clear hx566_0 hx566_1 hx566_2 hx566_3
        try clear p564 q564
        try clear p566 q566
        obtain ⟨kq,HA,HJ82,HO_9,HO_11,HO_86,HO_538000,HO_538001,HO_547000,HO_547001,HO_555000,HO_555001,BK537,BK538,BK546,BK554,BK565,HB⟩:=hcut
        cases kq with
        |zero=>exact absurd HA.out (by simp [laws_FnSkip.j3])
        |succ kj82 =>
         have H:=HA.out;clear HA;simp only [laws_FnSkip.j3] at H;by_cases c101:(((rd_T28 t559 x88_2).f0).toList == t533.toList && (((rd_T28 t559 x88_2).f1) == t534 && (((rd_T28 t559 x88_2).f2) == t535 && (((rd_T28 t559 x88_2).f3).toList == t536.toList))))=true
         · rw [if_pos c101] at H
           have c101b0:(((rd_T28 t559 x88_2).f0).toList == t533.toList && (((rd_T28 t559 x88_2).f1) == t534 && (((rd_T28 t559 x88_2).f2) == t535 && (((rd_T28 t559 x88_2).f3).toList == t536.toList))))=true:=c101;(try (have c101b1:decide (((rd_T28 t559 x88_2).f0).toList=t533.toList && (((rd_T28 t559 x88_2).f1) == t534 && (((rd_T28 t559 x88_2).f2) == t535 && (((rd_T28 t559 x88_2).f3).toList == t536.toList))))=true:=by simpa using c101));(try (have c101b2:(((rd_T28 t559 x88_2).f0).toList == t533.toList && (((rd_T28 t559 x88_2).f1) == t534 && (((rd_T28 t559 x88_2).f2) == t535 && (((rd_T28 t559 x88_2).f3).toList == t536.toList))))=true:=by simpa using c101));clear c101;have H':=AsZ.mk H;clear H;have hnb102:=NB565_537.out;have hnc102:=NB537_565.out;have hnb103:=NB565_538.out;have hnc103:=NB538_565.out;have hnb104:=NB565_546.out;have hnc104:=NB546_565.out;have hnb105:=NB565_554.out;have hnc105:=NB554_565.out;obtain ⟨hcz106_0,hcz106_1,hcz106_2,hcz106_3,hfz106_0,hfz106_1,hfz106_2,hfz106_3⟩:=bx4 BK565;have hnb107:=NB538_537.out;have hnc107:=NB537_538.out;have hnb108:=NB538_546.out;have hnc108:=NB546_538.out;have hnb109:=NB538_554.out;have hnc109:=NB554_538.out;obtain ⟨hcz110_0,hcz110_1,hcz110_2,hcz110_3,hfz110_0,hfz110_1,hfz110_2,hfz110_3⟩:=bx4 BK538;go_wp2;go_roundg kj82
           case measure=>have:=HJ34.out;have:=HK2.out;have:=HJ82.out;omega
           case rel=>exact ⟨(x13_2),(wrap64 (x88_2 + 1)),rs,rs,H',⟨by have:=HJ34.out;have:=HK2.out;have:=HJ82.out;omega⟩,⟨by (with_reducible repeat (first|apply Kd.R_alloc|apply Kd.R_drewN|apply Kd.R_drew));exact Kd.R_mono HO_9.out (fun _ hk=>⟨hk.1,⟨hk.2.1,hk.2.2.1⟩⟩)⟩,⟨by (with_reducible repeat (first|apply Kd.R_alloc|apply Kd.R_drewN|apply Kd.R_drew));exact Kd.R_mono HO_11.out (fun _ hk=>⟨hk.1,hk.2.1⟩)⟩,⟨by (with_reducible repeat (first|apply Kd.R_alloc|apply Kd.R_drewN|apply Kd.R_drew));exact Kd.R_mono HO_86.out (fun _ hk=>⟨hk.1,hk.2.1⟩)⟩,⟨kQ HO_538000⟩,⟨kS HO_538001⟩,⟨kQ HO_547000⟩,⟨kS HO_547001⟩,⟨kQ HO_555000⟩,⟨kS HO_555001⟩,⟨bk BK537⟩,⟨bk BK538⟩,⟨bk BK546⟩,⟨bk BK554⟩,⟨bel⟩⟩
         rw [if_neg c101] at H;have c101b0:(((rd_T28 t559 x88_2).f0).toList == t533.toList && (((rd_T28 t559 x88_2).f1) == t534 && (((rd_T28 t559 x88_2).f2) == t535 && (((rd_T28 t559 x88_2).f3).toList == t536.toList))))=false:=by simpa using c101
         (try (have c101b1:decide (((rd_T28 t559 x88_2).f0).toList=t533.toList && (((rd_T28 t559 x88_2).f1) == t534 && (((rd_T28 t559 x88_2).f2) == t535 && (((rd_T28 t559 x88_2).f3).toList == t536.toList))))=false:=by simpa using c101));(try (have c101b2:(((rd_T28 t559 x88_2).f0).toList == t533.toList && (((rd_T28 t559 x88_2).f1) == t534 && (((rd_T28 t559 x88_2).f2) == t535 && (((rd_T28 t559 x88_2).f3).toList == t536.toList))))=false:=by simpa using c101));(try (have c101b3:¬ (((rd_T28 t559 x88_2).f0).toList=t533.toList && (((rd_T28 t559 x88_2).f1) == t534 && (((rd_T28 t559 x88_2).f2) == t535 && (((rd_T28 t559 x88_2).f3).toList == t536.toList)))):=by simpa using c101));clear c101;have HC111:=AsZ.mk H;clear H;have hnb112:=NB565_537.out;have hnc112:=NB537_565.out;have hnb113:=NB565_538.out;have hnc113:=NB538_565.out;have hnb114:=NB565_546.out;have hnc114:=NB546_565.out;have hnb115:=NB565_554.out;have hnc115:=NB554_565.out;obtain ⟨hcz116_0,hcz116_1,hcz116_2,hcz116_3,hfz116_0,hfz116_1,hfz116_2,hfz116_3⟩:=bx4 BK565;have hnb117:=NB538_537.out;have hnc117:=NB537_538.out;have hnb118:=NB538_546.out;have hnc118:=NB546_538.out;have hnb119:=NB538_554.out;have hnc119:=NB554_538.out;obtain ⟨hcz120_0,hcz120_1,hcz120_2,hcz120_3,hfz120_0,hfz120_1,hfz120_2,hfz120_3⟩:=bx4 BK538;go_upto_region 23 with (fail)
         go_cut [125] (fun v125 wc => ∃ (kq:Nat) (x125_110:Bool),v125 = .bool x125_110∧AsZ (laws_FnSkip.j4 kq t555 t559 x13_2 t559 (t559.length:Int) x88_2 x125_110 t533 t534 t535 t536 t539 t542=some r)∧AsZ (kq≤kj82)∧AsZ (Kd.R k28 28 wc w.heap.size (fun k_=>some k_ ≠ ((.slice (some ad564) t559.length co79):Value).ownBlock∧some k_ ≠ ((.slice (some ad564) t559.length co79):Value).ownBlock∧k_ ≠ gb538∧k_ ≠ gb565) v556 t555)∧AsZ (Kd.R k28 28 wc w.heap.size (fun k_=>some k_ ≠ (v556:Value).ownBlock∧k_ ≠ gb538∧k_ ≠ gb565) (.slice (some ad564) t559.length co79) t559)∧AsZ (Kd.R k28 28 wc w.heap.size (fun k_=>some k_ ≠ (v556:Value).ownBlock∧k_ ≠ gb538∧k_ ≠ gb565) (.slice (some ad564) t559.length co79) t559)∧AsZ (Kd.Q (Kd.int .i64) 3 wc w.heap.size (fun k_=>some k_ ≠ ((.slice Ao46 t539.length co46):Value).ownBlock∧some k_ ≠ ((.slice Ao55 t547.length co55):Value).ownBlock) (.slice Ao39 t527.length co39) t527)∧AsZ (Kd.S k77 77 wc w.heap.size (fun k_=>some k_ ≠ ((.slice Ao39 t527.length co39):Value).ownBlock∧some k_ ≠ ((.slice Ao46 t539.length co46):Value).ownBlock∧some k_ ≠ ((.slice Ao50 t542.length co50):Value).ownBlock∧some k_ ≠ ((.slice Ao55 t547.length co55):Value).ownBlock∧some k_ ≠ ((.slice Ao60 t550.length co60):Value).ownBlock) (.slice Ao42 t530.length co42) t530)∧AsZ (Kd.Q (Kd.int .i64) 3 wc w.heap.size (fun k_=>some k_ ≠ ((.slice Ao39 t527.length co39):Value).ownBlock∧some k_ ≠ ((.slice Ao55 t547.length co55):Value).ownBlock) (.slice Ao46 t539.length co46) t539)∧AsZ (Kd.S k77 77 wc w.heap.size (fun k_=>some k_ ≠ ((.slice Ao39 t527.length co39):Value).ownBlock∧some k_ ≠ ((.slice Ao42 t530.length co42):Value).ownBlock∧some k_ ≠ ((.slice Ao46 t539.length co46):Value).ownBlock∧some k_ ≠ ((.slice Ao55 t547.length co55):Value).ownBlock∧some k_ ≠ ((.slice Ao60 t550.length co60):Value).ownBlock) (.slice Ao50 t542.length co50) t542)∧AsZ (Kd.Q (Kd.int .i64) 3 wc w.heap.size (fun k_=>some k_ ≠ ((.slice Ao39 t527.length co39):Value).ownBlock∧some k_ ≠ ((.slice Ao46 t539.length co46):Value).ownBlock) (.slice Ao55 t547.length co55) t547)∧AsZ (Kd.S k77 77 wc w.heap.size (fun k_=>some k_ ≠ ((.slice Ao39 t527.length co39):Value).ownBlock∧some k_ ≠ ((.slice Ao42 t530.length co42):Value).ownBlock∧some k_ ≠ ((.slice Ao46 t539.length co46):Value).ownBlock∧some k_ ≠ ((.slice Ao50 t542.length co50):Value).ownBlock∧some k_ ≠ ((.slice Ao55 t547.length co55):Value).ownBlock) (.slice Ao60 t550.length co60) t550)∧AsZ (wc.heap[gb537]? = some (.cells #[(.slice Ao39 t527.length co39),(.slice Ao42 t530.length co42)] 26 (0,0)))∧AsZ (wc.heap[gb538]? = some (.cells #[.string t533,.int .i64 t534,.int .i64 t535,.string t536] 28 (0,0)))∧AsZ (wc.heap[gb546]? = some (.cells #[(.slice Ao46 t539.length co46),(.slice Ao50 t542.length co50)] 26 (0,0)))∧AsZ (wc.heap[gb554]? = some (.cells #[(.slice Ao55 t547.length co55),(.slice Ao60 t550.length co60)] 26 (0,0)))∧AsZ (wc.heap[gb565]? = some (.cells #[.string ((rd_T28 t559 x88_2).f0),.int .i64 ((rd_T28 t559 x88_2).f1),.int .i64 ((rd_T28 t559 x88_2).f2),.string ((rd_T28 t559 x88_2).f3)] 28 (0,0)))∧AsZ (Below w.heap.size w wc))
         case first =>
          have H:=HC111.out;clear HC111;by_cases c121:x13_2 ≥ (t555.length:Int)
          · rw [if_pos c121] at H
            have c121b0:decide ((t555.length:Int)≤x13_2)=true:=zE c121;clear c121;(first|rw [c121b0]|(simp only [i64_w,i32_w];rw [c121b0])|rw [c121b1]|skip);have H':=AsZ.mk H;clear H
            try go_wp2
            replace HO_9:=dR HO_9;replace HO_11:=dR HO_11;replace HO_86:=dR HO_86;replace HO_538000:=dQ HO_538000;replace HO_538001:=dS HO_538001;replace HO_547000:=dQ HO_547000;replace HO_547001:=dS HO_547001;replace HO_555000:=dQ HO_555000;replace HO_555001:=dS HO_555001;replace BK537:=db BK537;replace BK538:=db BK538;replace BK546:=db BK546;replace BK554:=db BK554;replace BK565:=db BK565;replace HB:=dB HB;obtain ⟨Ao123,co123,eo123⟩:=Kd.R_slice HO_9.out;(first|subst eo123|(injection eo123 with f1_ f2_ f3_;have f4_:=f1_.symm;have f5_:=f3_.symm;clear f1_ f2_ f3_;subst f4_;subst f5_));refine start_ (n:=12) (S:=fun w'=>True) (ds:=[]) (b_ 0 12) (by kernel_rfl) rfl rfl trivial (fun hHeld=>?_);refine with_tabW laws_FnSkip.tab23 laws_FnSkip.bits23 (fun HT_ HW_=>?_);generalize wc.drew=w122 at HO_9 HO_11 HO_86 HO_538000 HO_538001 HO_547000 HO_547001 HO_555000 HO_555001 BK537 BK538 BK546 BK554 BK565 HB hHeld ⊢;refine pu 0 114 (b_ 1 11) HT_.out ?_;refine pu 1 115 (b_ 2 10) HT_.out ?_;refine pu 2 116 (b_ 3 9) HT_.out ?_;refine pu 3 117 (b_ 4 8) HT_.out ?_;refine pu 4 118 (b_ 5 7) HT_.out ?_;refine pd 5 119 (b_ 6 6) HT_.out ?_;refine pd 6 120 (b_ 7 5) HT_.out ?_;refine pd 7 121 (b_ 8 4) HT_.out ?_;refine pd 8 122 (b_ 9 3) HT_.out ?_;refine pd 9 123 (b_ 10 2) HT_.out ?_;refine pd 10 124 (b_ 11 1) HT_.out ?_;refine pu 11 125 (b_ 12 0) HT_.out ?_;refine dn_ (dnO HT_.out (by kernel_rfl)) ?_
            try go_wp2
            go_meet
            case rel=>exact ⟨_,(true),rs,H',⟨by have:=HJ34.out;have:=HK2.out;have:=HJ82.out;first|omega|exact Nat.le_refl _⟩,⟨kR HO_9⟩,⟨kR HO_11⟩,⟨kR HO_86⟩,⟨kQ HO_538000⟩,⟨kS HO_538001⟩,⟨kQ HO_547000⟩,⟨kS HO_547001⟩,⟨kQ HO_555000⟩,⟨kS HO_555001⟩,⟨bk BK537⟩,⟨bk BK538⟩,⟨bk BK546⟩,⟨bk BK554⟩,⟨bk BK565⟩,⟨bel⟩⟩
          rw [if_neg c121] at H;have c121b0:decide ((t555.length:Int)≤x13_2)=false:=decide_eq_false c121;clear c121;(first|rw [c121b0]|(simp only [i64_w,i32_w];rw [c121b0])|rw [c121b1]|skip);by_cases c124:0≤x13_2;rotate_left
          · rw [if_neg c124] at H
            exact absurd H (by simp)
          rw [if_pos c124] at H;have c124b0:=zE c124;clear c124;by_cases c125:x13_2 < (t555.length:Int);rotate_left
          · rw [if_neg c125] at H
            exact absurd H (by simp)
          rw [if_pos c125] at H;have c125b0:=zE c125;clear c125;have H':=AsZ.mk H;clear H
          try go_wp2
          replace HO_9:=dR HO_9;replace HO_11:=dR HO_11;replace HO_86:=dR HO_86;replace HO_538000:=dQ HO_538000;replace HO_538001:=dS HO_538001;replace HO_547000:=dQ HO_547000;replace HO_547001:=dS HO_547001;replace HO_555000:=dQ HO_555000;replace HO_555001:=dS HO_555001;replace BK537:=db BK537;replace BK538:=db BK538;replace BK546:=db BK546;replace BK554:=db BK554;replace BK565:=db BK565;replace HB:=dB HB;obtain ⟨Ao127,co127,eo127⟩:=Kd.R_slice HO_9.out;(first|subst eo127|(injection eo127 with f1_ f2_ f3_;have f4_:=f1_.symm;have f5_:=f3_.symm;clear f1_ f2_ f3_;subst f4_;subst f5_));have p569:0≤(x13_2:Int):=dd;have q569:x13_2 < (t555.length:Int):=dd;obtain ⟨ad569,e569,hx569_0,hx569_1,hx569_2,hx569_3⟩:=at_T28 (Kd.R_reads' HO_9.out).2.2 x13_2 p569 q569;cases e569;replace p569:=eq_true p569;replace q569:=eq_true q569;refine start_ (n:=12) (S:=fun w'=>w'.cell? ⟨gb565,0,none⟩=some (.string ((rd_T28 t559 x88_2).f0))∧w'.cell? ⟨gb565,1,none⟩=some (.int .i64 ((rd_T28 t559 x88_2).f1))∧w'.cell? ⟨gb565,2,none⟩=some (.int .i64 ((rd_T28 t559 x88_2).f2))∧w'.cell? ⟨gb565,3,none⟩=some (.string ((rd_T28 t559 x88_2).f3))∧w'.cell? (ad569.add ((x13_2).toNat * 4))=some (.string ((rd_T28 t555 x13_2).f0))∧w'.cell? ⟨(ad569.add ((x13_2).toNat * 4)).block,(ad569.add ((x13_2).toNat * 4)).off + 1,none⟩=some (.int .i64 ((rd_T28 t555 x13_2).f1))∧w'.cell? ⟨(ad569.add ((x13_2).toNat * 4)).block,(ad569.add ((x13_2).toNat * 4)).off + 2,none⟩=some (.int .i64 ((rd_T28 t555 x13_2).f2))∧w'.cell? ⟨(ad569.add ((x13_2).toNat * 4)).block,(ad569.add ((x13_2).toNat * 4)).off + 3,none⟩=some (.string ((rd_T28 t555 x13_2).f3))) (ds:=[]) (b_ 0 12) (by kernel_rfl) rfl rfl ⟨(kc BK565.out 0).trans rfl,(kc BK565.out 1).trans rfl,(kc BK565.out 2).trans rfl,(kc BK565.out 3).trans rfl,hx569_0,hx569_1,hx569_2,hx569_3⟩ (fun hHeld=>?_);refine with_tabW laws_FnSkip.tab23 laws_FnSkip.bits23 (fun HT_ HW_=>?_);generalize wc.drew=w126 at HO_9 HO_11 HO_86 HO_538000 HO_538001 HO_547000 HO_547001 HO_555000 HO_555001 BK537 BK538 BK546 BK554 BK565 HB hx569_0 hx569_1 hx569_2 hx569_3 hHeld ⊢;refine pu 0 114 (b_ 1 11) HT_.out ?_;refine pu 1 115 (b_ 2 10) HT_.out ?_;refine pu 2 116 (b_ 3 9) HT_.out ?_;refine pu 3 117 (b_ 4 8) HT_.out ?_;refine pu 4 118 (b_ 5 7) HT_.out ?_;refine pu 5 119 (b_ 6 6) HT_.out ?_;refine pu 6 120 (b_ 7 5) HT_.out ?_;refine pu 7 121 (b_ 8 4) HT_.out ?_;refine tk8 8 122 (b_ 9 3) HT_.out HW_.out hHeld ?_;refine tk8 9 123 (b_ 10 2) HT_.out HW_.out hHeld ?_;refine pu 10 124 (b_ 11 1) HT_.out ?_;refine pu 11 125 (b_ 12 0) HT_.out ?_;refine dn_ (dnO HT_.out (by kernel_rfl)) ?_
          try go_wp2
          go_meet
          case rel=>exact ⟨_,((!((((rd_T28 t555 x13_2).f0).toList) == ((rd_T28 t559 x88_2).f0).toList) || (!(((rd_T28 t555 x13_2).f1) == ((rd_T28 t559 x88_2).f1)) || (!(((rd_T28 t555 x13_2).f2) == ((rd_T28 t559 x88_2).f2)) || (!((((rd_T28 t555 x13_2).f3).toList) == ((rd_T28 t559 x88_2).f3).toList)))))),rs,H',⟨by have:=HJ34.out;have:=HK2.out;have:=HJ82.out;first|omega|exact Nat.le_refl _⟩,⟨kR HO_9⟩,⟨kR HO_11⟩,⟨kR HO_86⟩,⟨kQ HO_538000⟩,⟨kS HO_538001⟩,⟨kQ HO_547000⟩,⟨kS HO_547001⟩,⟨kQ HO_555000⟩,⟨kS HO_555001⟩,⟨bk BK537⟩,⟨bk BK538⟩,⟨bk BK546⟩,⟨bk BK554⟩,⟨bk BK565⟩,⟨bel⟩⟩
         case rest =>
          clear HC111
          try clear c2b0
          try clear c2b1
          try clear p2
          try clear p5 q5
          try clear hx5
          try clear c6b0
          try clear c6b1
          try clear c6b2
          try clear p6
          try clear p56 q56
          try clear hx56
          try clear p64
          try clear c67b0
          try clear c67b1
          try clear c80b0
          try clear c81b0
          try clear c82b0
          try clear c90b0
          try clear c90b1
          try clear c92b0
          try clear c93b0
          try clear c101b0
          try clear c101b1
          try clear c101b2
          try clear c121b0
          try clear c121b1
          try clear c124b0
          try clear c125b0
          try clear hcz106_0 hcz106_1 hcz106_2 hcz106_3 hfz106_0 hfz106_1 hfz106_2 hfz106_3
          try clear hcz110_0 hcz110_1 hcz110_2 hcz110_3 hfz110_0 hfz110_1 hfz110_2 hfz110_3
          try clear hcz116_0 hcz116_1 hcz116_2 hcz116_3 hfz116_0 hfz116_1 hfz116_2 hfz116_3
          try clear hcz120_0 hcz120_1 hcz120_2 hcz120_3 hfz120_0 hfz120_1 hfz120_2 hfz120_3
          try clear hcz12_0 hcz12_1 hfz12_0 hfz12_1
          try clear hcz14_0 hcz14_1 hcz14_2 hcz14_3 hfz14_0 hfz14_1 hfz14_2 hfz14_3
          try clear hcz20_0 hcz20_1 hfz20_0 hfz20_1
          try clear hcz22_0 hcz22_1 hfz22_0 hfz22_1
          try clear hcz23_0 hcz23_1 hcz23_2 hcz23_3 hfz23_0 hfz23_1 hfz23_2 hfz23_3
          try clear hcz30_0 hcz30_1 hfz30_0 hfz30_1
          try clear hcz41_0 hcz41_1 hfz41_0 hfz41_1
          try clear hcz43_0 hcz43_1 hcz43_2 hcz43_3 hfz43_0 hfz43_1 hfz43_2 hfz43_3
          try clear hcz49_0 hcz49_1 hfz49_0 hfz49_1
          try clear hcz51_0 hcz51_1 hfz51_0 hfz51_1
          try clear hcz52_0 hcz52_1 hcz52_2 hcz52_3 hfz52_0 hfz52_1 hfz52_2 hfz52_3
          try clear hcz59_0 hcz59_1 hfz59_0 hfz59_1
          try clear hcz61_0 hcz61_1 hfz61_0 hfz61_1
          try clear hcz63_0 hcz63_1 hfz63_0 hfz63_1
          try clear hcz74_0 hcz74_1 hfz74_0 hfz74_1
          try clear hcz89_0 hcz89_1 hcz89_2 hcz89_3 hfz89_0 hfz89_1 hfz89_2 hfz89_3
          try clear hx564_0 hx564_1 hx564_2 hx564_3
          try clear hx566_0 hx566_1 hx566_2 hx566_3
          try clear hx569_0 hx569_1 hx569_2 hx569_3
          try clear p564 q564
          try clear p566 q566
          try clear p569 q569
          obtain ⟨kq,x125_110,rfl,HA,HJ110,HO_9,HO_11,HO_86,HO_538000,HO_538001,HO_547000,HO_547001,HO_555000,HO_555001,BK537,BK538,BK546,BK554,BK565,HB⟩:=hcut
          cases kq with
          |zero=>exact absurd HA.out (by simp [laws_FnSkip.j4])
          |succ kj110 =>
           have H:=HA.out;clear HA;simp only [laws_FnSkip.j4] at H;by_cases c128:x125_110=true
           · subst c128
             replace H:=iP H;obtain rfl:=zI H;go_wp2;go_ret;exact ⟨re,bel⟩
           replace c128:=Bool.eq_false_iff.mpr c128;subst c128;replace H:=iN H;have H':=AsZ.mk H;clear H;go_wp2;go_roundg kj110
           case measure=>have:=HJ34.out;have:=HK2.out;have:=HJ82.out;have:=HJ110.out;omega
           case rel=>exact ⟨(wrap64 (x13_2 + 1)),(wrap64 (x88_2 + 1)),rs,rs,H',⟨by have:=HJ34.out;have:=HK2.out;have:=HJ82.out;have:=HJ110.out;omega⟩,⟨by (with_reducible repeat (first|apply Kd.R_alloc|apply Kd.R_drewN|apply Kd.R_drew));exact Kd.R_mono HO_9.out (fun _ hk=>⟨hk.1,⟨hk.2.1,hk.2.2.1⟩⟩)⟩,⟨by (with_reducible repeat (first|apply Kd.R_alloc|apply Kd.R_drewN|apply Kd.R_drew));exact Kd.R_mono HO_11.out (fun _ hk=>⟨hk.1,hk.2.1⟩)⟩,⟨by (with_reducible repeat (first|apply Kd.R_alloc|apply Kd.R_drewN|apply Kd.R_drew));exact Kd.R_mono HO_86.out (fun _ hk=>⟨hk.1,hk.2.1⟩)⟩,⟨kQ HO_538000⟩,⟨kS HO_538001⟩,⟨kQ HO_547000⟩,⟨kS HO_547001⟩,⟨kQ HO_555000⟩,⟨kS HO_555001⟩,⟨bk BK537⟩,⟨bk BK538⟩,⟨bk BK546⟩,⟨bk BK554⟩,⟨bel⟩⟩
     rw [if_neg c80] at H;have c80b0:=decide_eq_false c80;clear c80;have H':=AsZ.mk H;clear H;go_wp2
     go_loopg [18] k2 (fun kq v18 w' => ∃ (x18_3:Int),v18 = .int .i64 x18_3∧AsZ (laws_FnSkip.l1 kq x18_3 t539 t542=some r)∧AsZ (kq≤k2)∧AsZ (Kd.Q (Kd.int .i64) 3 w' w.heap.size (fun k_=>some k_ ≠ ((.slice Ao46 t539.length co46):Value).ownBlock∧some k_ ≠ ((.slice Ao55 t547.length co55):Value).ownBlock) (.slice Ao39 t527.length co39) t527)∧AsZ (Kd.S k77 77 w' w.heap.size (fun k_=>some k_ ≠ ((.slice Ao39 t527.length co39):Value).ownBlock∧some k_ ≠ ((.slice Ao46 t539.length co46):Value).ownBlock∧some k_ ≠ ((.slice Ao50 t542.length co50):Value).ownBlock∧some k_ ≠ ((.slice Ao55 t547.length co55):Value).ownBlock∧some k_ ≠ ((.slice Ao60 t550.length co60):Value).ownBlock) (.slice Ao42 t530.length co42) t530)∧AsZ (Kd.Q (Kd.int .i64) 3 w' w.heap.size (fun k_=>some k_ ≠ ((.slice Ao39 t527.length co39):Value).ownBlock∧some k_ ≠ ((.slice Ao55 t547.length co55):Value).ownBlock) (.slice Ao46 t539.length co46) t539)∧AsZ (Kd.S k77 77 w' w.heap.size (fun k_=>some k_ ≠ ((.slice Ao39 t527.length co39):Value).ownBlock∧some k_ ≠ ((.slice Ao42 t530.length co42):Value).ownBlock∧some k_ ≠ ((.slice Ao46 t539.length co46):Value).ownBlock∧some k_ ≠ ((.slice Ao55 t547.length co55):Value).ownBlock∧some k_ ≠ ((.slice Ao60 t550.length co60):Value).ownBlock) (.slice Ao50 t542.length co50) t542)∧AsZ (Kd.Q (Kd.int .i64) 3 w' w.heap.size (fun k_=>some k_ ≠ ((.slice Ao39 t527.length co39):Value).ownBlock∧some k_ ≠ ((.slice Ao46 t539.length co46):Value).ownBlock) (.slice Ao55 t547.length co55) t547)∧AsZ (Kd.S k77 77 w' w.heap.size (fun k_=>some k_ ≠ ((.slice Ao39 t527.length co39):Value).ownBlock∧some k_ ≠ ((.slice Ao42 t530.length co42):Value).ownBlock∧some k_ ≠ ((.slice Ao46 t539.length co46):Value).ownBlock∧some k_ ≠ ((.slice Ao50 t542.length co50):Value).ownBlock∧some k_ ≠ ((.slice Ao55 t547.length co55):Value).ownBlock) (.slice Ao60 t550.length co60) t550)∧AsZ (w'.heap[gb537]? = some (.cells #[(.slice Ao39 t527.length co39),(.slice Ao42 t530.length co42)] 26 (0,0)))∧AsZ (w'.heap[gb538]? = some (.cells #[.string t533,.int .i64 t534,.int .i64 t535,.string t536] 28 (0,0)))∧AsZ (w'.heap[gb546]? = some (.cells #[(.slice Ao46 t539.length co46),(.slice Ao50 t542.length co50)] 26 (0,0)))∧AsZ (w'.heap[gb554]? = some (.cells #[(.slice Ao55 t547.length co55),(.slice Ao60 t550.length co60)] 26 (0,0)))∧AsZ (Below w.heap.size w w'))
     case atStart=>exact ⟨(1),rs,H',⟨Nat.le_refl _⟩,⟨kQ HO_538000⟩,⟨kS HO_538001⟩,⟨kQ HO_547000⟩,⟨kS HO_547001⟩,⟨kQ HO_555000⟩,⟨kS HO_555001⟩,⟨bk BK537⟩,⟨bk BK538⟩,⟨bk BK546⟩,⟨bk BK554⟩,⟨bel⟩⟩
     case round =>
      clear H'
      try clear c2b0
      try clear c2b1
      try clear p2
      try clear p5 q5
      try clear hx5
      try clear c6b0
      try clear c6b1
      try clear c6b2
      try clear p6
      try clear p56 q56
      try clear hx56
      try clear p64
      try clear c67b0
      try clear c67b1
      try clear c80b0
      try clear c81b0
      try clear c82b0
      try clear c90b0
      try clear c90b1
      try clear c92b0
      try clear c93b0
      try clear c101b0
      try clear c101b1
      try clear c101b2
      try clear c121b0
      try clear c121b1
      try clear c124b0
      try clear c125b0
      try clear hcz106_0 hcz106_1 hcz106_2 hcz106_3 hfz106_0 hfz106_1 hfz106_2 hfz106_3
      try clear hcz110_0 hcz110_1 hcz110_2 hcz110_3 hfz110_0 hfz110_1 hfz110_2 hfz110_3
      try clear hcz116_0 hcz116_1 hcz116_2 hcz116_3 hfz116_0 hfz116_1 hfz116_2 hfz116_3
      try clear hcz120_0 hcz120_1 hcz120_2 hcz120_3 hfz120_0 hfz120_1 hfz120_2 hfz120_3
      try clear hcz12_0 hcz12_1 hfz12_0 hfz12_1
      try clear hcz14_0 hcz14_1 hcz14_2 hcz14_3 hfz14_0 hfz14_1 hfz14_2 hfz14_3
      try clear hcz20_0 hcz20_1 hfz20_0 hfz20_1
      try clear hcz22_0 hcz22_1 hfz22_0 hfz22_1
      try clear hcz23_0 hcz23_1 hcz23_2 hcz23_3 hfz23_0 hfz23_1 hfz23_2 hfz23_3
      try clear hcz30_0 hcz30_1 hfz30_0 hfz30_1
      try clear hcz41_0 hcz41_1 hfz41_0 hfz41_1
      try clear hcz43_0 hcz43_1 hcz43_2 hcz43_3 hfz43_0 hfz43_1 hfz43_2 hfz43_3
      try clear hcz49_0 hcz49_1 hfz49_0 hfz49_1
      try clear hcz51_0 hcz51_1 hfz51_0 hfz51_1
      try clear hcz52_0 hcz52_1 hcz52_2 hcz52_3 hfz52_0 hfz52_1 hfz52_2 hfz52_3
      try clear hcz59_0 hcz59_1 hfz59_0 hfz59_1
      try clear hcz61_0 hcz61_1 hfz61_0 hfz61_1
      try clear hcz63_0 hcz63_1 hfz63_0 hfz63_1
      try clear hcz74_0 hcz74_1 hfz74_0 hfz74_1
      try clear hcz89_0 hcz89_1 hcz89_2 hcz89_3 hfz89_0 hfz89_1 hfz89_2 hfz89_3
      try clear hx564_0 hx564_1 hx564_2 hx564_3
      try clear hx566_0 hx566_1 hx566_2 hx566_3
      try clear hx569_0 hx569_1 hx569_2 hx569_3
      try clear p564 q564
      try clear p566 q566
      try clear p569 q569
      obtain ⟨x18_3,rfl,HA,HK3,HO_538000,HO_538001,HO_547000,HO_547001,HO_555000,HO_555001,BK537,BK538,BK546,BK554,HB⟩:=hrel
      cases gk with
      |zero=>exact absurd HA.out (by simp [laws_FnSkip.l1])
      |succ k3 =>
       have H:=HA.out;clear HA;simp only [laws_FnSkip.l1] at H;by_cases c129:x18_3 < 5;rotate_left
       · rw [if_neg c129] at H
         have c129b0:=decide_eq_false c129;clear c129;obtain rfl:=zI H;go_wp2;go_ret;exact ⟨re,bel⟩
       rw [if_pos c129] at H;have c129b0:=zE c129;clear c129;replace H:=bs H;obtain ⟨⟨t570,t573⟩,A130,H⟩:=H;replace H:=bs H;obtain ⟨⟨t574,t577⟩,A131,H⟩:=H;have H':=AsZ.mk H;clear H;have hnb132:=NB546_537.out;have hnc132:=NB537_546.out;have hnb133:=NB546_538.out;have hnc133:=NB538_546.out;have hnb134:=NB546_554.out;have hnc134:=NB554_546.out;obtain ⟨hcz135_0,hcz135_1,hfz135_0,hfz135_1⟩:=bx2 BK546;go_wp2_with (first|((with_reducible refine gcl (f:=14) rfl ?_);refine gk (some 136) Tryd.func14 #[.agg #[.slice Ao46 t539.length co46,.slice Ao50 t542.length co50],.int .i64 x18_3] ?_;(with_reducible refine (impl_ListSkip.calls k3 _ _ t539 _ _ t542 x18_3 t570 t573 _ ?side1 ?side2 ?side3 ?side4 ?sideT A130.out).mono ?_);(case sideT=>exact tab_below HT.out (by repeat (first|(with_reducible first|exact HB.out|apply bwa|apply pbN|apply bw1|refine bws ?_ (AsZ.out (by assumption)))|exact HB.out)));(case side1=>exact cC (Kd.Q_reads' HO_547000.out).2.2);(case side2=>exact (Kd.Q_reads' HO_547000.out).2.1);(case side3=>exact cC (Kd.S_reads' HO_547001.out).2.2);(case side4=>exact (Kd.S_reads' HO_547001.out).2.1);rintro e w136 ⟨v571,rfl,ho0,hb⟩;refine ⟨_,rfl,?_⟩;have HO572:=AsZ.mk (Kd.R_lower (Kd.R_newB ho0 (bk BK538)) (bwz bel));replace HO_538000:=rQ HO_538000 hb;replace HO_538001:=rS HO_538001 hb;replace HO_547000:=rQ HO_547000 hb;replace HO_547001:=rS HO_547001 hb;replace HO_555000:=rQ HO_555000 hb;replace HO_555001:=rS HO_555001 hb;replace BK537:=bb BK537 hb;replace BK538:=bb BK538 hb;replace BK546:=bb BK546 hb;replace BK554:=bb BK554 hb;replace HB:=bp hb;(try clear hb);(try clear hb2);(try clear hk);(try clear hi);(try clear ho0);obtain ⟨hcz137_0,hcz137_1,hfz137_0,hfz137_1⟩:=bx2 BK546)|((with_reducible refine gcl (f:=14) rfl ?_);refine gk (some 143) Tryd.func14 #[.agg #[.slice Ao46 t539.length co46,.slice Ao50 t542.length co50],.int .i64 (wrap64 (x18_3 - 1))] ?_;(with_reducible refine (impl_ListSkip.calls k3 _ _ t539 _ _ t542 (wrap64 (x18_3 - 1)) t574 t577 _ ?side1 ?side2 ?side3 ?side4 ?sideT A131.out).mono ?_);(case sideT=>exact tab_below HT.out (by repeat (first|(with_reducible first|exact HB.out|apply bwa|apply pbN|apply bw1|refine bws ?_ (AsZ.out (by assumption)))|exact HB.out)));(case side1=>exact cC (Kd.Q_reads' HO_547000.out).2.2);(case side2=>exact (Kd.Q_reads' HO_547000.out).2.1);(case side3=>exact cC (Kd.S_reads' HO_547001.out).2.2);(case side4=>exact (Kd.S_reads' HO_547001.out).2.1);rintro e w138 ⟨v575,rfl,ho0,hb⟩;refine ⟨_,rfl,?_⟩;have HO576:=AsZ.mk (Kd.R_lower (Kd.R_newB (Kd.R_new' ho0 (Kd.R_lt (kR HO572))) (bk BK538)) (bwz bel));replace HO_538000:=rQ HO_538000 hb;replace HO_538001:=rS HO_538001 hb;replace HO_547000:=rQ HO_547000 hb;replace HO_547001:=rS HO_547001 hb;replace HO_555000:=rQ HO_555000 hb;replace HO_555001:=rS HO_555001 hb;replace HO572:=AsZ.mk (Kd.R_elder' (kR HO572) (Kd.R_base ho0) hb);replace BK537:=bb BK537 hb;replace BK538:=bb BK538 hb;replace BK546:=bb BK546 hb;replace BK554:=bb BK554 hb;replace HB:=bp hb;(try clear hb);(try clear hb2);(try clear hk);(try clear hi);(try clear ho0);obtain ⟨Ao139,co139,eo139⟩:=Kd.R_slice HO572.out;subst eo139))
       go_loopg [23,148] k3 (fun kq v23 v148 w' => ∃ (x23_4:Int) (x148_4:Int),v23 = .int .i64 x23_4∧v148 = .int .i64 x148_4∧AsZ (laws_FnSkip.l2 kq x18_3 t573 t574 t577 x23_4 t570 (t570.length:Int) x148_4 t539 t542=some r)∧AsZ (kq≤k3)∧AsZ (Kd.R k28 28 w' w.heap.size (fun k_=>some k_ ≠ ((.slice Ao139 t570.length co139):Value).ownBlock∧k_ ≠ gb538) v575 t574)∧AsZ (Kd.R k28 28 w' w.heap.size (fun k_=>some k_ ≠ (v575:Value).ownBlock∧k_ ≠ gb538) (.slice Ao139 t570.length co139) t570)∧AsZ (Kd.Q (Kd.int .i64) 3 w' w.heap.size (fun k_=>some k_ ≠ ((.slice Ao46 t539.length co46):Value).ownBlock∧some k_ ≠ ((.slice Ao55 t547.length co55):Value).ownBlock) (.slice Ao39 t527.length co39) t527)∧AsZ (Kd.S k77 77 w' w.heap.size (fun k_=>some k_ ≠ ((.slice Ao39 t527.length co39):Value).ownBlock∧some k_ ≠ ((.slice Ao46 t539.length co46):Value).ownBlock∧some k_ ≠ ((.slice Ao50 t542.length co50):Value).ownBlock∧some k_ ≠ ((.slice Ao55 t547.length co55):Value).ownBlock∧some k_ ≠ ((.slice Ao60 t550.length co60):Value).ownBlock) (.slice Ao42 t530.length co42) t530)∧AsZ (Kd.Q (Kd.int .i64) 3 w' w.heap.size (fun k_=>some k_ ≠ ((.slice Ao39 t527.length co39):Value).ownBlock∧some k_ ≠ ((.slice Ao55 t547.length co55):Value).ownBlock) (.slice Ao46 t539.length co46) t539)∧AsZ (Kd.S k77 77 w' w.heap.size (fun k_=>some k_ ≠ ((.slice Ao39 t527.length co39):Value).ownBlock∧some k_ ≠ ((.slice Ao42 t530.length co42):Value).ownBlock∧some k_ ≠ ((.slice Ao46 t539.length co46):Value).ownBlock∧some k_ ≠ ((.slice Ao55 t547.length co55):Value).ownBlock∧some k_ ≠ ((.slice Ao60 t550.length co60):Value).ownBlock) (.slice Ao50 t542.length co50) t542)∧AsZ (Kd.Q (Kd.int .i64) 3 w' w.heap.size (fun k_=>some k_ ≠ ((.slice Ao39 t527.length co39):Value).ownBlock∧some k_ ≠ ((.slice Ao46 t539.length co46):Value).ownBlock) (.slice Ao55 t547.length co55) t547)∧AsZ (Kd.S k77 77 w' w.heap.size (fun k_=>some k_ ≠ ((.slice Ao39 t527.length co39):Value).ownBlock∧some k_ ≠ ((.slice Ao42 t530.length co42):Value).ownBlock∧some k_ ≠ ((.slice Ao46 t539.length co46):Value).ownBlock∧some k_ ≠ ((.slice Ao50 t542.length co50):Value).ownBlock∧some k_ ≠ ((.slice Ao55 t547.length co55):Value).ownBlock) (.slice Ao60 t550.length co60) t550)∧AsZ (w'.heap[gb537]? = some (.cells #[(.slice Ao39 t527.length co39),(.slice Ao42 t530.length co42)] 26 (0,0)))∧AsZ (w'.heap[gb538]? = some (.cells #[.string t533,.int .i64 t534,.int .i64 t535,.string t536] 28 (0,0)))∧AsZ (w'.heap[gb546]? = some (.cells #[(.slice Ao46 t539.length co46),(.slice Ao50 t542.length co50)] 26 (0,0)))∧AsZ (w'.heap[gb554]? = some (.cells #[(.slice Ao55 t547.length co55),(.slice Ao60 t550.length co60)] 26 (0,0)))∧AsZ (Below w.heap.size w w'))
       case atStart=>exact ⟨(0),(0),rs,rs,H',⟨Nat.le_refl _⟩,⟨by (with_reducible repeat (first|apply Kd.R_alloc|apply Kd.R_drewN|apply Kd.R_drew));exact Kd.R_mono HO576.out (fun _ hk=>⟨hk.1.2,hk.2⟩)⟩,⟨by (with_reducible repeat (first|apply Kd.R_alloc|apply Kd.R_drewN|apply Kd.R_drew));exact Kd.R_mono HO572.out (fun _ hk=>⟨hk.2,hk.1.2⟩)⟩,⟨kQ HO_538000⟩,⟨kS HO_538001⟩,⟨kQ HO_547000⟩,⟨kS HO_547001⟩,⟨kQ HO_555000⟩,⟨kS HO_555001⟩,⟨bk BK537⟩,⟨bk BK538⟩,⟨bk BK546⟩,⟨bk BK554⟩,⟨bel⟩⟩
       case round =>
        clear H'
        try clear c2b0
        try clear c2b1
        try clear p2
        try clear p5 q5
        try clear hx5
        try clear c6b0
        try clear c6b1
        try clear c6b2
        try clear p6
        try clear p56 q56
        try clear hx56
        try clear p64
        try clear c67b0
        try clear c67b1
        try clear c80b0
        try clear c81b0
        try clear c82b0
        try clear c90b0
        try clear c90b1
        try clear c92b0
        try clear c93b0
        try clear c101b0
        try clear c101b1
        try clear c101b2
        try clear c121b0
        try clear c121b1
        try clear c124b0
        try clear c125b0
        try clear c129b0
        try clear hcz106_0 hcz106_1 hcz106_2 hcz106_3 hfz106_0 hfz106_1 hfz106_2 hfz106_3
        try clear hcz110_0 hcz110_1 hcz110_2 hcz110_3 hfz110_0 hfz110_1 hfz110_2 hfz110_3
        try clear hcz116_0 hcz116_1 hcz116_2 hcz116_3 hfz116_0 hfz116_1 hfz116_2 hfz116_3
        try clear hcz120_0 hcz120_1 hcz120_2 hcz120_3 hfz120_0 hfz120_1 hfz120_2 hfz120_3
        try clear hcz12_0 hcz12_1 hfz12_0 hfz12_1
        try clear hcz135_0 hcz135_1 hfz135_0 hfz135_1
        try clear hcz137_0 hcz137_1 hfz137_0 hfz137_1
        try clear hcz14_0 hcz14_1 hcz14_2 hcz14_3 hfz14_0 hfz14_1 hfz14_2 hfz14_3
        try clear hcz20_0 hcz20_1 hfz20_0 hfz20_1
        try clear hcz22_0 hcz22_1 hfz22_0 hfz22_1
        try clear hcz23_0 hcz23_1 hcz23_2 hcz23_3 hfz23_0 hfz23_1 hfz23_2 hfz23_3
        try clear hcz30_0 hcz30_1 hfz30_0 hfz30_1
        try clear hcz41_0 hcz41_1 hfz41_0 hfz41_1
        try clear hcz43_0 hcz43_1 hcz43_2 hcz43_3 hfz43_0 hfz43_1 hfz43_2 hfz43_3
        try clear hcz49_0 hcz49_1 hfz49_0 hfz49_1
        try clear hcz51_0 hcz51_1 hfz51_0 hfz51_1
        try clear hcz52_0 hcz52_1 hcz52_2 hcz52_3 hfz52_0 hfz52_1 hfz52_2 hfz52_3
        try clear hcz59_0 hcz59_1 hfz59_0 hfz59_1
        try clear hcz61_0 hcz61_1 hfz61_0 hfz61_1
        try clear hcz63_0 hcz63_1 hfz63_0 hfz63_1
        try clear hcz74_0 hcz74_1 hfz74_0 hfz74_1
        try clear hcz89_0 hcz89_1 hcz89_2 hcz89_3 hfz89_0 hfz89_1 hfz89_2 hfz89_3
        try clear hx564_0 hx564_1 hx564_2 hx564_3
        try clear hx566_0 hx566_1 hx566_2 hx566_3
        try clear hx569_0 hx569_1 hx569_2 hx569_3
        try clear p564 q564
        try clear p566 q566
        try clear p569 q569
        obtain ⟨x23_4,x148_4,rfl,rfl,HA,HK4,HO_21,HO_146,HO_538000,HO_538001,HO_547000,HO_547001,HO_555000,HO_555001,BK537,BK538,BK546,BK554,HB⟩:=hrel
        cases gk with
        |zero=>exact absurd HA.out (by simp [laws_FnSkip.l2])
        |succ k4 =>
         have H:=HA.out;clear HA;simp only [laws_FnSkip.l2] at H;by_cases c140:x148_4 < (t570.length:Int);rotate_left
         · rw [if_neg c140] at H
           have c140b0:=decide_eq_false c140;clear c140;have HC171:=AsZ.mk H;clear H;go_upto_region 42 with (fail)
           go_cut [193] (fun v193 wc => ∃ (kq:Nat) (x193_170:Bool),v193 = .bool x193_170∧AsZ (laws_FnSkip.j10 kq x18_3 x193_170 t539 t542=some r)∧AsZ (kq≤k4)∧AsZ (Kd.Q (Kd.int .i64) 3 wc w.heap.size (fun k_=>some k_ ≠ ((.slice Ao46 t539.length co46):Value).ownBlock∧some k_ ≠ ((.slice Ao55 t547.length co55):Value).ownBlock) (.slice Ao39 t527.length co39) t527)∧AsZ (Kd.S k77 77 wc w.heap.size (fun k_=>some k_ ≠ ((.slice Ao39 t527.length co39):Value).ownBlock∧some k_ ≠ ((.slice Ao46 t539.length co46):Value).ownBlock∧some k_ ≠ ((.slice Ao50 t542.length co50):Value).ownBlock∧some k_ ≠ ((.slice Ao55 t547.length co55):Value).ownBlock∧some k_ ≠ ((.slice Ao60 t550.length co60):Value).ownBlock) (.slice Ao42 t530.length co42) t530)∧AsZ (Kd.Q (Kd.int .i64) 3 wc w.heap.size (fun k_=>some k_ ≠ ((.slice Ao39 t527.length co39):Value).ownBlock∧some k_ ≠ ((.slice Ao55 t547.length co55):Value).ownBlock) (.slice Ao46 t539.length co46) t539)∧AsZ (Kd.S k77 77 wc w.heap.size (fun k_=>some k_ ≠ ((.slice Ao39 t527.length co39):Value).ownBlock∧some k_ ≠ ((.slice Ao42 t530.length co42):Value).ownBlock∧some k_ ≠ ((.slice Ao46 t539.length co46):Value).ownBlock∧some k_ ≠ ((.slice Ao55 t547.length co55):Value).ownBlock∧some k_ ≠ ((.slice Ao60 t550.length co60):Value).ownBlock) (.slice Ao50 t542.length co50) t542)∧AsZ (Kd.Q (Kd.int .i64) 3 wc w.heap.size (fun k_=>some k_ ≠ ((.slice Ao39 t527.length co39):Value).ownBlock∧some k_ ≠ ((.slice Ao46 t539.length co46):Value).ownBlock) (.slice Ao55 t547.length co55) t547)∧AsZ (Kd.S k77 77 wc w.heap.size (fun k_=>some k_ ≠ ((.slice Ao39 t527.length co39):Value).ownBlock∧some k_ ≠ ((.slice Ao42 t530.length co42):Value).ownBlock∧some k_ ≠ ((.slice Ao46 t539.length co46):Value).ownBlock∧some k_ ≠ ((.slice Ao50 t542.length co50):Value).ownBlock∧some k_ ≠ ((.slice Ao55 t547.length co55):Value).ownBlock) (.slice Ao60 t550.length co60) t550)∧AsZ (wc.heap[gb537]? = some (.cells #[(.slice Ao39 t527.length co39),(.slice Ao42 t530.length co42)] 26 (0,0)))∧AsZ (wc.heap[gb538]? = some (.cells #[.string t533,.int .i64 t534,.int .i64 t535,.string t536] 28 (0,0)))∧AsZ (wc.heap[gb546]? = some (.cells #[(.slice Ao46 t539.length co46),(.slice Ao50 t542.length co50)] 26 (0,0)))∧AsZ (wc.heap[gb554]? = some (.cells #[(.slice Ao55 t547.length co55),(.slice Ao60 t550.length co60)] 26 (0,0)))∧AsZ (Below w.heap.size w wc))
           case first =>
            have H:=HC171.out;clear HC171;by_cases c172:t573=true
            · subst c172
              replace H:=iP H;have H':=AsZ.mk H;clear H;go_wp2;go_meet
              case rel=>exact ⟨_,(!t577),rs,H',⟨by have:=HJ34.out;have:=HK2.out;have:=HK3.out;have:=HK4.out;first|omega|exact Nat.le_refl _⟩,⟨kQ HO_538000⟩,⟨kS HO_538001⟩,⟨kQ HO_547000⟩,⟨kS HO_547001⟩,⟨kQ HO_555000⟩,⟨kS HO_555001⟩,⟨bk BK537⟩,⟨bk BK538⟩,⟨bk BK546⟩,⟨bk BK554⟩,⟨bel⟩⟩
            replace c172:=Bool.eq_false_iff.mpr c172;subst c172;replace H:=iN H;have H':=AsZ.mk H;clear H;go_wp2;go_meet
            case rel=>exact ⟨_,(true),rs,H',⟨by have:=HJ34.out;have:=HK2.out;have:=HK3.out;have:=HK4.out;first|omega|exact Nat.le_refl _⟩,⟨kQ HO_538000⟩,⟨kS HO_538001⟩,⟨kQ HO_547000⟩,⟨kS HO_547001⟩,⟨kQ HO_555000⟩,⟨kS HO_555001⟩,⟨bk BK537⟩,⟨bk BK538⟩,⟨bk BK546⟩,⟨bk BK554⟩,⟨bel⟩⟩
           case rest =>
            clear HC171
            try clear c2b0
            try clear c2b1
            try clear p2
            try clear p5 q5
            try clear hx5
            try clear c6b0
            try clear c6b1
            try clear c6b2
            try clear p6
            try clear p56 q56
            try clear hx56
            try clear p57 q57
            try clear hx57
            try clear p58 q58
            try clear hx58
            try clear p64
            try clear c67b0
            try clear c67b1
            try clear c80b0
            try clear c81b0
            try clear c82b0
            try clear c90b0
            try clear c90b1
            try clear c92b0
            try clear c93b0
            try clear c101b0
            try clear c101b1
            try clear c101b2
            try clear c121b0
            try clear c121b1
            try clear c124b0
            try clear c125b0
            try clear c129b0
            try clear c140b0
            try clear c141b0
            try clear c142b0
            try clear c150b0
            try clear c150b1
            try clear c151b0
            try clear c165b0
            try clear c165b1
            try clear hcz106_0 hcz106_1 hcz106_2 hcz106_3 hfz106_0 hfz106_1 hfz106_2 hfz106_3
            try clear hcz110_0 hcz110_1 hcz110_2 hcz110_3 hfz110_0 hfz110_1 hfz110_2 hfz110_3
            try clear hcz116_0 hcz116_1 hcz116_2 hcz116_3 hfz116_0 hfz116_1 hfz116_2 hfz116_3
            try clear hcz120_0 hcz120_1 hcz120_2 hcz120_3 hfz120_0 hfz120_1 hfz120_2 hfz120_3
            try clear hcz12_0 hcz12_1 hfz12_0 hfz12_1
            try clear hcz135_0 hcz135_1 hfz135_0 hfz135_1
            try clear hcz137_0 hcz137_1 hfz137_0 hfz137_1
            try clear hcz148_0 hcz148_1 hcz148_2 hcz148_3 hfz148_0 hfz148_1 hfz148_2 hfz148_3
            try clear hcz14_0 hcz14_1 hcz14_2 hcz14_3 hfz14_0 hfz14_1 hfz14_2 hfz14_3
            try clear hcz163_0 hcz163_1 hcz163_2 hcz163_3 hfz163_0 hfz163_1 hfz163_2 hfz163_3
            try clear hcz20_0 hcz20_1 hfz20_0 hfz20_1
            try clear hcz22_0 hcz22_1 hfz22_0 hfz22_1
            try clear hcz23_0 hcz23_1 hcz23_2 hcz23_3 hfz23_0 hfz23_1 hfz23_2 hfz23_3
            try clear hcz30_0 hcz30_1 hfz30_0 hfz30_1
            try clear hcz41_0 hcz41_1 hfz41_0 hfz41_1
            try clear hcz43_0 hcz43_1 hcz43_2 hcz43_3 hfz43_0 hfz43_1 hfz43_2 hfz43_3
            try clear hcz49_0 hcz49_1 hfz49_0 hfz49_1
            try clear hcz51_0 hcz51_1 hfz51_0 hfz51_1
            try clear hcz52_0 hcz52_1 hcz52_2 hcz52_3 hfz52_0 hfz52_1 hfz52_2 hfz52_3
            try clear hcz59_0 hcz59_1 hfz59_0 hfz59_1
            try clear hcz61_0 hcz61_1 hfz61_0 hfz61_1
            try clear hcz63_0 hcz63_1 hfz63_0 hfz63_1
            try clear hcz74_0 hcz74_1 hfz74_0 hfz74_1
            try clear hcz89_0 hcz89_1 hcz89_2 hcz89_3 hfz89_0 hfz89_1 hfz89_2 hfz89_3
            try clear hx564_0 hx564_1 hx564_2 hx564_3
            try clear hx566_0 hx566_1 hx566_2 hx566_3
            try clear hx569_0 hx569_1 hx569_2 hx569_3
            try clear hx578_0 hx578_1 hx578_2 hx578_3
            try clear hx580_0 hx580_1 hx580_2 hx580_3
            try clear p564 q564
            try clear p566 q566
            try clear p569 q569
            try clear p578 q578
            try clear p580 q580
            obtain ⟨kq,x193_170,rfl,HA,HJ170,HO_538000,HO_538001,HO_547000,HO_547001,HO_555000,HO_555001,BK537,BK538,BK546,BK554,HB⟩:=hcut
            cases kq with
            |zero=>exact absurd HA.out (by simp [laws_FnSkip.j10])
            |succ kj170 =>
             have H:=HA.out;clear HA;simp only [laws_FnSkip.j10] at H;by_cases c173:x193_170=true
             · subst c173
               replace H:=iP H;obtain rfl:=zI H;go_wp2;go_ret;exact ⟨re,bel⟩
             replace c173:=Bool.eq_false_iff.mpr c173;subst c173;replace H:=iN H;have H':=AsZ.mk H;clear H;go_wp2;go_roundg kj170
             case measure=>have:=HJ34.out;have:=HK2.out;have:=HK3.out;have:=HK4.out;have:=HJ170.out;omega
             case rel=>exact ⟨(wrap64 (x18_3 + 1)),rs,H',⟨by have:=HJ34.out;have:=HK2.out;have:=HK3.out;have:=HK4.out;have:=HJ170.out;omega⟩,⟨kQ HO_538000⟩,⟨kS HO_538001⟩,⟨kQ HO_547000⟩,⟨kS HO_547001⟩,⟨kQ HO_555000⟩,⟨kS HO_555001⟩,⟨bk BK537⟩,⟨bk BK538⟩,⟨bk BK546⟩,⟨bk BK554⟩,⟨bel⟩⟩
         rw [if_pos c140] at H;have c140b0:=zE c140;clear c140;by_cases c141:0≤x148_4;rotate_left
         · rw [if_neg c141] at H
           exact absurd H (by simp)
         rw [if_pos c141] at H;have c141b0:=zE c141;clear c141;by_cases c142:x148_4 < (t570.length:Int);rotate_left
         · rw [if_neg c142] at H
           exact absurd H (by simp)
         rw [if_pos c142] at H;have c142b0:=zE c142;clear c142;have H':=AsZ.mk H;clear H;have p578:0≤(x148_4:Int):=dd;have q578:x148_4 < (t570.length:Int):=dd;obtain ⟨ad578,e578,hx578_0,hx578_1,hx578_2,hx578_3⟩:=at_T28 (Kd.R_reads' HO_146.out).2.2 x148_4 p578 q578;cases e578;replace p578:=eq_true p578;replace q578:=eq_true q578;go_wp2_with (first|((with_reducible refine gate_dst (N:=25) rfl ?_);(try (refine gate_guard (by rfl) ?_;dsimp only));refine bev 25 28 (cs:=#[.string (⟨#[]⟩:ByteArray),.int .i64 0,.int .i64 0,.string (⟨#[]⟩:ByteArray)]) ?_;intro gb579 hg w143 hbox hb;have BK579:=AsZ.mk (hbox);have GW579:=gz HB hg;have GE579:=gz HB hg;have NB537_579:=nl BK537 hg;have NB579_537:=nr BK537 hg;have NB538_579:=nl BK538 hg;have NB579_538:=nr BK538 hg;have NB546_579:=nl BK546 hg;have NB579_546:=nr BK546 hg;have NB554_579:=nl BK554 hg;have NB579_554:=nr BK554 hg;replace HO_21:=AsZ.mk (Kd.R_below (Kd.R_elderB (kR HO_21) gb579 (Nat.le_of_eq hg.symm)) hb);replace HO_146:=AsZ.mk (Kd.R_below (Kd.R_elderB (kR HO_146) gb579 (Nat.le_of_eq hg.symm)) hb);replace HO_538000:=rQ HO_538000 hb;replace HO_538001:=rS HO_538001 hb;replace HO_547000:=rQ HO_547000 hb;replace HO_547001:=rS HO_547001 hb;replace HO_555000:=rQ HO_555000 hb;replace HO_555001:=rS HO_555001 hb;replace BK537:=bb BK537 hb;replace BK538:=bb BK538 hb;replace BK546:=bb BK546 hb;replace BK554:=bb BK554 hb;replace HB:=bp hb;clear hb hbox hg;have hnb144:=NB579_537.out;have hnc144:=NB537_579.out;have hnb145:=NB579_538.out;have hnc145:=NB538_579.out;have hnb146:=NB579_546.out;have hnc146:=NB546_579.out;have hnb147:=NB579_554.out;have hnc147:=NB554_579.out;obtain ⟨hcz148_0,hcz148_1,hcz148_2,hcz148_3,hfz148_0,hfz148_1,hfz148_2,hfz148_3⟩:=bx4 BK579))
         go_loopg [23] k4 (fun kq v23 w' => ∃ (x23_5:Int),v23 = .int .i64 x23_5∧AsZ (laws_FnSkip.l3 kq x18_3 t573 t574 t577 x23_5 t570 (t570.length:Int) x148_4 t539 t542 ((rd_T28 t570 x148_4).f0) ((rd_T28 t570 x148_4).f1) ((rd_T28 t570 x148_4).f2) ((rd_T28 t570 x148_4).f3)=some r)∧AsZ (kq≤k4)∧AsZ (Kd.R k28 28 w' w.heap.size (fun k_=>some k_ ≠ ((.slice (some ad578) t570.length co139):Value).ownBlock∧k_ ≠ gb538∧k_ ≠ gb579) v575 t574)∧AsZ (Kd.R k28 28 w' w.heap.size (fun k_=>some k_ ≠ (v575:Value).ownBlock∧k_ ≠ gb538∧k_ ≠ gb579) (.slice (some ad578) t570.length co139) t570)∧AsZ (Kd.Q (Kd.int .i64) 3 w' w.heap.size (fun k_=>some k_ ≠ ((.slice Ao46 t539.length co46):Value).ownBlock∧some k_ ≠ ((.slice Ao55 t547.length co55):Value).ownBlock) (.slice Ao39 t527.length co39) t527)∧AsZ (Kd.S k77 77 w' w.heap.size (fun k_=>some k_ ≠ ((.slice Ao39 t527.length co39):Value).ownBlock∧some k_ ≠ ((.slice Ao46 t539.length co46):Value).ownBlock∧some k_ ≠ ((.slice Ao50 t542.length co50):Value).ownBlock∧some k_ ≠ ((.slice Ao55 t547.length co55):Value).ownBlock∧some k_ ≠ ((.slice Ao60 t550.length co60):Value).ownBlock) (.slice Ao42 t530.length co42) t530)∧AsZ (Kd.Q (Kd.int .i64) 3 w' w.heap.size (fun k_=>some k_ ≠ ((.slice Ao39 t527.length co39):Value).ownBlock∧some k_ ≠ ((.slice Ao55 t547.length co55):Value).ownBlock) (.slice Ao46 t539.length co46) t539)∧AsZ (Kd.S k77 77 w' w.heap.size (fun k_=>some k_ ≠ ((.slice Ao39 t527.length co39):Value).ownBlock∧some k_ ≠ ((.slice Ao42 t530.length co42):Value).ownBlock∧some k_ ≠ ((.slice Ao46 t539.length co46):Value).ownBlock∧some k_ ≠ ((.slice Ao55 t547.length co55):Value).ownBlock∧some k_ ≠ ((.slice Ao60 t550.length co60):Value).ownBlock) (.slice Ao50 t542.length co50) t542)∧AsZ (Kd.Q (Kd.int .i64) 3 w' w.heap.size (fun k_=>some k_ ≠ ((.slice Ao39 t527.length co39):Value).ownBlock∧some k_ ≠ ((.slice Ao46 t539.length co46):Value).ownBlock) (.slice Ao55 t547.length co55) t547)∧AsZ (Kd.S k77 77 w' w.heap.size (fun k_=>some k_ ≠ ((.slice Ao39 t527.length co39):Value).ownBlock∧some k_ ≠ ((.slice Ao42 t530.length co42):Value).ownBlock∧some k_ ≠ ((.slice Ao46 t539.length co46):Value).ownBlock∧some k_ ≠ ((.slice Ao50 t542.length co50):Value).ownBlock∧some k_ ≠ ((.slice Ao55 t547.length co55):Value).ownBlock) (.slice Ao60 t550.length co60) t550)∧AsZ (w'.heap[gb537]? = some (.cells #[(.slice Ao39 t527.length co39),(.slice Ao42 t530.length co42)] 26 (0,0)))∧AsZ (w'.heap[gb538]? = some (.cells #[.string t533,.int .i64 t534,.int .i64 t535,.string t536] 28 (0,0)))∧AsZ (w'.heap[gb546]? = some (.cells #[(.slice Ao46 t539.length co46),(.slice Ao50 t542.length co50)] 26 (0,0)))∧AsZ (w'.heap[gb554]? = some (.cells #[(.slice Ao55 t547.length co55),(.slice Ao60 t550.length co60)] 26 (0,0)))∧AsZ (w'.heap[gb579]? = some (.cells #[.string ((rd_T28 t570 x148_4).f0),.int .i64 ((rd_T28 t570 x148_4).f1),.int .i64 ((rd_T28 t570 x148_4).f2),.string ((rd_T28 t570 x148_4).f3)] 28 (0,0)))∧AsZ (Below w.heap.size w w'))
         case atStart=>exact ⟨(x23_4),rs,H',⟨Nat.le_refl _⟩,⟨by (with_reducible repeat (first|apply Kd.R_alloc|apply Kd.R_drewN|apply Kd.R_drew));exact Kd.R_mono (fR (fR (fR (fR (Kd.R_mono HO_21.out (fun k_ hk=>(⟨hk,hk.2⟩:_∧k_ ≠ gb579))))))) (fun _ hk=>⟨hk.1.1.1,⟨hk.1.1.2,hk.1.2⟩⟩)⟩,⟨by (with_reducible repeat (first|apply Kd.R_alloc|apply Kd.R_drewN|apply Kd.R_drew));exact Kd.R_mono (fR (fR (fR (fR (Kd.R_mono HO_146.out (fun k_ hk=>(⟨hk,hk.2⟩:_∧k_ ≠ gb579))))))) (fun _ hk=>⟨hk.1.1.1,⟨hk.1.1.2,hk.1.2⟩⟩)⟩,⟨by (with_reducible repeat (first|apply Kd.Q_alloc|apply Kd.Q_drewN|apply Kd.Q_drew));exact Kd.Q_mono (fQ (fQ (fQ (fQ (Kd.Q_types HO_538000.out BK579.out (by decide)))))) (fun _ hk=>⟨hk.1.1,hk.1.2⟩)⟩,⟨by (with_reducible repeat (first|apply Kd.S_alloc|apply Kd.S_drewN|apply Kd.S_drew));exact Kd.S_mono (fS (fS (fS (fS (Kd.S_types HO_538001.out BK579.out (by decide)))))) (fun _ hk=>⟨hk.1.1,⟨hk.1.2.1,⟨hk.1.2.2.1,⟨hk.1.2.2.2.1,hk.1.2.2.2.2⟩⟩⟩⟩)⟩,⟨by (with_reducible repeat (first|apply Kd.Q_alloc|apply Kd.Q_drewN|apply Kd.Q_drew));exact Kd.Q_mono (fQ (fQ (fQ (fQ (Kd.Q_types HO_547000.out BK579.out (by decide)))))) (fun _ hk=>⟨hk.1.1,hk.1.2⟩)⟩,⟨by (with_reducible repeat (first|apply Kd.S_alloc|apply Kd.S_drewN|apply Kd.S_drew));exact Kd.S_mono (fS (fS (fS (fS (Kd.S_types HO_547001.out BK579.out (by decide)))))) (fun _ hk=>⟨hk.1.1,⟨hk.1.2.1,⟨hk.1.2.2.1,⟨hk.1.2.2.2.1,hk.1.2.2.2.2⟩⟩⟩⟩)⟩,⟨by (with_reducible repeat (first|apply Kd.Q_alloc|apply Kd.Q_drewN|apply Kd.Q_drew));exact Kd.Q_mono (fQ (fQ (fQ (fQ (Kd.Q_types HO_555000.out BK579.out (by decide)))))) (fun _ hk=>⟨hk.1.1,hk.1.2⟩)⟩,⟨by (with_reducible repeat (first|apply Kd.S_alloc|apply Kd.S_drewN|apply Kd.S_drew));exact Kd.S_mono (fS (fS (fS (fS (Kd.S_types HO_555001.out BK579.out (by decide)))))) (fun _ hk=>⟨hk.1.1,⟨hk.1.2.1,⟨hk.1.2.2.1,⟨hk.1.2.2.2.1,hk.1.2.2.2.2⟩⟩⟩⟩)⟩,⟨bq BK537⟩,⟨bq BK538⟩,⟨bq BK546⟩,⟨bq BK554⟩,⟨bq BK579⟩,⟨bel⟩⟩
         case round =>
          clear H'
          try clear c2b0
          try clear c2b1
          try clear p2
          try clear p5 q5
          try clear hx5
          try clear c6b0
          try clear c6b1
          try clear c6b2
          try clear p6
          try clear p56 q56
          try clear hx56
          try clear p57 q57
          try clear hx57
          try clear p64
          try clear c67b0
          try clear c67b1
          try clear c80b0
          try clear c81b0
          try clear c82b0
          try clear c90b0
          try clear c90b1
          try clear c92b0
          try clear c93b0
          try clear c101b0
          try clear c101b1
          try clear c101b2
          try clear c121b0
          try clear c121b1
          try clear c124b0
          try clear c125b0
          try clear c129b0
          try clear c140b0
          try clear c141b0
          try clear c142b0
          try clear hcz106_0 hcz106_1 hcz106_2 hcz106_3 hfz106_0 hfz106_1 hfz106_2 hfz106_3
          try clear hcz110_0 hcz110_1 hcz110_2 hcz110_3 hfz110_0 hfz110_1 hfz110_2 hfz110_3
          try clear hcz116_0 hcz116_1 hcz116_2 hcz116_3 hfz116_0 hfz116_1 hfz116_2 hfz116_3
          try clear hcz120_0 hcz120_1 hcz120_2 hcz120_3 hfz120_0 hfz120_1 hfz120_2 hfz120_3
          try clear hcz12_0 hcz12_1 hfz12_0 hfz12_1
          try clear hcz135_0 hcz135_1 hfz135_0 hfz135_1
          try clear hcz137_0 hcz137_1 hfz137_0 hfz137_1
          try clear hcz148_0 hcz148_1 hcz148_2 hcz148_3 hfz148_0 hfz148_1 hfz148_2 hfz148_3
          try clear hcz14_0 hcz14_1 hcz14_2 hcz14_3 hfz14_0 hfz14_1 hfz14_2 hfz14_3
          try clear hcz20_0 hcz20_1 hfz20_0 hfz20_1
          try clear hcz22_0 hcz22_1 hfz22_0 hfz22_1
          try clear hcz23_0 hcz23_1 hcz23_2 hcz23_3 hfz23_0 hfz23_1 hfz23_2 hfz23_3
          try clear hcz30_0 hcz30_1 hfz30_0 hfz30_1
          try clear hcz41_0 hcz41_1 hfz41_0 hfz41_1
          try clear hcz43_0 hcz43_1 hcz43_2 hcz43_3 hfz43_0 hfz43_1 hfz43_2 hfz43_3
          try clear hcz49_0 hcz49_1 hfz49_0 hfz49_1
          try clear hcz51_0 hcz51_1 hfz51_0 hfz51_1
          try clear hcz52_0 hcz52_1 hcz52_2 hcz52_3 hfz52_0 hfz52_1 hfz52_2 hfz52_3
          try clear hcz59_0 hcz59_1 hfz59_0 hfz59_1
          try clear hcz61_0 hcz61_1 hfz61_0 hfz61_1
          try clear hcz63_0 hcz63_1 hfz63_0 hfz63_1
          try clear hcz74_0 hcz74_1 hfz74_0 hfz74_1
          try clear hcz89_0 hcz89_1 hcz89_2 hcz89_3 hfz89_0 hfz89_1 hfz89_2 hfz89_3
          try clear hx564_0 hx564_1 hx564_2 hx564_3
          try clear hx566_0 hx566_1 hx566_2 hx566_3
          try clear hx569_0 hx569_1 hx569_2 hx569_3
          try clear hx578_0 hx578_1 hx578_2 hx578_3
          try clear p564 q564
          try clear p566 q566
          try clear p569 q569
          try clear p578 q578
          obtain ⟨x23_5,rfl,HA,HK5,HO_21,HO_146,HO_538000,HO_538001,HO_547000,HO_547001,HO_555000,HO_555001,BK537,BK538,BK546,BK554,BK579,HB⟩:=hrel
          cases gk with
          |zero=>exact absurd HA.out (by simp [laws_FnSkip.l3])
          |succ k5 =>
           have H:=HA.out;clear HA;simp only [laws_FnSkip.l3] at H;have HC149:=AsZ.mk H;clear H;go_upto_region 36 with (fail)
           go_cut [163] (fun v163 wc => ∃ (kq:Nat) (x163_148:Bool),v163 = .bool x163_148∧AsZ (laws_FnSkip.j8 kq x18_3 t573 t574 t577 x23_5 t570 (t570.length:Int) x148_4 x163_148 t539 t542 ((rd_T28 t570 x148_4).f0) ((rd_T28 t570 x148_4).f1) ((rd_T28 t570 x148_4).f2) ((rd_T28 t570 x148_4).f3)=some r)∧AsZ (kq≤k5)∧AsZ (Kd.R k28 28 wc w.heap.size (fun k_=>some k_ ≠ ((.slice (some ad578) t570.length co139):Value).ownBlock∧k_ ≠ gb538∧k_ ≠ gb579) v575 t574)∧AsZ (Kd.R k28 28 wc w.heap.size (fun k_=>some k_ ≠ (v575:Value).ownBlock∧k_ ≠ gb538∧k_ ≠ gb579) (.slice (some ad578) t570.length co139) t570)∧AsZ (Kd.Q (Kd.int .i64) 3 wc w.heap.size (fun k_=>some k_ ≠ ((.slice Ao46 t539.length co46):Value).ownBlock∧some k_ ≠ ((.slice Ao55 t547.length co55):Value).ownBlock) (.slice Ao39 t527.length co39) t527)∧AsZ (Kd.S k77 77 wc w.heap.size (fun k_=>some k_ ≠ ((.slice Ao39 t527.length co39):Value).ownBlock∧some k_ ≠ ((.slice Ao46 t539.length co46):Value).ownBlock∧some k_ ≠ ((.slice Ao50 t542.length co50):Value).ownBlock∧some k_ ≠ ((.slice Ao55 t547.length co55):Value).ownBlock∧some k_ ≠ ((.slice Ao60 t550.length co60):Value).ownBlock) (.slice Ao42 t530.length co42) t530)∧AsZ (Kd.Q (Kd.int .i64) 3 wc w.heap.size (fun k_=>some k_ ≠ ((.slice Ao39 t527.length co39):Value).ownBlock∧some k_ ≠ ((.slice Ao55 t547.length co55):Value).ownBlock) (.slice Ao46 t539.length co46) t539)∧AsZ (Kd.S k77 77 wc w.heap.size (fun k_=>some k_ ≠ ((.slice Ao39 t527.length co39):Value).ownBlock∧some k_ ≠ ((.slice Ao42 t530.length co42):Value).ownBlock∧some k_ ≠ ((.slice Ao46 t539.length co46):Value).ownBlock∧some k_ ≠ ((.slice Ao55 t547.length co55):Value).ownBlock∧some k_ ≠ ((.slice Ao60 t550.length co60):Value).ownBlock) (.slice Ao50 t542.length co50) t542)∧AsZ (Kd.Q (Kd.int .i64) 3 wc w.heap.size (fun k_=>some k_ ≠ ((.slice Ao39 t527.length co39):Value).ownBlock∧some k_ ≠ ((.slice Ao46 t539.length co46):Value).ownBlock) (.slice Ao55 t547.length co55) t547)∧AsZ (Kd.S k77 77 wc w.heap.size (fun k_=>some k_ ≠ ((.slice Ao39 t527.length co39):Value).ownBlock∧some k_ ≠ ((.slice Ao42 t530.length co42):Value).ownBlock∧some k_ ≠ ((.slice Ao46 t539.length co46):Value).ownBlock∧some k_ ≠ ((.slice Ao50 t542.length co50):Value).ownBlock∧some k_ ≠ ((.slice Ao55 t547.length co55):Value).ownBlock) (.slice Ao60 t550.length co60) t550)∧AsZ (wc.heap[gb537]? = some (.cells #[(.slice Ao39 t527.length co39),(.slice Ao42 t530.length co42)] 26 (0,0)))∧AsZ (wc.heap[gb538]? = some (.cells #[.string t533,.int .i64 t534,.int .i64 t535,.string t536] 28 (0,0)))∧AsZ (wc.heap[gb546]? = some (.cells #[(.slice Ao46 t539.length co46),(.slice Ao50 t542.length co50)] 26 (0,0)))∧AsZ (wc.heap[gb554]? = some (.cells #[(.slice Ao55 t547.length co55),(.slice Ao60 t550.length co60)] 26 (0,0)))∧AsZ (wc.heap[gb579]? = some (.cells #[.string ((rd_T28 t570 x148_4).f0),.int .i64 ((rd_T28 t570 x148_4).f1),.int .i64 ((rd_T28 t570 x148_4).f2),.string ((rd_T28 t570 x148_4).f3)] 28 (0,0)))∧AsZ (Below w.heap.size w wc))
           case first =>
            have H:=HC149.out;clear HC149;by_cases c150:x23_5 < (t574.length:Int);rotate_left
            · rw [if_neg c150] at H
              have c150b0:=decide_eq_false c150;clear c150;(first|rw [c150b0]|(simp only [i64_w,i32_w];rw [c150b0])|rw [c150b1]|skip);have H':=AsZ.mk H;clear H
              try go_wp2
              replace HO_21:=dR HO_21;replace HO_146:=dR HO_146;replace HO_538000:=dQ HO_538000;replace HO_538001:=dS HO_538001;replace HO_547000:=dQ HO_547000;replace HO_547001:=dS HO_547001;replace HO_555000:=dQ HO_555000;replace HO_555001:=dS HO_555001;replace BK537:=db BK537;replace BK538:=db BK538;replace BK546:=db BK546;replace BK554:=db BK554;replace BK579:=db BK579;replace HB:=dB HB;obtain ⟨Ao155,co155,eo155⟩:=Kd.R_slice HO_21.out;(first|subst eo155|(injection eo155 with f1_ f2_ f3_;have f4_:=f1_.symm;have f5_:=f3_.symm;clear f1_ f2_ f3_;subst f4_;subst f5_));refine start_ (n:=12) (S:=fun w'=>True) (ds:=[]) (b_ 0 12) (by kernel_rfl) rfl rfl trivial (fun hHeld=>?_);refine with_tabW laws_FnSkip.tab36 laws_FnSkip.bits36 (fun HT_ HW_=>?_);generalize wr.drew=w154 at HO_21 HO_146 HO_538000 HO_538001 HO_547000 HO_547001 HO_555000 HO_555001 BK537 BK538 BK546 BK554 BK579 HB hHeld ⊢;refine pu 0 152 (b_ 1 11) HT_.out ?_;refine pu 1 153 (b_ 2 10) HT_.out ?_;refine pu 2 154 (b_ 3 9) HT_.out ?_;refine pu 3 155 (b_ 4 8) HT_.out ?_;refine pu 4 156 (b_ 5 7) HT_.out ?_;refine pd 5 157 (b_ 6 6) HT_.out ?_;refine pd 6 158 (b_ 7 5) HT_.out ?_;refine pd 7 159 (b_ 8 4) HT_.out ?_;refine pd 8 160 (b_ 9 3) HT_.out ?_;refine pd 9 161 (b_ 10 2) HT_.out ?_;refine pd 10 162 (b_ 11 1) HT_.out ?_;refine pu 11 163 (b_ 12 0) HT_.out ?_;refine dn_ (dnO HT_.out (by kernel_rfl)) ?_
              try go_wp2
              go_meet
              case rel=>exact ⟨_,(false),rs,H',⟨by have:=HJ34.out;have:=HK2.out;have:=HK3.out;have:=HK4.out;have:=HK5.out;first|omega|exact Nat.le_refl _⟩,⟨kR HO_21⟩,⟨kR HO_146⟩,⟨kQ HO_538000⟩,⟨kS HO_538001⟩,⟨kQ HO_547000⟩,⟨kS HO_547001⟩,⟨kQ HO_555000⟩,⟨kS HO_555001⟩,⟨bk BK537⟩,⟨bk BK538⟩,⟨bk BK546⟩,⟨bk BK554⟩,⟨bk BK579⟩,⟨bel⟩⟩
            rw [if_pos c150] at H;have c150b0:=zE c150;clear c150;(first|rw [c150b0]|(simp only [i64_w,i32_w];rw [c150b0])|rw [c150b1]|skip);by_cases c151:0≤x23_5;rotate_left
            · rw [if_neg c151] at H
              exact absurd H (by simp)
            rw [if_pos c151] at H;have c151b0:=zE c151;clear c151;have H':=AsZ.mk H;clear H
            try go_wp2
            replace HO_21:=dR HO_21;replace HO_146:=dR HO_146;replace HO_538000:=dQ HO_538000;replace HO_538001:=dS HO_538001;replace HO_547000:=dQ HO_547000;replace HO_547001:=dS HO_547001;replace HO_555000:=dQ HO_555000;replace HO_555001:=dS HO_555001;replace BK537:=db BK537;replace BK538:=db BK538;replace BK546:=db BK546;replace BK554:=db BK554;replace BK579:=db BK579;replace HB:=dB HB;obtain ⟨Ao153,co153,eo153⟩:=Kd.R_slice HO_21.out;(first|subst eo153|(injection eo153 with f1_ f2_ f3_;have f4_:=f1_.symm;have f5_:=f3_.symm;clear f1_ f2_ f3_;subst f4_;subst f5_));have p580:0≤(x23_5:Int):=dd;have q580:x23_5 < (t574.length:Int):=dd;obtain ⟨ad580,e580,hx580_0,hx580_1,hx580_2,hx580_3⟩:=at_T28 (Kd.R_reads' HO_21.out).2.2 x23_5 p580 q580;cases e580;replace p580:=eq_true p580;replace q580:=eq_true q580;refine start_ (n:=12) (S:=fun w'=>w'.cell? ⟨gb579,0,none⟩=some (.string ((rd_T28 t570 x148_4).f0))∧w'.cell? ⟨gb579,1,none⟩=some (.int .i64 ((rd_T28 t570 x148_4).f1))∧w'.cell? ⟨gb579,2,none⟩=some (.int .i64 ((rd_T28 t570 x148_4).f2))∧w'.cell? ⟨gb579,3,none⟩=some (.string ((rd_T28 t570 x148_4).f3))∧w'.cell? (ad580.add ((x23_5).toNat * 4))=some (.string ((rd_T28 t574 x23_5).f0))∧w'.cell? ⟨(ad580.add ((x23_5).toNat * 4)).block,(ad580.add ((x23_5).toNat * 4)).off + 1,none⟩=some (.int .i64 ((rd_T28 t574 x23_5).f1))∧w'.cell? ⟨(ad580.add ((x23_5).toNat * 4)).block,(ad580.add ((x23_5).toNat * 4)).off + 2,none⟩=some (.int .i64 ((rd_T28 t574 x23_5).f2))∧w'.cell? ⟨(ad580.add ((x23_5).toNat * 4)).block,(ad580.add ((x23_5).toNat * 4)).off + 3,none⟩=some (.string ((rd_T28 t574 x23_5).f3))) (ds:=[]) (b_ 0 12) (by kernel_rfl) rfl rfl ⟨(kc BK579.out 0).trans rfl,(kc BK579.out 1).trans rfl,(kc BK579.out 2).trans rfl,(kc BK579.out 3).trans rfl,hx580_0,hx580_1,hx580_2,hx580_3⟩ (fun hHeld=>?_);refine with_tabW laws_FnSkip.tab36 laws_FnSkip.bits36 (fun HT_ HW_=>?_);generalize wr.drew=w152 at HO_21 HO_146 HO_538000 HO_538001 HO_547000 HO_547001 HO_555000 HO_555001 BK537 BK538 BK546 BK554 BK579 HB hx580_0 hx580_1 hx580_2 hx580_3 hHeld ⊢;refine pu 0 152 (b_ 1 11) HT_.out ?_;refine pu 1 153 (b_ 2 10) HT_.out ?_;refine pu 2 154 (b_ 3 9) HT_.out ?_;refine pu 3 155 (b_ 4 8) HT_.out ?_;refine pu 4 156 (b_ 5 7) HT_.out ?_;refine pu 5 157 (b_ 6 6) HT_.out ?_;refine pu 6 158 (b_ 7 5) HT_.out ?_;refine pu 7 159 (b_ 8 4) HT_.out ?_;refine tk8 8 160 (b_ 9 3) HT_.out HW_.out hHeld ?_;refine tk8 9 161 (b_ 10 2) HT_.out HW_.out hHeld ?_;refine pu 10 162 (b_ 11 1) HT_.out ?_;refine pu 11 163 (b_ 12 0) HT_.out ?_;refine dn_ (dnO HT_.out (by kernel_rfl)) ?_
            try go_wp2
            go_meet
            case rel=>exact ⟨_,((!((((rd_T28 t574 x23_5).f0).toList) == ((rd_T28 t570 x148_4).f0).toList) || (!(((rd_T28 t574 x23_5).f1) == ((rd_T28 t570 x148_4).f1)) || (!(((rd_T28 t574 x23_5).f2) == ((rd_T28 t570 x148_4).f2)) || (!((((rd_T28 t574 x23_5).f3).toList) == ((rd_T28 t570 x148_4).f3).toList)))))),rs,H',⟨by have:=HJ34.out;have:=HK2.out;have:=HK3.out;have:=HK4.out;have:=HK5.out;first|omega|exact Nat.le_refl _⟩,⟨kR HO_21⟩,⟨kR HO_146⟩,⟨kQ HO_538000⟩,⟨kS HO_538001⟩,⟨kQ HO_547000⟩,⟨kS HO_547001⟩,⟨kQ HO_555000⟩,⟨kS HO_555001⟩,⟨bk BK537⟩,⟨bk BK538⟩,⟨bk BK546⟩,⟨bk BK554⟩,⟨bk BK579⟩,⟨bel⟩⟩
           case rest =>
            clear HC149
            try clear c2b0
            try clear c2b1
            try clear p2
            try clear p5 q5
            try clear hx5
            try clear c6b0
            try clear c6b1
            try clear c6b2
            try clear p6
            try clear p56 q56
            try clear hx56
            try clear p57 q57
            try clear hx57
            try clear p58 q58
            try clear hx58
            try clear p64
            try clear c67b0
            try clear c67b1
            try clear c80b0
            try clear c81b0
            try clear c82b0
            try clear c90b0
            try clear c90b1
            try clear c92b0
            try clear c93b0
            try clear c101b0
            try clear c101b1
            try clear c101b2
            try clear c121b0
            try clear c121b1
            try clear c124b0
            try clear c125b0
            try clear c129b0
            try clear c140b0
            try clear c141b0
            try clear c142b0
            try clear c150b0
            try clear c150b1
            try clear c151b0
            try clear hcz106_0 hcz106_1 hcz106_2 hcz106_3 hfz106_0 hfz106_1 hfz106_2 hfz106_3
            try clear hcz110_0 hcz110_1 hcz110_2 hcz110_3 hfz110_0 hfz110_1 hfz110_2 hfz110_3
            try clear hcz116_0 hcz116_1 hcz116_2 hcz116_3 hfz116_0 hfz116_1 hfz116_2 hfz116_3
            try clear hcz120_0 hcz120_1 hcz120_2 hcz120_3 hfz120_0 hfz120_1 hfz120_2 hfz120_3
            try clear hcz12_0 hcz12_1 hfz12_0 hfz12_1
            try clear hcz135_0 hcz135_1 hfz135_0 hfz135_1
            try clear hcz137_0 hcz137_1 hfz137_0 hfz137_1
            try clear hcz148_0 hcz148_1 hcz148_2 hcz148_3 hfz148_0 hfz148_1 hfz148_2 hfz148_3
            try clear hcz14_0 hcz14_1 hcz14_2 hcz14_3 hfz14_0 hfz14_1 hfz14_2 hfz14_3
            try clear hcz20_0 hcz20_1 hfz20_0 hfz20_1
            try clear hcz22_0 hcz22_1 hfz22_0 hfz22_1
            try clear hcz23_0 hcz23_1 hcz23_2 hcz23_3 hfz23_0 hfz23_1 hfz23_2 hfz23_3
            try clear hcz30_0 hcz30_1 hfz30_0 hfz30_1
            try clear hcz41_0 hcz41_1 hfz41_0 hfz41_1
            try clear hcz43_0 hcz43_1 hcz43_2 hcz43_3 hfz43_0 hfz43_1 hfz43_2 hfz43_3
            try clear hcz49_0 hcz49_1 hfz49_0 hfz49_1
            try clear hcz51_0 hcz51_1 hfz51_0 hfz51_1
            try clear hcz52_0 hcz52_1 hcz52_2 hcz52_3 hfz52_0 hfz52_1 hfz52_2 hfz52_3
            try clear hcz59_0 hcz59_1 hfz59_0 hfz59_1
            try clear hcz61_0 hcz61_1 hfz61_0 hfz61_1
            try clear hcz63_0 hcz63_1 hfz63_0 hfz63_1
            try clear hcz74_0 hcz74_1 hfz74_0 hfz74_1
            try clear hcz89_0 hcz89_1 hcz89_2 hcz89_3 hfz89_0 hfz89_1 hfz89_2 hfz89_3
            try clear hx564_0 hx564_1 hx564_2 hx564_3
            try clear hx566_0 hx566_1 hx566_2 hx566_3
            try clear hx569_0 hx569_1 hx569_2 hx569_3
            try clear hx578_0 hx578_1 hx578_2 hx578_3
            try clear hx580_0 hx580_1 hx580_2 hx580_3
            try clear p564 q564
            try clear p566 q566
            try clear p569 q569
            try clear p578 q578
            try clear p580 q580
            obtain ⟨kq,x163_148,rfl,HA,HJ148,HO_21,HO_146,HO_538000,HO_538001,HO_547000,HO_547001,HO_555000,HO_555001,BK537,BK538,BK546,BK554,BK579,HB⟩:=hcut
            cases kq with
            |zero=>exact absurd HA.out (by simp [laws_FnSkip.j8])
            |succ kj148 =>
             have H:=HA.out;clear HA;simp only [laws_FnSkip.j8] at H;by_cases c156:x163_148=true
             · subst c156
               replace H:=iP H;have H':=AsZ.mk H;clear H;go_wp2;go_roundg kj148
               case measure=>have:=HJ34.out;have:=HK2.out;have:=HK3.out;have:=HK4.out;have:=HK5.out;have:=HJ148.out;omega
               case rel=>exact ⟨(wrap64 (x23_5 + 1)),rs,H',⟨by have:=HJ34.out;have:=HK2.out;have:=HK3.out;have:=HK4.out;have:=HK5.out;have:=HJ148.out;omega⟩,⟨kR HO_21⟩,⟨kR HO_146⟩,⟨kQ HO_538000⟩,⟨kS HO_538001⟩,⟨kQ HO_547000⟩,⟨kS HO_547001⟩,⟨kQ HO_555000⟩,⟨kS HO_555001⟩,⟨bk BK537⟩,⟨bk BK538⟩,⟨bk BK546⟩,⟨bk BK554⟩,⟨bk BK579⟩,⟨bel⟩⟩
             replace c156:=Bool.eq_false_iff.mpr c156;subst c156;replace H:=iN H;replace H:=bs H;obtain ⟨⟨t581,t582⟩,A157,H⟩:=H;have HC158:=AsZ.mk H;clear H;have hnb159:=NB579_537.out;have hnc159:=NB537_579.out;have hnb160:=NB579_538.out;have hnc160:=NB538_579.out;have hnb161:=NB579_546.out;have hnc161:=NB546_579.out;have hnb162:=NB579_554.out;have hnc162:=NB554_579.out;obtain ⟨hcz163_0,hcz163_1,hcz163_2,hcz163_3,hfz163_0,hfz163_1,hfz163_2,hfz163_3⟩:=bx4 BK579;go_upto_region 39 with (first|((with_reducible refine gcl (f:=17) rfl ?_);refine gk (some 171) Tryd.func17 #[.string ((rd_T28 t570 x148_4).f0),.int .i64 ((rd_T28 t570 x148_4).f1)] ?_;(with_reducible refine (spec_TowerOf.calls kj148 ((rd_T28 t570 x148_4).f0) ((rd_T28 t570 x148_4).f1) t581 t582 _ A157.out).mono ?_);rintro e w164 ⟨rfl,hb⟩;refine ⟨_,rfl,?_⟩;replace HO_21:=rR HO_21 hb;replace HO_146:=rR HO_146 hb;replace HO_538000:=rQ HO_538000 hb;replace HO_538001:=rS HO_538001 hb;replace HO_547000:=rQ HO_547000 hb;replace HO_547001:=rS HO_547001 hb;replace HO_555000:=rQ HO_555000 hb;replace HO_555001:=rS HO_555001 hb;replace BK537:=bb BK537 hb;replace BK538:=bb BK538 hb;replace BK546:=bb BK546 hb;replace BK554:=bb BK554 hb;replace BK579:=bb BK579 hb;replace HB:=bp hb;(try clear hb);(try clear hb2);(try clear hk);(try clear hi)))
             (try simp only [Act.put,zS,zT,zU])
             go_cut [186] (fun v186 wc => ∃ (kq:Nat) (x186_157:Bool),v186 = .bool x186_157∧AsZ (laws_FnSkip.j9 kq x18_3 t573 t574 t577 x23_5 t570 (t570.length:Int) x148_4 x186_157 t539 t542=some r)∧AsZ (kq≤kj148)∧AsZ (Kd.R k28 28 wc w.heap.size (fun k_=>some k_ ≠ ((.slice (some ad578) t570.length co139):Value).ownBlock∧k_ ≠ gb538∧k_ ≠ gb579) v575 t574)∧AsZ (Kd.R k28 28 wc w.heap.size (fun k_=>some k_ ≠ (v575:Value).ownBlock∧k_ ≠ gb538∧k_ ≠ gb579) (.slice (some ad578) t570.length co139) t570)∧AsZ (Kd.Q (Kd.int .i64) 3 wc w.heap.size (fun k_=>some k_ ≠ ((.slice Ao46 t539.length co46):Value).ownBlock∧some k_ ≠ ((.slice Ao55 t547.length co55):Value).ownBlock) (.slice Ao39 t527.length co39) t527)∧AsZ (Kd.S k77 77 wc w.heap.size (fun k_=>some k_ ≠ ((.slice Ao39 t527.length co39):Value).ownBlock∧some k_ ≠ ((.slice Ao46 t539.length co46):Value).ownBlock∧some k_ ≠ ((.slice Ao50 t542.length co50):Value).ownBlock∧some k_ ≠ ((.slice Ao55 t547.length co55):Value).ownBlock∧some k_ ≠ ((.slice Ao60 t550.length co60):Value).ownBlock) (.slice Ao42 t530.length co42) t530)∧AsZ (Kd.Q (Kd.int .i64) 3 wc w.heap.size (fun k_=>some k_ ≠ ((.slice Ao39 t527.length co39):Value).ownBlock∧some k_ ≠ ((.slice Ao55 t547.length co55):Value).ownBlock) (.slice Ao46 t539.length co46) t539)∧AsZ (Kd.S k77 77 wc w.heap.size (fun k_=>some k_ ≠ ((.slice Ao39 t527.length co39):Value).ownBlock∧some k_ ≠ ((.slice Ao42 t530.length co42):Value).ownBlock∧some k_ ≠ ((.slice Ao46 t539.length co46):Value).ownBlock∧some k_ ≠ ((.slice Ao55 t547.length co55):Value).ownBlock∧some k_ ≠ ((.slice Ao60 t550.length co60):Value).ownBlock) (.slice Ao50 t542.length co50) t542)∧AsZ (Kd.Q (Kd.int .i64) 3 wc w.heap.size (fun k_=>some k_ ≠ ((.slice Ao39 t527.length co39):Value).ownBlock∧some k_ ≠ ((.slice Ao46 t539.length co46):Value).ownBlock) (.slice Ao55 t547.length co55) t547)∧AsZ (Kd.S k77 77 wc w.heap.size (fun k_=>some k_ ≠ ((.slice Ao39 t527.length co39):Value).ownBlock∧some k_ ≠ ((.slice Ao42 t530.length co42):Value).ownBlock∧some k_ ≠ ((.slice Ao46 t539.length co46):Value).ownBlock∧some k_ ≠ ((.slice Ao50 t542.length co50):Value).ownBlock∧some k_ ≠ ((.slice Ao55 t547.length co55):Value).ownBlock) (.slice Ao60 t550.length co60) t550)∧AsZ (wc.heap[gb537]? = some (.cells #[(.slice Ao39 t527.length co39),(.slice Ao42 t530.length co42)] 26 (0,0)))∧AsZ (wc.heap[gb538]? = some (.cells #[.string t533,.int .i64 t534,.int .i64 t535,.string t536] 28 (0,0)))∧AsZ (wc.heap[gb546]? = some (.cells #[(.slice Ao46 t539.length co46),(.slice Ao50 t542.length co50)] 26 (0,0)))∧AsZ (wc.heap[gb554]? = some (.cells #[(.slice Ao55 t547.length co55),(.slice Ao60 t550.length co60)] 26 (0,0)))∧AsZ (wc.heap[gb579]? = some (.cells #[.string ((rd_T28 t570 x148_4).f0),.int .i64 ((rd_T28 t570 x148_4).f1),.int .i64 ((rd_T28 t570 x148_4).f2),.string ((rd_T28 t570 x148_4).f3)] 28 (0,0)))∧AsZ (Below w.heap.size w wc))
             case first =>
              have H:=HC158.out;clear HC158;by_cases c165:x23_5=(t574.length:Int)
              · rw [if_pos c165] at H
                have c165b0:(x23_5 == (t574.length:Int))=true:=beq_iff_eq.mpr c165;have c165b1:(x23_5 != (t574.length:Int))=false:=bne_eq_false_iff_eq.mpr c165;clear c165;(first|rw [c165b0]|(simp only [i64_w,i32_w];rw [c165b0])|rw [c165b1]|skip);have H':=AsZ.mk H;clear H;obtain ⟨Ao166,co166,eo166⟩:=Kd.R_slice HO_21.out;subst eo166;go_wp2;go_meet
                case rel=>exact ⟨_,(true),rs,H',⟨by have:=HJ34.out;have:=HK2.out;have:=HK3.out;have:=HK4.out;have:=HK5.out;have:=HJ148.out;first|omega|exact Nat.le_refl _⟩,⟨kR HO_21⟩,⟨kR HO_146⟩,⟨kQ HO_538000⟩,⟨kS HO_538001⟩,⟨kQ HO_547000⟩,⟨kS HO_547001⟩,⟨kQ HO_555000⟩,⟨kS HO_555001⟩,⟨bk BK537⟩,⟨bk BK538⟩,⟨bk BK546⟩,⟨bk BK554⟩,⟨bk BK579⟩,⟨bel⟩⟩
              rw [if_neg c165] at H;have c165b0:(x23_5 == (t574.length:Int))=false:=beq_eq_false_iff_ne.mpr c165;have c165b1:(x23_5 != (t574.length:Int))=true:=bne_iff_ne.mpr c165;(first|rw [c165b0]|(simp only [i64_w,i32_w];rw [c165b0])|rw [c165b1]|skip);by_cases c167:t582=true
              · subst c167
                replace H:=iP H;have H':=AsZ.mk H;clear H;obtain ⟨Ao168,co168,eo168⟩:=Kd.R_slice HO_21.out;subst eo168;go_wp2;go_meet
                case rel=>exact ⟨_,(decide (t581≤x18_3)),rs,H',⟨by have:=HJ34.out;have:=HK2.out;have:=HK3.out;have:=HK4.out;have:=HK5.out;have:=HJ148.out;first|omega|exact Nat.le_refl _⟩,⟨kR HO_21⟩,⟨kR HO_146⟩,⟨kQ HO_538000⟩,⟨kS HO_538001⟩,⟨kQ HO_547000⟩,⟨kS HO_547001⟩,⟨kQ HO_555000⟩,⟨kS HO_555001⟩,⟨bk BK537⟩,⟨bk BK538⟩,⟨bk BK546⟩,⟨bk BK554⟩,⟨bk BK579⟩,⟨bel⟩⟩
              replace c167:=Bool.eq_false_iff.mpr c167;subst c167;replace H:=iN H;have H':=AsZ.mk H;clear H;obtain ⟨Ao169,co169,eo169⟩:=Kd.R_slice HO_21.out;subst eo169;go_wp2;go_meet
              case rel=>exact ⟨_,(true),rs,H',⟨by have:=HJ34.out;have:=HK2.out;have:=HK3.out;have:=HK4.out;have:=HK5.out;have:=HJ148.out;first|omega|exact Nat.le_refl _⟩,⟨kR HO_21⟩,⟨kR HO_146⟩,⟨kQ HO_538000⟩,⟨kS HO_538001⟩,⟨kQ HO_547000⟩,⟨kS HO_547001⟩,⟨kQ HO_555000⟩,⟨kS HO_555001⟩,⟨bk BK537⟩,⟨bk BK538⟩,⟨bk BK546⟩,⟨bk BK554⟩,⟨bk BK579⟩,⟨bel⟩⟩
             case rest =>
              clear HC158
              try clear c2b0
              try clear c2b1
              try clear p2
              try clear p5 q5
              try clear hx5
              try clear c6b0
              try clear c6b1
              try clear c6b2
              try clear p6
              try clear p56 q56
              try clear hx56
              try clear p57 q57
              try clear hx57
              try clear p58 q58
              try clear hx58
              try clear p64
              try clear c67b0
              try clear c67b1
              try clear c80b0
              try clear c81b0
              try clear c82b0
              try clear c90b0
              try clear c90b1
              try clear c92b0
              try clear c93b0
              try clear c101b0
              try clear c101b1
              try clear c101b2
              try clear c121b0
              try clear c121b1
              try clear c124b0
              try clear c125b0
              try clear c129b0
              try clear c140b0
              try clear c141b0
              try clear c142b0
              try clear c150b0
              try clear c150b1
              try clear c151b0
              try clear c165b0
              try clear c165b1
              try clear hcz106_0 hcz106_1 hcz106_2 hcz106_3 hfz106_0 hfz106_1 hfz106_2 hfz106_3
              try clear hcz110_0 hcz110_1 hcz110_2 hcz110_3 hfz110_0 hfz110_1 hfz110_2 hfz110_3
              try clear hcz116_0 hcz116_1 hcz116_2 hcz116_3 hfz116_0 hfz116_1 hfz116_2 hfz116_3
              try clear hcz120_0 hcz120_1 hcz120_2 hcz120_3 hfz120_0 hfz120_1 hfz120_2 hfz120_3
              try clear hcz12_0 hcz12_1 hfz12_0 hfz12_1
              try clear hcz135_0 hcz135_1 hfz135_0 hfz135_1
              try clear hcz137_0 hcz137_1 hfz137_0 hfz137_1
              try clear hcz148_0 hcz148_1 hcz148_2 hcz148_3 hfz148_0 hfz148_1 hfz148_2 hfz148_3
              try clear hcz14_0 hcz14_1 hcz14_2 hcz14_3 hfz14_0 hfz14_1 hfz14_2 hfz14_3
              try clear hcz163_0 hcz163_1 hcz163_2 hcz163_3 hfz163_0 hfz163_1 hfz163_2 hfz163_3
              try clear hcz20_0 hcz20_1 hfz20_0 hfz20_1
              try clear hcz22_0 hcz22_1 hfz22_0 hfz22_1
              try clear hcz23_0 hcz23_1 hcz23_2 hcz23_3 hfz23_0 hfz23_1 hfz23_2 hfz23_3
              try clear hcz30_0 hcz30_1 hfz30_0 hfz30_1
              try clear hcz41_0 hcz41_1 hfz41_0 hfz41_1
              try clear hcz43_0 hcz43_1 hcz43_2 hcz43_3 hfz43_0 hfz43_1 hfz43_2 hfz43_3
              try clear hcz49_0 hcz49_1 hfz49_0 hfz49_1
              try clear hcz51_0 hcz51_1 hfz51_0 hfz51_1
              try clear hcz52_0 hcz52_1 hcz52_2 hcz52_3 hfz52_0 hfz52_1 hfz52_2 hfz52_3
              try clear hcz59_0 hcz59_1 hfz59_0 hfz59_1
              try clear hcz61_0 hcz61_1 hfz61_0 hfz61_1
              try clear hcz63_0 hcz63_1 hfz63_0 hfz63_1
              try clear hcz74_0 hcz74_1 hfz74_0 hfz74_1
              try clear hcz89_0 hcz89_1 hcz89_2 hcz89_3 hfz89_0 hfz89_1 hfz89_2 hfz89_3
              try clear hx564_0 hx564_1 hx564_2 hx564_3
              try clear hx566_0 hx566_1 hx566_2 hx566_3
              try clear hx569_0 hx569_1 hx569_2 hx569_3
              try clear hx578_0 hx578_1 hx578_2 hx578_3
              try clear hx580_0 hx580_1 hx580_2 hx580_3
              try clear p564 q564
              try clear p566 q566
              try clear p569 q569
              try clear p578 q578
              try clear p580 q580
              obtain ⟨kq,x186_157,rfl,HA,HJ157,HO_21,HO_146,HO_538000,HO_538001,HO_547000,HO_547001,HO_555000,HO_555001,BK537,BK538,BK546,BK554,BK579,HB⟩:=hcut
              cases kq with
              |zero=>exact absurd HA.out (by simp [laws_FnSkip.j9])
              |succ kj157 =>
               have H:=HA.out;clear HA;simp only [laws_FnSkip.j9] at H;by_cases c170:x186_157=true
               · subst c170
                 replace H:=iP H;obtain rfl:=zI H;go_wp2;go_ret;exact ⟨re,bel⟩
               replace c170:=Bool.eq_false_iff.mpr c170;subst c170;replace H:=iN H;have H':=AsZ.mk H;clear H;go_wp2;go_roundg kj157
               case measure=>have:=HJ34.out;have:=HK2.out;have:=HK3.out;have:=HK4.out;have:=HK5.out;have:=HJ148.out;have:=HJ157.out;omega
               case rel=>exact ⟨(x23_5),(wrap64 (x148_4 + 1)),rs,rs,H',⟨by have:=HJ34.out;have:=HK2.out;have:=HK3.out;have:=HK4.out;have:=HK5.out;have:=HJ148.out;have:=HJ157.out;omega⟩,⟨by (with_reducible repeat (first|apply Kd.R_alloc|apply Kd.R_drewN|apply Kd.R_drew));exact Kd.R_mono HO_21.out (fun _ hk=>⟨hk.1,hk.2.1⟩)⟩,⟨by (with_reducible repeat (first|apply Kd.R_alloc|apply Kd.R_drewN|apply Kd.R_drew));exact Kd.R_mono HO_146.out (fun _ hk=>⟨hk.1,hk.2.1⟩)⟩,⟨kQ HO_538000⟩,⟨kS HO_538001⟩,⟨kQ HO_547000⟩,⟨kS HO_547001⟩,⟨kQ HO_555000⟩,⟨kS HO_555001⟩,⟨bk BK537⟩,⟨bk BK538⟩,⟨bk BK546⟩,⟨bk BK554⟩,⟨bel⟩⟩
/-- THE ONE PURE STATEMENT of laws_FnSkip: yours. -/
def laws_FnSkip.Pure:Prop := ∀ (l0:List Int),l0.length≤maxLen→l0.length * 1≤140737488351232→(∀ x ∈ l0,(Lit.int .u8 x).wf=true) → ∃ k,laws_FnSkip.f k l0=some true
theorem laws_FnSkip.walk (P:laws_FnSkip.Pure) (a0:Option Addr) (len0 cap0:Nat) (z0:List Int) (w:World) (hT:Tab w) (w0:(a0=none∧len0=0∧cap0=0∧z0=[]) ∨ ∃ x,a0=some x∧len0≤cap0∧cap0≤maxLen∧z0.length=cap0∧(∀ i,i < z0.length→w.cell? (x.add i)=some (.int .u8 (z0.getD i 0))) ∧ ∀ n ∈ z0,(Lit.int .u8 n).wf=true) (y0:len0 * 1≤140737488351232) :
    Calls Tryd.prog 3 #[.slice a0 len0 cap0] w fun e w'=>e = .returned (.bool true)∧Below w.heap.size w w':=by
  obtain ⟨l0,rfl,hr0,hm0,hw0,hc0⟩:=ReadsInt.ofRowC w0;obtain ⟨k,h⟩:=P l0 hm0 y0 hw0;refine (laws_FnSkip.calls k _ _ l0 true w (Kd.C_of_reads (d:=(0:Int)) (h1:=fun _=>rfl) hr0) hc0 hT h).mono ?_;rintro e w' ⟨rfl,hd⟩;exact ⟨rfl,hd⟩
end Go.Proofs.YtffjlpphcjfdgaaDoor.MFnSkip
