-- Written by a program of this session out of the translation. Not trusted: Lean checks it.
import Derived.Test.YtffjlpphcjfdgaaDoorMFnFoundx0
namespace Go.Proofs.YtffjlpphcjfdgaaDoor.MFnFound
-- short
-- shrunk
-- TAB
-- RD
open Go.Proofs.YtffjlpphcjfdgaaDoor Go.RowKit Go.Proofs.YtffjlpphcjfdgaaDoorW.PrintWords Go.Proofs.YtffjlpphcjfdgaaDoorW.PrintLast Go.Proofs.YtffjlpphcjfdgaaDoorW.PrintMore Go.Proofs.YtffjlpphcjfdgaaDoorX
attribute [local go_sem] max2_int min2_int max_two min_two max_three min_three max_four min_four str_gtr str_leq str_geq cell_twice
set_option linter.unusedVariables false
set_option linter.unusedSimpArgs false
-- COMPACT
/-! ### spec_l4Own: function 49 -/
def spec_l4Own.l0:Nat→List (S77)→List (S77)→Int→Int→List Int→List (S77)→Option (List Int × (List (S77)))
  |0,_,_,_,_,_,_=>none
  |k + 1,x3,x12,x13,x14,x298000,x298001=>if x14 < x13 then (if 0≤x14 then (if x14 < (x12.length:Int) then ((some (([]:List Int):List Int)).bind fun y307=>(if y307.length + ((rd_T77 x12 x14).f1).length < 17592186044416 then (if x3.length < 1954687338268 then (spec_l4Own.l0 k (x3 ++ [(⟨(⟨(rd_T77 x12 x14).f0.f0,(rd_T77 x12 x14).f0.f1,(rd_T77 x12 x14).f0.f2,(rd_T77 x12 x14).f0.f3⟩:S28),(y307 ++ ((rd_T77 x12 x14).f1))⟩:S77)]) x12 x13 (wrap64 (x14 + 1)) x298000 x298001) else (none)) else (none))) else (none)) else (none)) else (some (x298000,x3))
def spec_l4Own.f (k:Nat) (l0_0:List Int) (l0_1:List (S77)):Option (List Int × (List (S77))):=(some (([]:List Int):List Int)).bind fun y299=>(if y299.length + l0_0.length < 17592186044416 then (spec_l4Own.l0 k ([]:List (S77)) l0_1 (l0_1.length:Int) 0 (y299 ++ l0_0) l0_1) else (none))
theorem spec_l4Own.mono_l:∀ k,(∀ y0 y1 y2 y3 y4 y5,LeO (spec_l4Own.l0 k y0 y1 y2 y3 y4 y5) (spec_l4Own.l0 (k + 1) y0 y1 y2 y3 y4 y5))
  |0=>fun _ _ _ _ _ _ r h=>by simp [spec_l4Own.l0] at h
  |k + 1=>by
    have ih0:=spec_l4Own.mono_l k
    · intro y0 y1 y2 y3 y4 y5
      unfold spec_l4Own.l0
      repeat' first|(with_reducible first|exact ih0 _ _ _ _ _ _|exact LeO.refl _|exact LeO.none _|refine LeO.ite ?_ ?_|refine LeO.bind ?_ (fun _=>?_))|exact ih0 _ _ _ _ _ _|exact LeO.none _|refine LeO.ite ?_ ?_|refine LeO.bind ?_ (fun _=>?_)
theorem spec_l4Own.mono:∀ a0 a1 k,LeO (spec_l4Own.f k a0 a1) (spec_l4Own.f (k + 1) a0 a1):=by
  intro a0 a1 k
  have ih0:=spec_l4Own.mono_l k
  unfold spec_l4Own.f
  repeat' first|(with_reducible first|exact ih0 _ _ _ _ _ _|exact LeO.refl _|exact LeO.none _|refine LeO.ite ?_ ?_|refine LeO.bind ?_ (fun _=>?_))|exact ih0 _ _ _ _ _ _|exact LeO.none _|refine LeO.ite ?_ ?_|refine LeO.bind ?_ (fun _=>?_)
set_option maxHeartbeats 8000000 in
set_option maxRecDepth 100000 in
theorem spec_l4Own.calls (k:Nat) (A0_0:Option Addr) (c0_0:Nat) (l0_0:List Int) (A0_1:Option Addr) (c0_1:Nat) (l0_1:List (S77)) (r1:List Int) (r2:List (S77)) (w:World) (hr0_0:Kd.C (Kd.int .i64) w A0_0 l0_0.length l0_0) (hc0_0:l0_0.length≤c0_0) (hr0_1:Kd.C k77 w A0_1 l0_1.length l0_1) (hc0_1:l0_1.length≤c0_1) (h:spec_l4Own.f k l0_0 l0_1=some (r1,r2)) :
    Calls Tryd.prog 49 #[.agg #[.slice A0_0 l0_0.length c0_0,.slice A0_1 l0_1.length c0_1]] w fun e w' => ∃ v0_ v1_:Value,e = .returned (.agg #[v0_,v1_])∧Kd.R (Kd.int .i64) 3 w' w.heap.size (fun _=>True) v0_ r1∧Kd.S k77 77 w' w.heap.size (fun k_=>some k_ ≠ (v0_:Value).ownBlock) v1_ r2∧Below w.heap.size w w':=by
 have hu26:=Tryd.underlying26
 have hu77:=Tryd.underlying77
 have HR0_0:=AsZ.mk hr0_0
 have HC0_0:=AsZ.mk hc0_0
 clear hr0_0 hc0_0
 have HR0_1:=AsZ.mk hr0_1
 have HC0_1:=AsZ.mk hc0_1
 clear hr0_1 hc0_1
 have HB:=AsZ.mk (Below.refl w.heap.size w)
 have H:((some (([]:List Int):List Int)).bind fun y299=>(if y299.length + l0_0.length < 17592186044416 then (spec_l4Own.l0 k ([]:List (S77)) l0_1 (l0_1.length:Int) 0 (y299 ++ l0_0) l0_1) else (none)))=some (r1,r2):=h
 clear h
 obtain ⟨y299,hy299⟩:∃ y_:List Int,y_=(([]:List Int)):=⟨_,rfl⟩
 replace H:(if y299.length + l0_0.length < 17592186044416 then (spec_l4Own.l0 k ([]:List (S77)) l0_1 (l0_1.length:Int) 0 (y299 ++ l0_0) l0_1) else (none))=some (r1,r2):=ry hy299 H
 have Ny299:=AsZ.mk hy299
 clear hy299
 by_cases c2:y299.length + l0_0.length < 17592186044416
 rotate_left
 · rw [if_neg c2] at H
   exact absurd H (by simp)
 rw [if_pos c2] at H
 have LMc2:=AsZ.mk c2
 clear c2
 obtain ⟨y302,hy302⟩:∃ y_:List Int,y_=(y299 ++ l0_0):=⟨_,rfl⟩
 replace H:(spec_l4Own.l0 k ([]:List (S77)) l0_1 (l0_1.length:Int) 0 y302 l0_1)=some (r1,r2):=ry hy302 H
 have Ny302:=AsZ.mk hy302
 clear hy302
 have H':=AsZ.mk H
 clear H
 go_enter Tryd.func49,Tryd.ntmps49
 go_wp2_with (first|((with_reducible refine gate_dst (N:=1) rfl ?_);refine bev 1 26 (cs:=#[.slice A0_0 l0_0.length c0_0,.slice A0_1 l0_1.length c0_1]) ?_;intro gb297 hg w3 hbox hb;have BK297:=AsZ.mk (hbox);have GW297:=gz HB hg;have GE297:=gz HB hg;replace HB:=bp hb;clear hb hbox hg)|((with_reducible refine gate_dst (N:=2) rfl ?_);refine bev 2 26 (cs:=#[.slice none 0 0,.slice none 0 0]) ?_;intro gb298 hg w4 hbox hb;have BK298:=AsZ.mk (hbox);have GW298:=gz HB hg;have GE298:=gz HB hg;have NB297_298:=nl BK297 hg;have NB298_297:=nr BK297 hg;replace BK297:=bb BK297 hb;replace HB:=bp hb;clear hb hbox hg)|((with_reducible refine gate_dst (N:=6) rfl ?_);refine Kd.R_lit (Kd.int .i64) _ 3 ?hg (N:=6) ?hd (xs:=([]:List Int)) (inner:=[]) (ok:=fun _=>True) (okp:=fun _=>True) ?hr ?hp (fun _ hk=>hk) trivial (Below.refl _ _) (Nat.le_refl _) (by simp) ?_;(case hd=>rfl);(case hg=>rfl);(case hr=>first|(go_simp;done)|(go_simp;rfl));(case hp=>exact (Reps.none _ _));intro v300 w5 ho6 hb hg_ hnew_;clear hg_ hnew_;(first|rw [← Ny299.out] at ho6|(simp only [Int.reduceToNat] at ho6;rw [← Ny299.out] at ho6));have HO301:=AsZ.mk (Kd.R_lower ho6 (bwz bel));replace BK297:=bb BK297 hb;replace BK298:=bb BK298 hb;replace HB:=bp hb;clear hb ho6;have hnb7:=NB297_298.out;have hnc7:=NB298_297.out;obtain ⟨hcz8_0,hcz8_1,hfz8_0,hfz8_1⟩:=bx2 BK297)|((with_reducible refine gate_builtin (b := .append) (xs:=#[.tmp 6,.tmp 8]) rfl ?_);at_builtin;refine Kd.R_append_rows (Kd.int .i64) (w0:=w) w.heap.size rfl (.tmp 6) (.tmp 8) 23 3 (.int .i64 0) 8 rfl Tryd.underlying23 info3 rfl (by decide) (by omega) v300 y299 l0_0 _ _ _ (fun _=>True) (fun _=>False) rfl rfl ?aO ?aR (fun _ _ h=>h) (fun _ h=>h.elim) ?aF ?aB ?aS ?aL ?_;(case aR=>repeat (first|exact (Kd.C_below HR0_0.out HB.out)|(with_reducible refine Kd.C_alloc ?_ _)|(with_reducible refine Kd.C_drewN ?_ _)|(with_reducible refine Kd.C_drew ?_)));(case aB=>exact bel);(case aF=>exact (fun _ _=>trivial));(case aO=>exact (kR HO301));(case aS=>exact (bwz bel));(case aL=>have:=LMc2.out;omega);intro v303 w9 ho hb hg hat;rw [← Ny302.out] at ho;have HO304:=AsZ.mk (ho);replace BK297:=AsZ.mk (blk_grown (bk BK297) hg (Kd.R_ne HO301.out BK297.out (by decide)));replace BK298:=AsZ.mk (blk_grown (bk BK298) hg (Kd.R_ne HO301.out BK298.out (by decide)));replace HB:=AsZ.mk (hb);clear HO301;clear ho hb hg hat;obtain ⟨Ao10,co10,eo10⟩:=Kd.R_slice HO304.out;subst eo10;obtain ⟨hcz11_0,hcz11_1,hfz11_0,hfz11_1⟩:=bx2 BK297))
 go_loopg [3,14] k (fun kq v3 v14 w' => ∃ (x3_1:List (S77)) (x14_1:Int),v14 = .int .i64 x14_1∧AsZ (spec_l4Own.l0 kq x3_1 l0_1 (l0_1.length:Int) x14_1 y302 l0_1=some (r1,r2))∧AsZ (kq≤k)∧AsZ (Kd.S k77 77 w' w.heap.size (fun k_=>some k_ ≠ ((.slice Ao10 y302.length co10):Value).ownBlock) v3 x3_1)∧AsZ (Kd.R (Kd.int .i64) 3 w' w.heap.size (fun _=>True) (.slice Ao10 y302.length co10) y302)∧AsZ (w'.heap[gb297]? = some (.cells #[(.slice Ao10 y302.length co10),(.slice A0_1 l0_1.length c0_1)] 26 (0,0)))∧AsZ (w'.heap[gb298]? = some (.cells #[(.slice none 0 0),(.slice none 0 0)] 26 (0,0)))∧AsZ (Below w.heap.size w w'))
 case atStart=>exact ⟨(([]:List (S77))),(0),rs,H',⟨Nat.le_refl _⟩,⟨by first|exact Kd.S_nil _ _ _ _ _|exact Kd.N_nil _ _ _ _ _|exact Kd.V_nil _ _ _ _ _|exact Kd.Q_nil _ _ _ _ _|exact Kd.R_nil _ _ _ _ _⟩,⟨by (with_reducible repeat (first|apply Kd.R_alloc|apply Kd.R_drewN|apply Kd.R_drew));exact Kd.R_mono (fR (Kd.R_types HO304.out BK297.out (by decide))) (fun _ hk=>trivial)⟩,⟨bq BK297⟩,⟨bq BK298⟩,⟨bel⟩⟩
 case round =>
  clear H'
  try clear p2
  try clear hcz11_0 hcz11_1 hfz11_0 hfz11_1
  try clear hcz8_0 hcz8_1 hfz8_0 hfz8_1
  obtain ⟨x3_1,x14_1,rfl,HA,HK1,HO_3,HO_298000,BK297,BK298,HB⟩:=hrel
  cases gk with
  |zero=>exact absurd HA.out (by simp [spec_l4Own.l0])
  |succ k1 =>
   have H:=HA.out
   clear HA
   simp only [spec_l4Own.l0] at H
   by_cases c12:x14_1 < (l0_1.length:Int)
   rotate_left
   · rw [if_neg c12] at H
     have c12b0:decide (x14_1 < (l0_1.length:Int))=false:=decide_eq_false c12
     clear c12
     simp only [Option.some.injEq,Prod.mk.injEq] at H
     obtain ⟨rfl,rfl⟩:=H
     obtain ⟨Ao30,co30,eo30⟩:=Kd.S_slice HO_3.out
     subst eo30
     have hnb31:=NB297_298.out
     have hnc31:=NB298_297.out
     obtain ⟨hcz32_0,hcz32_1,hfz32_0,hfz32_1⟩:=bx2 BK297
     obtain ⟨hcz33_0,hcz33_1,hfz33_0,hfz33_1⟩:=bx2 BK298
     go_wp2
     refine bodyPost_ret (results_cell_row rfl _ _ gb298 26 #[.slice Ao10 y302.length co10,.slice Ao30 x3_1.length co30] (0,0) _ rfl (bq BK298) Tryd.underlying26 rfl (by kernel_rfl)) rfl ?_
     exact ⟨_,_,re,by (with_reducible repeat (first|apply Kd.R_alloc|apply Kd.R_drewN|apply Kd.R_drew));exact Kd.R_mono (fR (fR (Kd.R_far (p:=⟨gb297,1,none⟩) (Kd.R_types (Kd.R_types HO_298000.out BK297.out (by decide)) BK298.out (by decide)) (fun _ hk=>hk.1.2) (.slice Ao30 x3_1.length co30)))) (fun _ hk=>trivial),by (with_reducible repeat (first|apply Kd.S_alloc|apply Kd.S_drewN|apply Kd.S_drew));exact Kd.S_mono (fS (fS (Kd.S_far (p:=⟨gb297,1,none⟩) (Kd.S_types (Kd.S_types HO_3.out BK297.out (by decide)) BK298.out (by decide)) (fun _ hk=>hk.1.2) (.slice Ao30 x3_1.length co30)))) (fun _ hk=>hk.1.1),bel⟩
   rw [if_pos c12] at H
   have c12b0:decide (x14_1 < (l0_1.length:Int))=true:=zE c12
   clear c12
   by_cases c13:0≤x14_1
   rotate_left
   · rw [if_neg c13] at H
     exact absurd H (by simp)
   rw [if_pos c13] at H
   have c13b0:decide (0≤x14_1)=true:=zE c13
   clear c13
   by_cases c14:x14_1 < (l0_1.length:Int)
   rotate_left
   · rw [if_neg c14] at H
     exact absurd H (by simp)
   rw [if_pos c14] at H
   have c14b0:decide (x14_1 < (l0_1.length:Int))=true:=zE c14
   clear c14
   obtain ⟨y307,hy307⟩:∃ y_:List Int,y_=(([]:List Int)):=⟨_,rfl⟩
   replace H:(if y307.length + ((rd_T77 l0_1 x14_1).f1).length < 17592186044416 then (if x3_1.length < 1954687338268 then (spec_l4Own.l0 k1 (x3_1 ++ [(⟨(⟨(rd_T77 l0_1 x14_1).f0.f0,(rd_T77 l0_1 x14_1).f0.f1,(rd_T77 l0_1 x14_1).f0.f2,(rd_T77 l0_1 x14_1).f0.f3⟩:S28),(y307 ++ ((rd_T77 l0_1 x14_1).f1))⟩:S77)]) l0_1 (l0_1.length:Int) (wrap64 (x14_1 + 1)) y302 l0_1) else (none)) else (none))=some (r1,r2):=ry hy307 H
   have Ny307:=AsZ.mk hy307
   clear hy307
   by_cases c15:y307.length + ((rd_T77 l0_1 x14_1).f1).length < 17592186044416
   rotate_left
   · rw [if_neg c15] at H
     exact absurd H (by simp)
   rw [if_pos c15] at H
   have LMc15:=AsZ.mk c15
   clear c15
   obtain ⟨y310,hy310⟩:∃ y_:List Int,y_=(y307 ++ ((rd_T77 l0_1 x14_1).f1)):=⟨_,rfl⟩
   replace H:(if x3_1.length < 1954687338268 then (spec_l4Own.l0 k1 (x3_1 ++ [(⟨(⟨(rd_T77 l0_1 x14_1).f0.f0,(rd_T77 l0_1 x14_1).f0.f1,(rd_T77 l0_1 x14_1).f0.f2,(rd_T77 l0_1 x14_1).f0.f3⟩:S28),y310⟩:S77)]) l0_1 (l0_1.length:Int) (wrap64 (x14_1 + 1)) y302 l0_1) else (none))=some (r1,r2):=ry hy310 H
   have Ny310:=AsZ.mk hy310
   clear hy310
   by_cases c16:x3_1.length < 1954687338268
   rotate_left
   · rw [if_neg c16] at H
     exact absurd H (by simp)
   rw [if_pos c16] at H
   have LMc16:=AsZ.mk c16
   clear c16
   obtain ⟨y313,hy313⟩:∃ y_:List (S77),y_=(x3_1 ++ [(⟨(⟨(rd_T77 l0_1 x14_1).f0.f0,(rd_T77 l0_1 x14_1).f0.f1,(rd_T77 l0_1 x14_1).f0.f2,(rd_T77 l0_1 x14_1).f0.f3⟩:S28),y310⟩:S77)]):=⟨_,rfl⟩
   replace H:(spec_l4Own.l0 k1 y313 l0_1 (l0_1.length:Int) (wrap64 (x14_1 + 1)) y302 l0_1)=some (r1,r2):=ry hy313 H
   have Ny313:=AsZ.mk hy313
   clear hy313
   have H':=AsZ.mk H
   clear H
   have p305:0≤(x14_1:Int):=dd
   have q305:x14_1 < (l0_1.length:Int):=dd
   obtain ⟨ad305,A305_4,c305_4,e305,hx305_0,hx305_1,hx305_2,hx305_3,hx305_4,hl305_4,hi305_4⟩:=at_T77 HR0_1.out x14_1 p305 q305
   cases e305
   replace hx305_0:=(HB.out.cell (zB w _ hx305_0)).trans hx305_0
   replace hx305_1:=(HB.out.cell (zB w _ hx305_1)).trans hx305_1
   replace hx305_2:=(HB.out.cell (zB w _ hx305_2)).trans hx305_2
   replace hx305_3:=(HB.out.cell (zB w _ hx305_3)).trans hx305_3
   replace hx305_4:=(HB.out.cell (zB w _ hx305_4)).trans hx305_4
   have HR305_4:=AsZ.mk hi305_4
   have HC305_4:=AsZ.mk hl305_4
   clear hi305_4 hl305_4
   replace p305:=eq_true p305
   replace q305:=eq_true q305
   go_wp2_with (first|((with_reducible refine gate_dst (N:=5) rfl ?_);refine bev 5 77 (cs:=#[.string (⟨#[]⟩:ByteArray),.int .i64 0,.int .i64 0,.string (⟨#[]⟩:ByteArray),.slice none 0 0]) ?_;intro gb306 hg w17 hbox hb;have BK306:=AsZ.mk (hbox);have GW306:=gz HB hg;have GE306:=gz HB hg;have NB297_306:=nl BK297 hg;have NB306_297:=nr BK297 hg;have NB298_306:=nl BK298 hg;have NB306_298:=nr BK298 hg;replace HO_3:=AsZ.mk (Kd.S_below (Kd.S_elderB (kS HO_3) gb306 (Nat.le_of_eq hg.symm)) hb);replace HO_298000:=rR HO_298000 hb;replace BK297:=bb BK297 hb;replace BK298:=bb BK298 hb;replace HB:=bp hb;clear hb hbox hg;have hnb18:=NB306_297.out;have hnc18:=NB297_306.out;have hnb19:=NB306_298.out;have hnc19:=NB298_306.out;obtain ⟨hcz20_0,hcz20_1,hcz20_2,hcz20_3,hcz20_4,hfz20_0,hfz20_1,hfz20_2,hfz20_3,hfz20_4⟩:=bx5 BK306)|((with_reducible refine gate_dst (N:=18) rfl ?_);refine Kd.R_lit (Kd.int .i64) _ 3 ?hg (N:=18) ?hd (xs:=([]:List Int)) (inner:=[]) (ok:=fun _=>True) (okp:=fun _=>True) ?hr ?hp (fun _ hk=>hk) trivial (Below.refl _ _) (Nat.le_refl _) (by simp) ?_;(case hd=>rfl);(case hg=>rfl);(case hr=>first|(go_simp;done)|(go_simp;rfl));(case hp=>exact (Reps.none _ _));intro v308 w21 ho22 hb hg_ hnew_;clear hg_ hnew_;(first|rw [← Ny307.out] at ho22|(simp only [Int.reduceToNat] at ho22;rw [← Ny307.out] at ho22));have HO309:=AsZ.mk (Kd.R_lower (Kd.R_new' ho22 (Kd.R_lt (by (with_reducible repeat (first|apply Kd.R_alloc|apply Kd.R_drewN|apply Kd.R_drew));exact (Kd.R_mono (fR (fR (fR (fR (fR (Kd.R_types HO_298000.out BK306.out (by decide))))))) (fun _ h_=>h_.1))))) (bwz bel));replace HO_3:=AsZ.mk (Kd.S_elder' (by (with_reducible repeat (first|apply Kd.S_alloc|apply Kd.S_drewN|apply Kd.S_drew));exact (Kd.S_mono (fS (fS (fS (fS (fS (Kd.S_mono HO_3.out (fun k_ hk=>(⟨hk,hk.2⟩:_∧k_ ≠ gb306)))))))) (fun _ h_=>h_.1))) (Kd.R_base ho22) hb);replace HO_298000:=AsZ.mk (Kd.R_elder' (by (with_reducible repeat (first|apply Kd.R_alloc|apply Kd.R_drewN|apply Kd.R_drew));exact (Kd.R_mono (fR (fR (fR (fR (fR (Kd.R_types HO_298000.out BK306.out (by decide))))))) (fun _ h_=>h_.1))) (Kd.R_base ho22) hb);replace BK297:=AsZ.mk (kb (g:=gb297) (o := .cells #[.slice Ao10 y302.length co10,.slice (some ad305) l0_1.length c0_1] 26 (0,0)) (bq BK297) hb);replace BK298:=AsZ.mk (kb (g:=gb298) (o := .cells #[.slice none 0 0,.slice none 0 0] 26 (0,0)) (bq BK298) hb);replace BK306:=AsZ.mk (kb (g:=gb306) (o := .cells #[.string ((rd_T77 l0_1 x14_1).f0.f0),.int .i64 ((rd_T77 l0_1 x14_1).f0.f1),.int .i64 ((rd_T77 l0_1 x14_1).f0.f2),.string ((rd_T77 l0_1 x14_1).f0.f3),.slice A305_4 ((rd_T77 l0_1 x14_1).f1).length c305_4] 77 (0,0)) (bq BK306) hb);replace HB:=bp hb;clear hb ho22;obtain ⟨hcz23_0,hcz23_1,hcz23_2,hcz23_3,hcz23_4,hfz23_0,hfz23_1,hfz23_2,hfz23_3,hfz23_4⟩:=bx5 BK306)|((with_reducible refine gate_builtin (b := .append) (xs:=#[.tmp 18,.tmp 20]) rfl ?_);at_builtin;refine Kd.R_append_rows (Kd.int .i64) (w0:=w) w.heap.size rfl (.tmp 18) (.tmp 20) 23 3 (.int .i64 0) 8 rfl Tryd.underlying23 info3 rfl (by decide) (by omega) v308 y307 ((rd_T77 l0_1 x14_1).f1) _ _ _ (fun k_=>some k_ ≠ (.slice Ao10 y302.length co10:Value).ownBlock) (fun _=>False) rfl rfl ?aO ?aR (fun _ _ h=>h) (fun _ h=>h.elim) ?aF ?aB ?aS ?aL ?_;(case aR=>repeat (first|exact (Kd.C_below HR305_4.out HB.out)|(with_reducible refine Kd.C_alloc ?_ _)|(with_reducible refine Kd.C_drewN ?_ _)|(with_reducible refine Kd.C_drew ?_)));(case aB=>exact bel);(case aF=>exact (fun k_ hk=>Kd.fresh' (Kd.R_lt (kR HO_298000)) k_ hk));(case aO=>exact (by (with_reducible repeat (first|apply Kd.R_alloc|apply Kd.R_drewN|apply Kd.R_drew));exact Kd.R_mono HO309.out (fun _ hk=>hk.2)));(case aS=>exact (bwz bel));(case aL=>have:=LMc15.out;omega);intro v311 w24 ho hb hg hat;rw [← Ny310.out] at ho;have HO312:=AsZ.mk (ho);replace HO_3:=AsZ.mk (Kd.S_after (ok:=(fun k_=>some k_ ≠ (.slice Ao10 y302.length co10:Value).ownBlock∧k_ ≠ gb306)) (kS HO_3) hg hat);replace HO_298000:=AsZ.mk (Kd.R_after (ok:=(fun _=>True)) (kR HO_298000) hg hat);replace BK297:=AsZ.mk (blk_grown (bk BK297) hg (Kd.R_ne HO309.out BK297.out (by decide)));replace BK298:=AsZ.mk (blk_grown (bk BK298) hg (Kd.R_ne HO309.out BK298.out (by decide)));replace BK306:=AsZ.mk (blk_grown (bk BK306) hg (Kd.R_ne HO309.out BK306.out (by decide)));replace HB:=AsZ.mk (hb);clear HO309;clear ho hb hg hat;obtain ⟨Ao25,co25,eo25⟩:=Kd.R_slice HO312.out;subst eo25;obtain ⟨hcz26_0,hcz26_1,hcz26_2,hcz26_3,hcz26_4,hfz26_0,hfz26_1,hfz26_2,hfz26_3,hfz26_4⟩:=bx5 BK306)|((with_reducible refine gate_store (t:=23) (p:=22) rfl ?_);refine store_event (t:=23) (p:=22) (v:=?vo_w27) (w1:=(w24.setCell ⟨gb306,4,none⟩ (.slice Ao25 y310.length co25))) ?hg ?ho ?hn ?hr ?_;(case ho=>rfl);(case hg=>rfl);(case hn=>rfl);(case hr=>first|(go_simp;done)|(go_simp;rfl));intro w27 hw;have n0_:AsZ (Kd.S k77 77 w27 w.heap.size (fun k_=>some k_ ≠ (.slice Ao10 y302.length co10:Value).ownBlock∧some k_ ≠ (.slice Ao25 y310.length co25:Value).ownBlock∧k_ ≠ gb306) u3 x3_1):=⟨(by rw [hw];exact (by (with_reducible repeat (first|apply Kd.S_alloc|apply Kd.S_drewN|apply Kd.S_drew));exact Kd.S_mono (fS (Kd.S_mono HO_3.out (fun k_ hk=>(⟨hk,hk.1.2⟩:_∧k_ ≠ gb306)))) (fun _ hk=>⟨hk.1.1.1,⟨hk.1.2,hk.1.1.2⟩⟩)))⟩;have n1_:AsZ (Kd.R (Kd.int .i64) 3 w27 w.heap.size (fun k_=>some k_ ≠ (.slice Ao25 y310.length co25:Value).ownBlock) (.slice Ao10 y302.length co10) y302):=⟨(by rw [hw];exact (by (with_reducible repeat (first|apply Kd.R_alloc|apply Kd.R_drewN|apply Kd.R_drew));exact Kd.R_mono (fR (Kd.R_types HO_298000.out BK306.out (by decide))) (fun _ hk=>hk.1.2)))⟩;have n2_:AsZ (Kd.R (Kd.int .i64) 3 w27 w.heap.size (fun k_=>some k_ ≠ (.slice Ao10 y302.length co10:Value).ownBlock) (.slice Ao25 y310.length co25) y310):=⟨(by rw [hw];exact (by (with_reducible repeat (first|apply Kd.R_alloc|apply Kd.R_drewN|apply Kd.R_drew));exact Kd.R_mono (fR (Kd.R_types HO312.out BK306.out (by decide))) (fun _ hk=>hk.1)))⟩;have n3_:AsZ (w27.heap[gb297]? = some (.cells #[.slice Ao10 y302.length co10,.slice (some ad305) l0_1.length c0_1] 26 (0,0))):=⟨(by rw [hw];exact (bq BK297))⟩;have n4_:AsZ (w27.heap[gb298]? = some (.cells #[.slice none 0 0,.slice none 0 0] 26 (0,0))):=⟨(by rw [hw];exact (bq BK298))⟩;have n5_:AsZ (w27.heap[gb306]? = some (.cells #[.string ((rd_T77 l0_1 x14_1).f0.f0),.int .i64 ((rd_T77 l0_1 x14_1).f0.f1),.int .i64 ((rd_T77 l0_1 x14_1).f0.f2),.string ((rd_T77 l0_1 x14_1).f0.f3),.slice Ao25 y310.length co25] 77 (0,0))):=⟨(by rw [hw];exact (bq BK306))⟩;have n6_:AsZ (Below w.heap.size w w27):=⟨(by rw [hw];exact bel)⟩;clear hw;clear HO_3;clear HO_298000;clear HO312;clear BK297;clear BK298;clear BK306;clear HB;have HO_3:=n0_;have HO_298000:=n1_;have HO312:=n2_;have BK297:=n3_;have BK298:=n4_;have BK306:=n5_;have HB:=n6_;clear n0_ n1_ n2_ n3_ n4_ n5_ n6_;obtain ⟨hcz28_0,hcz28_1,hcz28_2,hcz28_3,hcz28_4,hfz28_0,hfz28_1,hfz28_2,hfz28_3,hfz28_4⟩:=bx5 BK306)|((with_reducible refine gate_builtin (b := .append) (xs:=#[.tmp 23,.tmp 25]) rfl ?_);at_builtin;refine Kd.S_append k77 (w0:=w) w.heap.size rfl (.tmp 23) (.tmp 25) 24 77 (.agg #[(.string ⟨#[]⟩),(.int .i64 0),(.int .i64 0),(.string ⟨#[]⟩),(.slice none 0 0)]) 72 rfl Tryd.underlying24 info77 rfl (by decide) (by omega) u3 x3_1 (⟨(⟨(rd_T77 l0_1 x14_1).f0.f0,(rd_T77 l0_1 x14_1).f0.f1,(rd_T77 l0_1 x14_1).f0.f2,(rd_T77 l0_1 x14_1).f0.f3⟩:S28),y310⟩:S77) [.string ((rd_T77 l0_1 x14_1).f0.f0),.int .i64 ((rd_T77 l0_1 x14_1).f0.f1),.int .i64 ((rd_T77 l0_1 x14_1).f0.f2),.string ((rd_T77 l0_1 x14_1).f0.f3),.slice Ao25 y310.length co25] (fun k_=>some k_ ≠ (.slice Ao10 y302.length co10:Value).ownBlock∧k_ ≠ gb306) (fun k_=>some k_=(.slice Ao25 y310.length co25:Value).ownBlock) rfl rfl ?aP (fun k_ hk_=>((Kd.R_mono (ok':=fun k_=>((fun k_=>some k_ ≠ (.slice Ao10 y302.length co10:Value).ownBlock∧k_ ≠ gb306)) k_∧some k_ ≠ (u3:Value).ownBlock) (Kd.R_types (Kd.R_apart' (HO312.out) (Kd.S_typed HO_3.out) (by decide)) BK306.out (by decide)) (fun k_ hk=>⟨⟨hk.1.1,hk.2⟩,hk.1.2⟩))).1 k_ hk_.symm) ?aF ?aO ?aB ?aS ?aL ?_;(case aP=>exact k77_mkM _ _ _ (⟨(⟨(rd_T77 l0_1 x14_1).f0.f0,(rd_T77 l0_1 x14_1).f0.f1,(rd_T77 l0_1 x14_1).f0.f2,(rd_T77 l0_1 x14_1).f0.f3⟩:S28),y310⟩:S77) (Kd.R_mono (Kd.R_tight rfl (Kd.R_mono (ok':=fun k_=>((fun k_=>some k_ ≠ (.slice Ao10 y302.length co10:Value).ownBlock∧k_ ≠ gb306)) k_∧some k_ ≠ (u3:Value).ownBlock) (Kd.R_types (Kd.R_apart' (HO312.out) (Kd.S_typed HO_3.out) (by decide)) BK306.out (by decide)) (fun k_ hk=>⟨⟨hk.1.1,hk.2⟩,hk.1.2⟩))) (fun _ h_=>h_)));(case aB=>exact bel);(case aF=>exact (fun k_ hk=>⟨Kd.fresh' (Kd.R_lt (kR HO_298000)) k_ hk,Kd.freshB (bk BK306) k_ hk⟩));(case aO=>exact (by (with_reducible repeat (first|apply Kd.S_alloc|apply Kd.S_drewN|apply Kd.S_drew));exact Kd.S_mono HO_3.out (fun k_ hk=>⟨⟨hk.1,hk.2.2⟩,fun e_=>hk.2.1 e_⟩)));(case aS=>exact (bwz bel));(case aL=>have:=LMc16.out;omega);intro v314 w29 ho hb hg hat;rw [← Ny313.out] at ho;have HO315:=AsZ.mk (ho);replace HO_298000:=AsZ.mk (Kd.R_over' (kR HO_298000) (Kd.S_typed (kS HO_3)) (by decide) hg);replace BK297:=AsZ.mk (blk_grown (bk BK297) hg (Kd.S_ne HO_3.out BK297.out (by decide)));replace BK298:=AsZ.mk (blk_grown (bk BK298) hg (Kd.S_ne HO_3.out BK298.out (by decide)));replace BK306:=AsZ.mk (blk_grown (bk BK306) hg (Kd.S_away HO_3.out (fun _ hk=>hk.2.2)));replace HB:=AsZ.mk (hb);clear HO_3 HO312;clear ho hb hg hat))
   go_roundg k1
   case measure=>have:=HK1.out;omega
   case rel=>exact ⟨(y313),(wrap64 (x14_1 + 1)),rs,H',⟨by have:=HK1.out;omega⟩,⟨by (with_reducible repeat (first|apply Kd.S_alloc|apply Kd.S_drewN|apply Kd.S_drew));exact Kd.S_mono HO315.out (fun _ hk=>hk.1)⟩,⟨by (with_reducible repeat (first|apply Kd.R_alloc|apply Kd.R_drewN|apply Kd.R_drew));exact Kd.R_mono HO_298000.out (fun _ hk=>trivial)⟩,⟨bk BK297⟩,⟨bk BK298⟩,⟨bel⟩⟩
end Go.Proofs.YtffjlpphcjfdgaaDoor.MFnFound
