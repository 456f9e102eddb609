-- Written by a program of this session out of the translation. Not trusted: Lean checks it.
import Derived.Test.YtffjlpphcjfdgaaDoorDFnExactInsertSkipx10
namespace Go.Proofs.YtffjlpphcjfdgaaDoor.MFnExactInsertSkip
-- joined
-- short
-- shrunk
-- TAB
-- RD
open Go.Proofs.YtffjlpphcjfdgaaDoor Go.RowKit Go.Proofs.YtffjlpphcjfdgaaDoorW.PrintWords Go.Proofs.YtffjlpphcjfdgaaDoorW.PrintLast Go.Proofs.YtffjlpphcjfdgaaDoorW.PrintMore Go.Proofs.YtffjlpphcjfdgaaDoorX
attribute [local go_sem] max2_int min2_int max_two min_two max_three min_three max_four min_four str_gtr str_leq str_geq cell_twice
set_option linter.unusedVariables false
set_option linter.unusedSimpArgs false
-- COMPACT
set_option maxHeartbeats 8000000 in
set_option maxRecDepth 100000 in
theorem spec_GoodSkip.calls (k:Nat) (A0_0:Option Addr) (c0_0:Nat) (l0_0:List Int) (A0_1:Option Addr) (c0_1:Nat) (l0_1:List (S77)) (r:Bool) (w:World) (hr0_0:Kd.C (Kd.int .i64) w A0_0 l0_0.length l0_0) (hc0_0:l0_0.length≤c0_0) (hr0_1:Kd.C k77 w A0_1 l0_1.length l0_1) (hc0_1:l0_1.length≤c0_1) (h:spec_GoodSkip.f k l0_0 l0_1=some r) :
    Calls Tryd.prog 30 #[.agg #[.slice A0_0 l0_0.length c0_0,.slice A0_1 l0_1.length c0_1]] w fun e w'=>e = .returned (.bool r)∧Below w.heap.size w w':=by
 have hu26:=Tryd.underlying26;have hu77:=Tryd.underlying77;have hu28:=Tryd.underlying28;have HR0_0:=AsZ.mk hr0_0;have HC0_0:=AsZ.mk hc0_0;clear hr0_0 hc0_0;have HR0_1:=AsZ.mk hr0_1;have HC0_1:=AsZ.mk hc0_1;clear hr0_1 hc0_1;have HB:=AsZ.mk (Below.refl w.heap.size w);have H:(if (l0_0.length:Int)=5 then (spec_GoodSkip.j0 k (decide ((l0_1.length:Int) > 60)) l0_0 l0_1) else (spec_GoodSkip.j0 k true l0_0 l0_1))=some r:=h;clear h;have HC2:=AsZ.mk H;clear H;go_enter Tryd.func30,Tryd.ntmps30;go_upto_region 1 with (first|((with_reducible refine gate_dst (N:=1) rfl ?_);(try (refine gate_guard (by rfl) ?_;dsimp only));refine bev 1 26 (cs:=#[.slice A0_0 l0_0.length c0_0,.slice A0_1 l0_1.length c0_1]) ?_;intro gb239 hg w3 hbox hb;have BK239:=AsZ.mk (hbox);have GW239:=gz HB hg;have GE239:=gz HB hg;replace HB:=bp hb;clear hb hbox hg))
 (try simp only [Act.put,zS,zT,zU])
 go_cut [23] (fun v23 wc => ∃ (kq:Nat) (x23_1:Bool),v23 = .bool x23_1∧AsZ (spec_GoodSkip.j0 kq x23_1 l0_0 l0_1=some r)∧AsZ (kq≤k)∧AsZ (wc.heap[gb239]? = some (.cells #[(.slice A0_0 l0_0.length c0_0),(.slice A0_1 l0_1.length c0_1)] 26 (0,0)))∧AsZ (Below w.heap.size w wc))
 case first =>
  have H:=HC2.out;clear HC2;by_cases c4:(l0_0.length:Int)=5;rotate_left
  · rw [if_neg c4] at H
    have c4b0:((l0_0.length:Int) == 5)=false:=beq_eq_false_iff_ne.mpr c4;have c4b1:((l0_0.length:Int) != 5)=true:=bne_iff_ne.mpr c4;(first|rw [c4b0]|(simp only [i64_w,i32_w];rw [c4b0])|rw [c4b1]|skip);have H':=AsZ.mk H;clear H;obtain ⟨hcz6_0,hcz6_1,hfz6_0,hfz6_1⟩:=bx2 BK239;go_wp2;go_meet
    case rel=>exact ⟨_,(true),rs,H',⟨lo⟩,⟨bk BK239⟩,⟨bel⟩⟩
  rw [if_pos c4] at H;have c4b0:((l0_0.length:Int) == 5)=true:=beq_iff_eq.mpr c4;have c4b1:((l0_0.length:Int) != 5)=false:=bne_eq_false_iff_eq.mpr c4;clear c4;(first|rw [c4b0]|(simp only [i64_w,i32_w];rw [c4b0])|rw [c4b1]|skip);have H':=AsZ.mk H;clear H;obtain ⟨hcz5_0,hcz5_1,hfz5_0,hfz5_1⟩:=bx2 BK239;go_wp2;go_meet
  case rel=>exact ⟨_,(decide ((l0_1.length:Int) > 60)),rs,H',⟨lo⟩,⟨bk BK239⟩,⟨bel⟩⟩
 case rest =>
  clear HC2
  try clear p2
  try clear c4b0
  try clear c4b1
  try clear hcz5_0 hcz5_1 hfz5_0 hfz5_1
  try clear hcz6_0 hcz6_1 hfz6_0 hfz6_1
  obtain ⟨kq,x23_1,rfl,HA,HJ1,BK239,HB⟩:=hcut
  cases kq with
  |zero=>exact absurd HA.out (by simp [spec_GoodSkip.j0])
  |succ kj1 =>
   have H:=HA.out;clear HA;simp only [spec_GoodSkip.j0] at H;by_cases c7:x23_1=true
   · subst c7
     replace H:=iP H;obtain rfl:=zI H;go_wp2;go_ret;exact ⟨re,bel⟩
   replace c7:=Bool.eq_false_iff.mpr c7;subst c7;replace H:=iN H;replace H:=bs H;obtain ⟨t240,A8,H⟩:=H;by_cases c9:5≤35184372088832;rotate_left
   · rw [if_neg c9] at H
     exact absurd H (by simp)
   rw [if_pos c9] at H;have c9b0:=eq_true c9;have c9b1:=zE c9;clear c9;obtain ⟨y243,hy243⟩:∃ y_:List Int,y_=(List.replicate 5 0):=⟨_,rfl⟩;replace H:(spec_GoodSkip.l0 kj1 t240 y243 l0_1 (l0_1.length:Int) 0 l0_0 l0_1)=some r:=ry hy243 H;have Ny243:=AsZ.mk hy243;clear hy243;have H':=AsZ.mk H;clear H;go_wp2_with (first|((with_reducible refine gcl (f:=56) rfl ?_);refine gk (some 24) Tryd.func56 #[] ?_;(with_reducible refine (spec_l2Table.calls kj1  t240 _ A8.out).mono ?_);rintro e w10 ⟨v241,rfl,ho0,hb⟩;refine ⟨_,rfl,?_⟩;have HO242:=AsZ.mk (Kd.R_lower ho0 (bwz bel));replace BK239:=bb BK239 hb;replace HB:=bp hb;(try clear hb);(try clear hb2);(try clear hk);(try clear hi);(try clear ho0))|((with_reducible refine gate_dst (N:=25) rfl ?_);(try (refine gate_guard (by rfl) ?_;dsimp only));refine Kd.R_make (Kd.int .i64) _ 3 rfl (N:=25) rfl 23 _ _ rfl 5 rfl rfl Tryd.underlying23 (.int .i64 0) 8 info3 rfl (by decide) (by omega) 0 (ok:=fun _=>True) (okp:=fun _=>True) rfl (fun _ hk=>hk) trivial (by omega) (by omega) (Below.refl _ _) (Nat.le_refl _) ?_;intro v244 w11 ho12 hb hg_ hnew_;clear hg_ hnew_;(first|rw [← Ny243.out] at ho12|(simp only [Int.reduceToNat] at ho12;rw [← Ny243.out] at ho12));have HO245:=AsZ.mk (Kd.R_lower ho12 (bwz bel));replace HO242:=rR HO242 hb;replace BK239:=bb BK239 hb;replace HB:=bp hb;clear hb ho12;obtain ⟨hcz13_0,hcz13_1,hfz13_0,hfz13_1⟩:=bx2 BK239))
   go_loopg [29] kj1 (fun kq v29 w' => ∃ (x4_2:List Int) (x29_2:Int),v29 = .int .i64 x29_2∧AsZ (spec_GoodSkip.l0 kq t240 x4_2 l0_1 (l0_1.length:Int) x29_2 l0_0 l0_1=some r)∧AsZ (kq≤kj1)∧AsZ (Kd.R (Kd.int .u32) 106 w' w.heap.size (fun _=>True) v241 t240)∧AsZ (Kd.R (Kd.int .i64) 3 w' w.heap.size (fun _=>True) v244 x4_2)∧AsZ (w'.heap[gb239]? = some (.cells #[(.slice A0_0 l0_0.length c0_0),(.slice A0_1 l0_1.length c0_1)] 26 (0,0)))∧AsZ (Below w.heap.size w w'))
   case atStart=>exact ⟨(y243),(0),rs,H',⟨Nat.le_refl _⟩,⟨kR HO242⟩,⟨kR HO245⟩,⟨bk BK239⟩,⟨bel⟩⟩
   case round =>
    clear H'
    try clear p2
    try clear c4b0
    try clear c4b1
    try clear c9b0
    try clear c9b1
    try clear hcz13_0 hcz13_1 hfz13_0 hfz13_1
    try clear hcz5_0 hcz5_1 hfz5_0 hfz5_1
    try clear hcz6_0 hcz6_1 hfz6_0 hfz6_1
    obtain ⟨x4_2,x29_2,rfl,HA,HK2,HO_3,HO_4,BK239,HB⟩:=hrel
    cases gk with
    |zero=>exact absurd HA.out (by simp [spec_GoodSkip.l0])
    |succ k2 =>
     have H:=HA.out;clear HA;simp only [spec_GoodSkip.l0] at H;by_cases c14:x29_2 < (l0_1.length:Int)
     · rw [if_pos c14] at H
       have c14b0:=zE c14;clear c14;by_cases c15:0≤x29_2;rotate_left
       · rw [if_neg c15] at H
         exact absurd H (by simp)
       rw [if_pos c15] at H;have c15b0:=zE c15;clear c15;by_cases c16:x29_2 < (l0_1.length:Int);rotate_left
       · rw [if_neg c16] at H
         exact absurd H (by simp)
       rw [if_pos c16] at H;have c16b0:=zE c16;clear c16;have HC17:=AsZ.mk H;clear H;have p246:0≤(x29_2:Int):=dd;have q246:x29_2 < (l0_1.length:Int):=dd;obtain ⟨ad246,A246_4,c246_4,e246,hx246_0,hx246_1,hx246_2,hx246_3,hx246_4,hl246_4,hi246_4⟩:=at_T77 HR0_1.out x29_2 p246 q246;cases e246;replace hx246_0:=pcb HB.out hx246_0;replace hx246_1:=pcb HB.out hx246_1;replace hx246_2:=pcb HB.out hx246_2;replace hx246_3:=pcb HB.out hx246_3;replace hx246_4:=pcb HB.out hx246_4;have HR246_4:=AsZ.mk hi246_4;have HC246_4:=AsZ.mk hl246_4;clear hi246_4 hl246_4;replace p246:=eq_true p246;replace q246:=eq_true q246;go_upto_region 8 with (first|((with_reducible refine gate_dst (N:=6) rfl ?_);(try (refine gate_guard (by rfl) ?_;dsimp only));refine bev 6 77 (cs:=#[.string (⟨#[]⟩:ByteArray),.int .i64 0,.int .i64 0,.string (⟨#[]⟩:ByteArray),.slice none 0 0]) ?_;intro gb247 hg w18 hbox hb;have BK247:=AsZ.mk (hbox);have GW247:=gz HB hg;have GE247:=gz HB hg;have NB239_247:=nl BK239 hg;have NB247_239:=nr BK239 hg;replace HO_3:=rR HO_3 hb;replace HO_4:=rR HO_4 hb;replace BK239:=bb BK239 hb;replace HB:=bp hb;clear hb hbox hg;have hnb19:=NB247_239.out;have hnc19:=NB239_247.out;obtain ⟨hcz20_0,hcz20_1,hcz20_2,hcz20_3,hcz20_4,hfz20_0,hfz20_1,hfz20_2,hfz20_3,hfz20_4⟩:=bx5 BK247))
       (try simp only [Act.put,zS,zT,zU])
       go_cut [51] (fun v51 wc => ∃ (kq:Nat) (x51_16:Bool),v51 = .bool x51_16∧AsZ (spec_GoodSkip.j2 kq t240 x4_2 x29_2 l0_1 (l0_1.length:Int) x29_2 x51_16 l0_0 l0_1 ((rd_T77 l0_1 x29_2).f0.f0) ((rd_T77 l0_1 x29_2).f0.f1) ((rd_T77 l0_1 x29_2).f0.f2) ((rd_T77 l0_1 x29_2).f0.f3) ((rd_T77 l0_1 x29_2).f1)=some r)∧AsZ (kq≤k2)∧AsZ (Kd.R (Kd.int .u32) 106 wc w.heap.size (fun _=>True) v241 t240)∧AsZ (Kd.R (Kd.int .i64) 3 wc w.heap.size (fun _=>True) v244 x4_2)∧AsZ (wc.heap[gb239]? = some (.cells #[(.slice A0_0 l0_0.length c0_0),(.slice (some ad246) l0_1.length c0_1)] 26 (0,0)))∧AsZ (wc.heap[gb247]? = some (.cells #[.string ((rd_T77 l0_1 x29_2).f0.f0),.int .i64 ((rd_T77 l0_1 x29_2).f0.f1),.int .i64 ((rd_T77 l0_1 x29_2).f0.f2),.string ((rd_T77 l0_1 x29_2).f0.f3),(.slice A246_4 ((rd_T77 l0_1 x29_2).f1).length c246_4)] 77 (0,0)))∧AsZ (Below w.heap.size w wc))
       case first =>
        have H:=HC17.out;clear HC17;replace H:=bs H;obtain ⟨t248,A21,H⟩:=H;by_cases c22:t248=true;rotate_left
        · replace c22:=Bool.eq_false_iff.mpr c22
          subst c22;replace H:=iN H;have H':=AsZ.mk H;clear H
          try go_wp2
          have n0_:AsZ (Kd.R (Kd.int .u32) 106 (((((w18.setCell ⟨gb247,0,none⟩ (.string ((rd_T77 l0_1 x29_2).f0.f0))).setCell ⟨gb247,1,none⟩ (.int .i64 ((rd_T77 l0_1 x29_2).f0.f1))).setCell ⟨gb247,2,none⟩ (.int .i64 ((rd_T77 l0_1 x29_2).f0.f2))).setCell ⟨gb247,3,none⟩ (.string ((rd_T77 l0_1 x29_2).f0.f3))).setCell ⟨gb247,4,none⟩ (.slice A246_4 ((rd_T77 l0_1 x29_2).f1).length c246_4)) w.heap.size (fun _=>True) v241 t240):=⟨by (with_reducible repeat (first|apply Kd.R_alloc|apply Kd.R_drewN|apply Kd.R_drew));exact Kd.R_mono (fR (fR (fR (fR (fR (Kd.R_types HO_3.out BK247.out (by decide))))))) (fun _ hk=>trivial)⟩;have n1_:AsZ (Kd.R (Kd.int .i64) 3 (((((w18.setCell ⟨gb247,0,none⟩ (.string ((rd_T77 l0_1 x29_2).f0.f0))).setCell ⟨gb247,1,none⟩ (.int .i64 ((rd_T77 l0_1 x29_2).f0.f1))).setCell ⟨gb247,2,none⟩ (.int .i64 ((rd_T77 l0_1 x29_2).f0.f2))).setCell ⟨gb247,3,none⟩ (.string ((rd_T77 l0_1 x29_2).f0.f3))).setCell ⟨gb247,4,none⟩ (.slice A246_4 ((rd_T77 l0_1 x29_2).f1).length c246_4)) w.heap.size (fun _=>True) v244 x4_2):=⟨by (with_reducible repeat (first|apply Kd.R_alloc|apply Kd.R_drewN|apply Kd.R_drew));exact Kd.R_mono (fR (fR (fR (fR (fR (Kd.R_types HO_4.out BK247.out (by decide))))))) (fun _ hk=>trivial)⟩;have n2_:AsZ ((((((w18.setCell ⟨gb247,0,none⟩ (.string ((rd_T77 l0_1 x29_2).f0.f0))).setCell ⟨gb247,1,none⟩ (.int .i64 ((rd_T77 l0_1 x29_2).f0.f1))).setCell ⟨gb247,2,none⟩ (.int .i64 ((rd_T77 l0_1 x29_2).f0.f2))).setCell ⟨gb247,3,none⟩ (.string ((rd_T77 l0_1 x29_2).f0.f3))).setCell ⟨gb247,4,none⟩ (.slice A246_4 ((rd_T77 l0_1 x29_2).f1).length c246_4)).heap[gb239]? = some (.cells #[.slice A0_0 l0_0.length c0_0,.slice (some ad246) l0_1.length c0_1] 26 (0,0))):=⟨bq BK239⟩;have n3_:AsZ ((((((w18.setCell ⟨gb247,0,none⟩ (.string ((rd_T77 l0_1 x29_2).f0.f0))).setCell ⟨gb247,1,none⟩ (.int .i64 ((rd_T77 l0_1 x29_2).f0.f1))).setCell ⟨gb247,2,none⟩ (.int .i64 ((rd_T77 l0_1 x29_2).f0.f2))).setCell ⟨gb247,3,none⟩ (.string ((rd_T77 l0_1 x29_2).f0.f3))).setCell ⟨gb247,4,none⟩ (.slice A246_4 ((rd_T77 l0_1 x29_2).f1).length c246_4)).heap[gb247]? = some (.cells #[.string ((rd_T77 l0_1 x29_2).f0.f0),.int .i64 ((rd_T77 l0_1 x29_2).f0.f1),.int .i64 ((rd_T77 l0_1 x29_2).f0.f2),.string ((rd_T77 l0_1 x29_2).f0.f3),.slice A246_4 ((rd_T77 l0_1 x29_2).f1).length c246_4] 77 (0,0))):=⟨bq BK247⟩;have n4_:AsZ (Below w.heap.size w (((((w18.setCell ⟨gb247,0,none⟩ (.string ((rd_T77 l0_1 x29_2).f0.f0))).setCell ⟨gb247,1,none⟩ (.int .i64 ((rd_T77 l0_1 x29_2).f0.f1))).setCell ⟨gb247,2,none⟩ (.int .i64 ((rd_T77 l0_1 x29_2).f0.f2))).setCell ⟨gb247,3,none⟩ (.string ((rd_T77 l0_1 x29_2).f0.f3))).setCell ⟨gb247,4,none⟩ (.slice A246_4 ((rd_T77 l0_1 x29_2).f1).length c246_4))):=⟨bel⟩;(try clear HO_3);(try clear HO_4);(try clear BK239);(try clear BK247);(try clear HB);generalize (((((w18.setCell ⟨gb247,0,none⟩ (.string ((rd_T77 l0_1 x29_2).f0.f0))).setCell ⟨gb247,1,none⟩ (.int .i64 ((rd_T77 l0_1 x29_2).f0.f1))).setCell ⟨gb247,2,none⟩ (.int .i64 ((rd_T77 l0_1 x29_2).f0.f2))).setCell ⟨gb247,3,none⟩ (.string ((rd_T77 l0_1 x29_2).f0.f3))).setCell ⟨gb247,4,none⟩ (.slice A246_4 ((rd_T77 l0_1 x29_2).f1).length c246_4))=w29 at n0_ n1_ n2_ n3_ n4_ ⊢;have HO_3:=n0_;have HO_4:=n1_;have BK239:=n2_;have BK247:=n3_;have HB:=n4_;clear n0_ n1_ n2_ n3_ n4_;replace HO_3:=dR HO_3;replace HO_4:=dR HO_4;replace BK239:=db BK239;replace BK247:=db BK247;replace HB:=dB HB;refine start_ (n:=18) (S:=fun w'=>w'.cell? ⟨gb247,0,none⟩=some (.string ((rd_T77 l0_1 x29_2).f0.f0))∧w'.cell? ⟨gb247,1,none⟩=some (.int .i64 ((rd_T77 l0_1 x29_2).f0.f1))∧w'.cell? ⟨gb247,2,none⟩=some (.int .i64 ((rd_T77 l0_1 x29_2).f0.f2))∧w'.cell? ⟨gb247,3,none⟩=some (.string ((rd_T77 l0_1 x29_2).f0.f3))∧w'.cell? ⟨gb247,4,none⟩=some (.slice A246_4 ((rd_T77 l0_1 x29_2).f1).length c246_4)) (ds:=[]) (b_ 0 18) (by kernel_rfl) rfl rfl cl (fun hHeld=>?_);refine with_tabW spec_GoodSkip.tab8 spec_GoodSkip.bits8 (fun HT_ HW_=>?_);generalize w29.drew=w30 at HO_3 HO_4 BK239 BK247 HB hHeld ⊢;refine pu 0 34 (b_ 1 17) HT_.out ?_;refine tk5 1 35 (b_ 2 16) HT_.out HW_.out hHeld ?_;refine on 2 (some 36) (b_ 3 15) HT_.out (fun K hK=>?_);refine gs Tryd.func45 #[.agg #[.string ((rd_T77 l0_1 x29_2).f0.f0),.int .i64 ((rd_T77 l0_1 x29_2).f0.f1),.int .i64 ((rd_T77 l0_1 x29_2).f0.f2),.string ((rd_T77 l0_1 x29_2).f0.f3)]] ?_
          with_reducible refine (spec_GoodItem.calls ((rd_T77 l0_1 x29_2).f0.f0) ((rd_T77 l0_1 x29_2).f0.f1) ((rd_T77 l0_1 x29_2).f0.f2) ((rd_T77 l0_1 x29_2).f0.f3) false _ A21.out).mono ?_
          rintro e w31 ⟨rfl,hb⟩;refine ⟨_,rfl,?_⟩;replace HO_3:=rR HO_3 hb;replace HO_4:=rR HO_4 hb;replace BK239:=bb BK239 hb;replace BK247:=bb BK247 hb;replace HB:=bp hb;(try clear hb);(try clear hb2);(try clear hk);(try clear hi);refine hK.out _ _ cl (fun hHeld=>?_);clear hK K;refine norm_ (a':=?_) ?_ ?_;rotate_left
          · show Act.put _ (some 36) _=_
            simp only [Act.put,zS,zT,zU,i64_w,i32_w]
            rfl
          refine pu 3 37 (b_ 4 14) HT_.out ?_;refine pu 4 38 (b_ 5 13) HT_.out ?_;refine pd 5 39 (b_ 6 12) HT_.out ?_;refine pd 6 40 (b_ 7 11) HT_.out ?_;refine pd 7 41 (b_ 8 10) HT_.out ?_;refine pd 8 42 (b_ 9 9) HT_.out ?_;refine pd 9 43 (b_ 10 8) HT_.out ?_;refine pd 10 44 (b_ 11 7) HT_.out ?_;refine pd 11 45 (b_ 12 6) HT_.out ?_;refine pd 12 46 (b_ 13 5) HT_.out ?_;refine pd 13 47 (b_ 14 4) HT_.out ?_;refine pd 14 48 (b_ 15 3) HT_.out ?_;refine pd 15 49 (b_ 16 2) HT_.out ?_;refine pd 16 50 (b_ 17 1) HT_.out ?_;refine pu 17 51 (b_ 18 0) HT_.out ?_;refine dn_ (dnO HT_.out (by kernel_rfl)) ?_
          try go_wp2
          go_meet
          case rel=>exact ⟨_,(true),rs,H',⟨by have:=HJ1.out;have:=HK2.out;first|omega|exact Nat.le_refl _⟩,⟨kR HO_3⟩,⟨kR HO_4⟩,⟨bk BK239⟩,⟨bk BK247⟩,⟨bel⟩⟩
        subst c22;replace H:=iP H;replace H:=bs H;obtain ⟨t249,A23,H⟩:=H;have H':=AsZ.mk H;clear H
        try go_wp2
        have n0_:AsZ (Kd.R (Kd.int .u32) 106 (((((w18.setCell ⟨gb247,0,none⟩ (.string ((rd_T77 l0_1 x29_2).f0.f0))).setCell ⟨gb247,1,none⟩ (.int .i64 ((rd_T77 l0_1 x29_2).f0.f1))).setCell ⟨gb247,2,none⟩ (.int .i64 ((rd_T77 l0_1 x29_2).f0.f2))).setCell ⟨gb247,3,none⟩ (.string ((rd_T77 l0_1 x29_2).f0.f3))).setCell ⟨gb247,4,none⟩ (.slice A246_4 ((rd_T77 l0_1 x29_2).f1).length c246_4)) w.heap.size (fun _=>True) v241 t240):=⟨by (with_reducible repeat (first|apply Kd.R_alloc|apply Kd.R_drewN|apply Kd.R_drew));exact Kd.R_mono (fR (fR (fR (fR (fR (Kd.R_types HO_3.out BK247.out (by decide))))))) (fun _ hk=>trivial)⟩;have n1_:AsZ (Kd.R (Kd.int .i64) 3 (((((w18.setCell ⟨gb247,0,none⟩ (.string ((rd_T77 l0_1 x29_2).f0.f0))).setCell ⟨gb247,1,none⟩ (.int .i64 ((rd_T77 l0_1 x29_2).f0.f1))).setCell ⟨gb247,2,none⟩ (.int .i64 ((rd_T77 l0_1 x29_2).f0.f2))).setCell ⟨gb247,3,none⟩ (.string ((rd_T77 l0_1 x29_2).f0.f3))).setCell ⟨gb247,4,none⟩ (.slice A246_4 ((rd_T77 l0_1 x29_2).f1).length c246_4)) w.heap.size (fun _=>True) v244 x4_2):=⟨by (with_reducible repeat (first|apply Kd.R_alloc|apply Kd.R_drewN|apply Kd.R_drew));exact Kd.R_mono (fR (fR (fR (fR (fR (Kd.R_types HO_4.out BK247.out (by decide))))))) (fun _ hk=>trivial)⟩;have n2_:AsZ ((((((w18.setCell ⟨gb247,0,none⟩ (.string ((rd_T77 l0_1 x29_2).f0.f0))).setCell ⟨gb247,1,none⟩ (.int .i64 ((rd_T77 l0_1 x29_2).f0.f1))).setCell ⟨gb247,2,none⟩ (.int .i64 ((rd_T77 l0_1 x29_2).f0.f2))).setCell ⟨gb247,3,none⟩ (.string ((rd_T77 l0_1 x29_2).f0.f3))).setCell ⟨gb247,4,none⟩ (.slice A246_4 ((rd_T77 l0_1 x29_2).f1).length c246_4)).heap[gb239]? = some (.cells #[.slice A0_0 l0_0.length c0_0,.slice (some ad246) l0_1.length c0_1] 26 (0,0))):=⟨bq BK239⟩;have n3_:AsZ ((((((w18.setCell ⟨gb247,0,none⟩ (.string ((rd_T77 l0_1 x29_2).f0.f0))).setCell ⟨gb247,1,none⟩ (.int .i64 ((rd_T77 l0_1 x29_2).f0.f1))).setCell ⟨gb247,2,none⟩ (.int .i64 ((rd_T77 l0_1 x29_2).f0.f2))).setCell ⟨gb247,3,none⟩ (.string ((rd_T77 l0_1 x29_2).f0.f3))).setCell ⟨gb247,4,none⟩ (.slice A246_4 ((rd_T77 l0_1 x29_2).f1).length c246_4)).heap[gb247]? = some (.cells #[.string ((rd_T77 l0_1 x29_2).f0.f0),.int .i64 ((rd_T77 l0_1 x29_2).f0.f1),.int .i64 ((rd_T77 l0_1 x29_2).f0.f2),.string ((rd_T77 l0_1 x29_2).f0.f3),.slice A246_4 ((rd_T77 l0_1 x29_2).f1).length c246_4] 77 (0,0))):=⟨bq BK247⟩;have n4_:AsZ (Below w.heap.size w (((((w18.setCell ⟨gb247,0,none⟩ (.string ((rd_T77 l0_1 x29_2).f0.f0))).setCell ⟨gb247,1,none⟩ (.int .i64 ((rd_T77 l0_1 x29_2).f0.f1))).setCell ⟨gb247,2,none⟩ (.int .i64 ((rd_T77 l0_1 x29_2).f0.f2))).setCell ⟨gb247,3,none⟩ (.string ((rd_T77 l0_1 x29_2).f0.f3))).setCell ⟨gb247,4,none⟩ (.slice A246_4 ((rd_T77 l0_1 x29_2).f1).length c246_4))):=⟨bel⟩;(try clear HO_3);(try clear HO_4);(try clear BK239);(try clear BK247);(try clear HB);generalize (((((w18.setCell ⟨gb247,0,none⟩ (.string ((rd_T77 l0_1 x29_2).f0.f0))).setCell ⟨gb247,1,none⟩ (.int .i64 ((rd_T77 l0_1 x29_2).f0.f1))).setCell ⟨gb247,2,none⟩ (.int .i64 ((rd_T77 l0_1 x29_2).f0.f2))).setCell ⟨gb247,3,none⟩ (.string ((rd_T77 l0_1 x29_2).f0.f3))).setCell ⟨gb247,4,none⟩ (.slice A246_4 ((rd_T77 l0_1 x29_2).f1).length c246_4))=w24 at n0_ n1_ n2_ n3_ n4_ ⊢;have HO_3:=n0_;have HO_4:=n1_;have BK239:=n2_;have BK247:=n3_;have HB:=n4_;clear n0_ n1_ n2_ n3_ n4_;replace HO_3:=dR HO_3;replace HO_4:=dR HO_4;replace BK239:=db BK239;replace BK247:=db BK247;replace HB:=dB HB;refine start_ (n:=18) (S:=fun w'=>w'.cell? ⟨gb247,0,none⟩=some (.string ((rd_T77 l0_1 x29_2).f0.f0))∧w'.cell? ⟨gb247,1,none⟩=some (.int .i64 ((rd_T77 l0_1 x29_2).f0.f1))∧w'.cell? ⟨gb247,2,none⟩=some (.int .i64 ((rd_T77 l0_1 x29_2).f0.f2))∧w'.cell? ⟨gb247,3,none⟩=some (.string ((rd_T77 l0_1 x29_2).f0.f3))∧w'.cell? ⟨gb247,4,none⟩=some (.slice A246_4 ((rd_T77 l0_1 x29_2).f1).length c246_4)) (ds:=[]) (b_ 0 18) (by kernel_rfl) rfl rfl cl (fun hHeld=>?_);refine with_tabW spec_GoodSkip.tab8 spec_GoodSkip.bits8 (fun HT_ HW_=>?_);generalize w24.drew=w25 at HO_3 HO_4 BK239 BK247 HB hHeld ⊢;refine pu 0 34 (b_ 1 17) HT_.out ?_;refine tk5 1 35 (b_ 2 16) HT_.out HW_.out hHeld ?_;refine on 2 (some 36) (b_ 3 15) HT_.out (fun K hK=>?_);refine gs Tryd.func45 #[.agg #[.string ((rd_T77 l0_1 x29_2).f0.f0),.int .i64 ((rd_T77 l0_1 x29_2).f0.f1),.int .i64 ((rd_T77 l0_1 x29_2).f0.f2),.string ((rd_T77 l0_1 x29_2).f0.f3)]] ?_
        with_reducible refine (spec_GoodItem.calls ((rd_T77 l0_1 x29_2).f0.f0) ((rd_T77 l0_1 x29_2).f0.f1) ((rd_T77 l0_1 x29_2).f0.f2) ((rd_T77 l0_1 x29_2).f0.f3) true _ A21.out).mono ?_
        rintro e w26 ⟨rfl,hb⟩;refine ⟨_,rfl,?_⟩;replace HO_3:=rR HO_3 hb;replace HO_4:=rR HO_4 hb;replace BK239:=bb BK239 hb;replace BK247:=bb BK247 hb;replace HB:=bp hb;(try clear hb);(try clear hb2);(try clear hk);(try clear hi);obtain ⟨Ao27,co27,eo27⟩:=Kd.R_slice HO_3.out;(first|subst eo27|(injection eo27 with f1_ f2_ f3_;have f4_:=f1_.symm;have f5_:=f3_.symm;clear f1_ f2_ f3_;subst f4_;subst f5_));refine hK.out _ _ cl (fun hHeld=>?_);clear hK K;refine norm_ (a':=?_) ?_ ?_;rotate_left
        · show Act.put _ (some 36) _=_
          simp only [Act.put,zS,zT,zU,i64_w,i32_w]
          rfl
        refine pu 3 37 (b_ 4 14) HT_.out ?_;refine pu 4 38 (b_ 5 13) HT_.out ?_;refine pu 5 39 (b_ 6 12) HT_.out ?_;refine pu 8 42 #[true,true,true,true,true,true,false,false,true,false,false,false,false,false,false,false,false,false] HT_.out ?_;refine pu 9 43 #[true,true,true,true,true,true,false,false,true,true,false,false,false,false,false,false,false,false] HT_.out ?_;refine pu 10 44 #[true,true,true,true,true,true,false,false,true,true,true,false,false,false,false,false,false,false] HT_.out ?_;refine pu 12 46 #[true,true,true,true,true,true,false,false,true,true,true,false,true,false,false,false,false,false] HT_.out ?_;refine pu 13 47 #[true,true,true,true,true,true,false,false,true,true,true,false,true,true,false,false,false,false] HT_.out ?_;refine tk5 6 40 #[true,true,true,true,true,true,true,false,true,true,true,false,true,true,false,false,false,false] HT_.out HW_.out hHeld ?_;refine pu 7 41 #[true,true,true,true,true,true,true,true,true,true,true,false,true,true,false,false,false,false] HT_.out ?_;refine tk5 11 45 (b_ 14 4) HT_.out HW_.out hHeld ?_;refine tk5 14 48 (b_ 15 3) HT_.out HW_.out hHeld ?_;refine on 15 (some 49) (b_ 16 2) HT_.out (fun K hK=>?_);refine gs Tryd.func55 #[.slice Ao27 t240.length co27,.string ((rd_T77 l0_1 x29_2).f0.f0),.int .i64 ((rd_T77 l0_1 x29_2).f0.f1)] ?_
        with_reducible refine (spec_l4Tower.calls k2 _ _ t240 ((rd_T77 l0_1 x29_2).f0.f0) ((rd_T77 l0_1 x29_2).f0.f1) t249 _ ?side1 ?side2 A23.out).mono ?_
        (case side1=>exact cC (Kd.R_reads' HO_3.out).2.2)
        (case side2=>exact (Kd.R_reads' HO_3.out).2.1)
        rintro e w28 ⟨rfl,hb⟩;refine ⟨_,rfl,?_⟩;replace HO_3:=rR HO_3 hb;replace HO_4:=rR HO_4 hb;replace BK239:=bb BK239 hb;replace BK247:=bb BK247 hb;replace HB:=bp hb;(try clear hb);(try clear hb2);(try clear hk);(try clear hi);refine hK.out _ _ cl (fun hHeld=>?_);clear hK K;refine norm_ (a':=?_) ?_ ?_;rotate_left
        · show Act.put _ (some 49) _=_
          simp only [Act.put,zS,zT,zU,i64_w,i32_w]
          rfl
        refine pu 16 50 (b_ 17 1) HT_.out ?_;refine pu 17 51 (b_ 18 0) HT_.out ?_;refine dn_ (dnO HT_.out (by kernel_rfl)) ?_
        try go_wp2
        go_meet
        case rel=>exact ⟨_,(((((rd_T77 l0_1 x29_2).f1).length:Int) != t249)),rs,H',⟨by have:=HJ1.out;have:=HK2.out;first|omega|exact Nat.le_refl _⟩,⟨kR HO_3⟩,⟨kR HO_4⟩,⟨bk BK239⟩,⟨bk BK247⟩,⟨bel⟩⟩
       case rest =>
        clear HC17
        try clear p2 q2
        try clear hx2
        try clear c4b0
        try clear c4b1
        try clear c9b0
        try clear c9b1
        try clear c14b0
        try clear c15b0
        try clear c16b0
        try clear p24 q24
        try clear hx24
        try clear hcz13_0 hcz13_1 hfz13_0 hfz13_1
        try clear hcz20_0 hcz20_1 hcz20_2 hcz20_3 hcz20_4 hfz20_0 hfz20_1 hfz20_2 hfz20_3 hfz20_4
        try clear hcz5_0 hcz5_1 hfz5_0 hfz5_1
        try clear hcz6_0 hcz6_1 hfz6_0 hfz6_1
        try clear hx246_0 hx246_1 hx246_2 hx246_3 hx246_4
        try clear p246 q246
        obtain ⟨kq,x51_16,rfl,HA,HJ16,HO_3,HO_4,BK239,BK247,HB⟩:=hcut
        cases kq with
        |zero=>exact absurd HA.out (by simp [spec_GoodSkip.j2])
        |succ kj16 =>
         have H:=HA.out;clear HA;simp only [spec_GoodSkip.j2] at H;by_cases c32:x51_16=true
         · subst c32
           replace H:=iP H;obtain rfl:=zI H;go_wp2;go_ret;exact ⟨re,bel⟩
         replace c32:=Bool.eq_false_iff.mpr c32;subst c32;replace H:=iN H;by_cases c33:0≤x29_2;rotate_left
         · rw [if_neg c33] at H
           exact absurd H (by simp)
         rw [if_pos c33] at H;have c33b0:=eq_true c33;have c33b1:=zE c33;clear c33;by_cases c34:x29_2≤(l0_1.length:Int);rotate_left
         · rw [if_neg c34] at H
           exact absurd H (by simp)
         rw [if_pos c34] at H;have c34b0:=eq_true c34;have c34b1:=zE c34;clear c34;obtain ⟨y250,hy250⟩:∃ y_:List (S77),y_=(l0_1.take (x29_2:Int).toNat):=⟨_,rfl⟩;replace H:(spec_GoodSkip.l1 kj16 t240 x4_2 l0_1 (l0_1.length:Int) x29_2 y250 (y250.length:Int) 0 l0_0 l0_1 ((rd_T77 l0_1 x29_2).f0.f0) ((rd_T77 l0_1 x29_2).f0.f1) ((rd_T77 l0_1 x29_2).f0.f2) ((rd_T77 l0_1 x29_2).f0.f3) ((rd_T77 l0_1 x29_2).f1))=some r:=ry hy250 H;have Ny250:=AsZ.mk hy250;clear hy250;have H':=AsZ.mk H;clear H;have hnb35:=NB239_247.out;have hnc35:=NB247_239.out;obtain ⟨hcz36_0,hcz36_1,hfz36_0,hfz36_1⟩:=bx2 BK239;have q37:(x29_2:Int)≤((l0_1.length:Int):Int):=dd;obtain ⟨i037,hi037,_,hsz37,_⟩:=info_parts info77;have hroom37:l0_1.length≤c0_1:=HC0_1.out;have hC37:Kd.C k77 _ (some ad246) l0_1.length l0_1:=HR0_1.out;have hcut37:=cut_to (P:=Tryd.prog) 24 77 .i64 Tryd.underlying24 hi037 (some ad246) l0_1.length c0_1 x29_2 dd q37 hroom37;have hr37:=Kd.C_take (m:=(x29_2:Int).toNat) hC37 (by omega);have hy37:y250.length=(x29_2:Int).toNat:=(by rw [Ny250.out,zL];omega);rw [← Ny250.out] at hr37;rw [← hy37] at hcut37;have HR253:=AsZ.mk hr37;have HC253:=AsZ.mk (show y250.length≤c0_1 from by omega);clear hr37 hC37 hroom37 hi037 hsz37;have KY37:=AsZ.mk hy37;clear hy37;replace q37:=eq_true q37;go_wp2
         go_loopg [57] kj16 (fun kq v57 w' => ∃ (x57_4:Int),v57 = .int .i64 x57_4∧AsZ (spec_GoodSkip.l1 kq t240 x4_2 l0_1 (l0_1.length:Int) x29_2 y250 (y250.length:Int) x57_4 l0_0 l0_1 ((rd_T77 l0_1 x29_2).f0.f0) ((rd_T77 l0_1 x29_2).f0.f1) ((rd_T77 l0_1 x29_2).f0.f2) ((rd_T77 l0_1 x29_2).f0.f3) ((rd_T77 l0_1 x29_2).f1)=some r)∧AsZ (kq≤kj16)∧AsZ (Kd.R (Kd.int .u32) 106 w' w.heap.size (fun _=>True) v241 t240)∧AsZ (Kd.R (Kd.int .i64) 3 w' w.heap.size (fun _=>True) v244 x4_2)∧AsZ (w'.heap[gb239]? = some (.cells #[(.slice A0_0 l0_0.length c0_0),(.slice (some ad246) l0_1.length c0_1)] 26 (0,0)))∧AsZ (w'.heap[gb247]? = some (.cells #[.string ((rd_T77 l0_1 x29_2).f0.f0),.int .i64 ((rd_T77 l0_1 x29_2).f0.f1),.int .i64 ((rd_T77 l0_1 x29_2).f0.f2),.string ((rd_T77 l0_1 x29_2).f0.f3),(.slice A246_4 ((rd_T77 l0_1 x29_2).f1).length c246_4)] 77 (0,0)))∧AsZ (Below w.heap.size w w'))
         case atStart=>exact ⟨(0),rs,H',⟨Nat.le_refl _⟩,⟨kR HO_3⟩,⟨kR HO_4⟩,⟨bk BK239⟩,⟨bk BK247⟩,⟨bel⟩⟩
         case round =>
          clear H'
          try clear p2 q2
          try clear hx2
          try clear q3
          try clear c4b0
          try clear c4b1
          try clear c9b0
          try clear c9b1
          try clear c14b0
          try clear c15b0
          try clear c16b0
          try clear p24 q24
          try clear hx24
          try clear c33b0
          try clear c33b1
          try clear c34b0
          try clear c34b1
          try clear q37
          try clear hcz13_0 hcz13_1 hfz13_0 hfz13_1
          try clear hcz20_0 hcz20_1 hcz20_2 hcz20_3 hcz20_4 hfz20_0 hfz20_1 hfz20_2 hfz20_3 hfz20_4
          try clear hcz36_0 hcz36_1 hfz36_0 hfz36_1
          try clear hcz5_0 hcz5_1 hfz5_0 hfz5_1
          try clear hcz6_0 hcz6_1 hfz6_0 hfz6_1
          try clear hx246_0 hx246_1 hx246_2 hx246_3 hx246_4
          try clear p246 q246
          obtain ⟨x57_4,rfl,HA,HK4,HO_3,HO_4,BK239,BK247,HB⟩:=hrel
          cases gk with
          |zero=>exact absurd HA.out (by simp [spec_GoodSkip.l1])
          |succ k4 =>
           have H:=HA.out;clear HA;simp only [spec_GoodSkip.l1] at H;by_cases c38:x57_4 < (y250.length:Int)
           · rw [if_pos c38] at H
             have c38b0:=zE c38;clear c38;by_cases c39:0≤x57_4;rotate_left
             · rw [if_neg c39] at H
               exact absurd H (by simp)
             rw [if_pos c39] at H;have c39b0:=zE c39;clear c39;by_cases c40:x57_4 < (y250.length:Int);rotate_left
             · rw [if_neg c40] at H
               exact absurd H (by simp)
             rw [if_pos c40] at H;have c40b0:=zE c40;clear c40;replace H:=bs H;obtain ⟨t256,A41,H⟩:=H;by_cases c42:t256=0
             · rw [if_pos c42] at H
               have c42b0:(t256 == 0)=true:=beq_iff_eq.mpr c42;have c42b1:(t256 != 0)=false:=bne_eq_false_iff_eq.mpr c42;clear c42;obtain rfl:=zI H;have p254:0≤(x57_4:Int):=dd;have q254:x57_4 < (y250.length:Int):=dd;obtain ⟨ad254,A254_4,c254_4,e254,hx254_0,hx254_1,hx254_2,hx254_3,hx254_4,hl254_4,hi254_4⟩:=at_T77 HR253.out x57_4 p254 q254;obtain rfl:ad246=ad254:=(by injection e254);replace hx254_0:=pcb HB.out hx254_0;replace hx254_1:=pcb HB.out hx254_1;replace hx254_2:=pcb HB.out hx254_2;replace hx254_3:=pcb HB.out hx254_3;replace hx254_4:=pcb HB.out hx254_4;have HR254_4:=AsZ.mk hi254_4;have HC254_4:=AsZ.mk hl254_4;clear hi254_4 hl254_4;replace p254:=eq_true p254;replace q254:=eq_true q254;go_wp2_with (first|((with_reducible refine gate_dst (N:=8) rfl ?_);(try (refine gate_guard (by rfl) ?_;dsimp only));refine bev 8 77 (cs:=#[.string (⟨#[]⟩:ByteArray),.int .i64 0,.int .i64 0,.string (⟨#[]⟩:ByteArray),.slice none 0 0]) ?_;intro gb255 hg w43 hbox hb;have BK255:=AsZ.mk (hbox);have GW255:=gz HB hg;have GE255:=gz HB hg;have NB239_255:=nl BK239 hg;have NB255_239:=nr BK239 hg;have NB247_255:=nl BK247 hg;have NB255_247:=nr BK247 hg;replace HO_3:=rR HO_3 hb;replace HO_4:=rR HO_4 hb;replace BK239:=bb BK239 hb;replace BK247:=bb BK247 hb;replace HB:=bp hb;clear hb hbox hg;have hnb44:=NB255_239.out;have hnc44:=NB239_255.out;have hnb45:=NB255_247.out;have hnc45:=NB247_255.out;obtain ⟨hcz46_0,hcz46_1,hcz46_2,hcz46_3,hcz46_4,hfz46_0,hfz46_1,hfz46_2,hfz46_3,hfz46_4⟩:=bx5 BK255;have hnb47:=NB247_239.out;have hnc47:=NB239_247.out;obtain ⟨hcz48_0,hcz48_1,hcz48_2,hcz48_3,hcz48_4,hfz48_0,hfz48_1,hfz48_2,hfz48_3,hfz48_4⟩:=bx5 BK247)|((with_reducible refine gcl (f:=47) rfl ?_);refine gk (some 65) Tryd.func47 #[.agg #[.string ((rd_T77 y250 x57_4).f0.f0),.int .i64 ((rd_T77 y250 x57_4).f0.f1),.int .i64 ((rd_T77 y250 x57_4).f0.f2),.string ((rd_T77 y250 x57_4).f0.f3)],.agg #[.string ((rd_T77 l0_1 x29_2).f0.f0),.int .i64 ((rd_T77 l0_1 x29_2).f0.f1),.int .i64 ((rd_T77 l0_1 x29_2).f0.f2),.string ((rd_T77 l0_1 x29_2).f0.f3)]] ?_;(with_reducible refine (spec_l4Compare.calls k4 ((rd_T77 y250 x57_4).f0.f0) ((rd_T77 y250 x57_4).f0.f1) ((rd_T77 y250 x57_4).f0.f2) ((rd_T77 y250 x57_4).f0.f3) ((rd_T77 l0_1 x29_2).f0.f0) ((rd_T77 l0_1 x29_2).f0.f1) ((rd_T77 l0_1 x29_2).f0.f2) ((rd_T77 l0_1 x29_2).f0.f3) t256 _ A41.out).mono ?_);rintro e w49 ⟨rfl,hb⟩;refine ⟨_,rfl,?_⟩;replace HO_3:=AsZ.mk (Kd.R_below (by (with_reducible repeat (first|apply Kd.R_alloc|apply Kd.R_drewN|apply Kd.R_drew));exact (Kd.R_mono (fR (fR (fR (fR (fR (Kd.R_types HO_3.out BK255.out (by decide))))))) (fun _ h_=>h_.1))) hb);replace HO_4:=AsZ.mk (Kd.R_below (by (with_reducible repeat (first|apply Kd.R_alloc|apply Kd.R_drewN|apply Kd.R_drew));exact (Kd.R_mono (fR (fR (fR (fR (fR (Kd.R_types HO_4.out BK255.out (by decide))))))) (fun _ h_=>h_.1))) hb);replace BK239:=AsZ.mk (kb (g:=gb239) (o := .cells #[.slice A0_0 l0_0.length c0_0,.slice (some ad246) l0_1.length c0_1] 26 (0,0)) (bq BK239) hb);replace BK247:=AsZ.mk (kb (g:=gb247) (o := .cells #[.string ((rd_T77 l0_1 x29_2).f0.f0),.int .i64 ((rd_T77 l0_1 x29_2).f0.f1),.int .i64 ((rd_T77 l0_1 x29_2).f0.f2),.string ((rd_T77 l0_1 x29_2).f0.f3),.slice A246_4 ((rd_T77 l0_1 x29_2).f1).length c246_4] 77 (0,0)) (bq BK247) hb);replace BK255:=AsZ.mk (kb (g:=gb255) (o := .cells #[.string ((rd_T77 y250 x57_4).f0.f0),.int .i64 ((rd_T77 y250 x57_4).f0.f1),.int .i64 ((rd_T77 y250 x57_4).f0.f2),.string ((rd_T77 y250 x57_4).f0.f3),.slice A254_4 ((rd_T77 y250 x57_4).f1).length c254_4] 77 (0,0)) (bq BK255) hb);replace HB:=bp hb;(try clear hb);(try clear hb2);(try clear hk);(try clear hi)));go_ret;exact ⟨re,bel⟩
             rw [if_neg c42] at H;have c42b0:(t256 == 0)=false:=beq_eq_false_iff_ne.mpr c42;have c42b1:(t256 != 0)=true:=bne_iff_ne.mpr c42;have H':=AsZ.mk H;clear H;have p254:0≤(x57_4:Int):=dd;have q254:x57_4 < (y250.length:Int):=dd;obtain ⟨ad254,A254_4,c254_4,e254,hx254_0,hx254_1,hx254_2,hx254_3,hx254_4,hl254_4,hi254_4⟩:=at_T77 HR253.out x57_4 p254 q254;obtain rfl:ad246=ad254:=(by injection e254);replace hx254_0:=pcb HB.out hx254_0;replace hx254_1:=pcb HB.out hx254_1;replace hx254_2:=pcb HB.out hx254_2;replace hx254_3:=pcb HB.out hx254_3;replace hx254_4:=pcb HB.out hx254_4;have HR254_4:=AsZ.mk hi254_4;have HC254_4:=AsZ.mk hl254_4;clear hi254_4 hl254_4;replace p254:=eq_true p254;replace q254:=eq_true q254;go_wp2_with (first|((with_reducible refine gate_dst (N:=8) rfl ?_);(try (refine gate_guard (by rfl) ?_;dsimp only));refine bev 8 77 (cs:=#[.string (⟨#[]⟩:ByteArray),.int .i64 0,.int .i64 0,.string (⟨#[]⟩:ByteArray),.slice none 0 0]) ?_;intro gb255 hg w50 hbox hb;have BK255:=AsZ.mk (hbox);have GW255:=gz HB hg;have GE255:=gz HB hg;have NB239_255:=nl BK239 hg;have NB255_239:=nr BK239 hg;have NB247_255:=nl BK247 hg;have NB255_247:=nr BK247 hg;replace HO_3:=rR HO_3 hb;replace HO_4:=rR HO_4 hb;replace BK239:=bb BK239 hb;replace BK247:=bb BK247 hb;replace HB:=bp hb;clear hb hbox hg;have hnb51:=NB255_239.out;have hnc51:=NB239_255.out;have hnb52:=NB255_247.out;have hnc52:=NB247_255.out;obtain ⟨hcz53_0,hcz53_1,hcz53_2,hcz53_3,hcz53_4,hfz53_0,hfz53_1,hfz53_2,hfz53_3,hfz53_4⟩:=bx5 BK255;have hnb54:=NB247_239.out;have hnc54:=NB239_247.out;obtain ⟨hcz55_0,hcz55_1,hcz55_2,hcz55_3,hcz55_4,hfz55_0,hfz55_1,hfz55_2,hfz55_3,hfz55_4⟩:=bx5 BK247)|((with_reducible refine gcl (f:=47) rfl ?_);refine gk (some 65) Tryd.func47 #[.agg #[.string ((rd_T77 y250 x57_4).f0.f0),.int .i64 ((rd_T77 y250 x57_4).f0.f1),.int .i64 ((rd_T77 y250 x57_4).f0.f2),.string ((rd_T77 y250 x57_4).f0.f3)],.agg #[.string ((rd_T77 l0_1 x29_2).f0.f0),.int .i64 ((rd_T77 l0_1 x29_2).f0.f1),.int .i64 ((rd_T77 l0_1 x29_2).f0.f2),.string ((rd_T77 l0_1 x29_2).f0.f3)]] ?_;(with_reducible refine (spec_l4Compare.calls k4 ((rd_T77 y250 x57_4).f0.f0) ((rd_T77 y250 x57_4).f0.f1) ((rd_T77 y250 x57_4).f0.f2) ((rd_T77 y250 x57_4).f0.f3) ((rd_T77 l0_1 x29_2).f0.f0) ((rd_T77 l0_1 x29_2).f0.f1) ((rd_T77 l0_1 x29_2).f0.f2) ((rd_T77 l0_1 x29_2).f0.f3) t256 _ A41.out).mono ?_);rintro e w56 ⟨rfl,hb⟩;refine ⟨_,rfl,?_⟩;replace HO_3:=AsZ.mk (Kd.R_below (by (with_reducible repeat (first|apply Kd.R_alloc|apply Kd.R_drewN|apply Kd.R_drew));exact (Kd.R_mono (fR (fR (fR (fR (fR (Kd.R_types HO_3.out BK255.out (by decide))))))) (fun _ h_=>h_.1))) hb);replace HO_4:=AsZ.mk (Kd.R_below (by (with_reducible repeat (first|apply Kd.R_alloc|apply Kd.R_drewN|apply Kd.R_drew));exact (Kd.R_mono (fR (fR (fR (fR (fR (Kd.R_types HO_4.out BK255.out (by decide))))))) (fun _ h_=>h_.1))) hb);replace BK239:=AsZ.mk (kb (g:=gb239) (o := .cells #[.slice A0_0 l0_0.length c0_0,.slice (some ad246) l0_1.length c0_1] 26 (0,0)) (bq BK239) hb);replace BK247:=AsZ.mk (kb (g:=gb247) (o := .cells #[.string ((rd_T77 l0_1 x29_2).f0.f0),.int .i64 ((rd_T77 l0_1 x29_2).f0.f1),.int .i64 ((rd_T77 l0_1 x29_2).f0.f2),.string ((rd_T77 l0_1 x29_2).f0.f3),.slice A246_4 ((rd_T77 l0_1 x29_2).f1).length c246_4] 77 (0,0)) (bq BK247) hb);replace BK255:=AsZ.mk (kb (g:=gb255) (o := .cells #[.string ((rd_T77 y250 x57_4).f0.f0),.int .i64 ((rd_T77 y250 x57_4).f0.f1),.int .i64 ((rd_T77 y250 x57_4).f0.f2),.string ((rd_T77 y250 x57_4).f0.f3),.slice A254_4 ((rd_T77 y250 x57_4).f1).length c254_4] 77 (0,0)) (bq BK255) hb);replace HB:=bp hb;(try clear hb);(try clear hb2);(try clear hk);(try clear hi)));go_roundg k4
             case measure=>have:=HJ1.out;have:=HK2.out;have:=HJ16.out;have:=HK4.out;omega
             case rel=>exact ⟨(wrap64 (x57_4 + 1)),rs,H',⟨by have:=HJ1.out;have:=HK2.out;have:=HJ16.out;have:=HK4.out;omega⟩,⟨kR HO_3⟩,⟨kR HO_4⟩,⟨bk BK239⟩,⟨bk BK247⟩,⟨bel⟩⟩
           rw [if_neg c38] at H;have c38b0:=decide_eq_false c38;clear c38;have H':=AsZ.mk H;clear H;have hnb57:=NB247_239.out;have hnc57:=NB239_247.out;obtain ⟨hcz58_0,hcz58_1,hcz58_2,hcz58_3,hcz58_4,hfz58_0,hfz58_1,hfz58_2,hfz58_3,hfz58_4⟩:=bx5 BK247;go_wp2
           go_loopg [71] k4 (fun kq v71 w' => ∃ (x4_5:List Int) (x71_5:Int),v71 = .int .i64 x71_5∧AsZ (spec_GoodSkip.l2 kq t240 x4_5 l0_1 (l0_1.length:Int) x29_2 (((rd_T77 l0_1 x29_2).f1).length:Int) x71_5 l0_0 l0_1 ((rd_T77 l0_1 x29_2).f0.f0) ((rd_T77 l0_1 x29_2).f0.f1) ((rd_T77 l0_1 x29_2).f0.f2) ((rd_T77 l0_1 x29_2).f0.f3) ((rd_T77 l0_1 x29_2).f1)=some r)∧AsZ (kq≤k4)∧AsZ (Kd.R (Kd.int .u32) 106 w' w.heap.size (fun _=>True) v241 t240)∧AsZ (Kd.R (Kd.int .i64) 3 w' w.heap.size (fun _=>True) v244 x4_5)∧AsZ (w'.heap[gb239]? = some (.cells #[(.slice A0_0 l0_0.length c0_0),(.slice (some ad246) l0_1.length c0_1)] 26 (0,0)))∧AsZ (w'.heap[gb247]? = some (.cells #[.string ((rd_T77 l0_1 x29_2).f0.f0),.int .i64 ((rd_T77 l0_1 x29_2).f0.f1),.int .i64 ((rd_T77 l0_1 x29_2).f0.f2),.string ((rd_T77 l0_1 x29_2).f0.f3),(.slice A246_4 ((rd_T77 l0_1 x29_2).f1).length c246_4)] 77 (0,0)))∧AsZ (Below w.heap.size w w'))
           case atStart=>exact ⟨(x4_2),(0),rs,H',⟨Nat.le_refl _⟩,⟨kR HO_3⟩,⟨kR HO_4⟩,⟨bk BK239⟩,⟨bk BK247⟩,⟨bel⟩⟩
           case round =>
            clear H'
            try clear p2 q2
            try clear hx2
            try clear q3
            try clear c4b0
            try clear c4b1
            try clear p6
            try clear c9b0
            try clear c9b1
            try clear c14b0
            try clear c15b0
            try clear c16b0
            try clear p24 q24
            try clear hx24
            try clear p25 q25
            try clear hx25
            try clear c33b0
            try clear c33b1
            try clear c34b0
            try clear c34b1
            try clear q37
            try clear c38b0
            try clear c39b0
            try clear c40b0
            try clear c42b0
            try clear c42b1
            try clear hcz13_0 hcz13_1 hfz13_0 hfz13_1
            try clear hcz20_0 hcz20_1 hcz20_2 hcz20_3 hcz20_4 hfz20_0 hfz20_1 hfz20_2 hfz20_3 hfz20_4
            try clear hcz36_0 hcz36_1 hfz36_0 hfz36_1
            try clear hcz46_0 hcz46_1 hcz46_2 hcz46_3 hcz46_4 hfz46_0 hfz46_1 hfz46_2 hfz46_3 hfz46_4
            try clear hcz48_0 hcz48_1 hcz48_2 hcz48_3 hcz48_4 hfz48_0 hfz48_1 hfz48_2 hfz48_3 hfz48_4
            try clear hcz53_0 hcz53_1 hcz53_2 hcz53_3 hcz53_4 hfz53_0 hfz53_1 hfz53_2 hfz53_3 hfz53_4
            try clear hcz55_0 hcz55_1 hcz55_2 hcz55_3 hcz55_4 hfz55_0 hfz55_1 hfz55_2 hfz55_3 hfz55_4
            try clear hcz58_0 hcz58_1 hcz58_2 hcz58_3 hcz58_4 hfz58_0 hfz58_1 hfz58_2 hfz58_3 hfz58_4
            try clear hcz5_0 hcz5_1 hfz5_0 hfz5_1
            try clear hcz6_0 hcz6_1 hfz6_0 hfz6_1
            try clear hx246_0 hx246_1 hx246_2 hx246_3 hx246_4
            try clear hx254_0 hx254_1 hx254_2 hx254_3 hx254_4
            try clear p246 q246
            try clear p254 q254
            obtain ⟨x4_5,x71_5,rfl,HA,HK5,HO_3,HO_4,BK239,BK247,HB⟩:=hrel
            cases gk with
            |zero=>exact absurd HA.out (by simp [spec_GoodSkip.l2])
            |succ k5 =>
             have H:=HA.out;clear HA;simp only [spec_GoodSkip.l2] at H;by_cases c59:x71_5 < (((rd_T77 l0_1 x29_2).f1).length:Int);rotate_left
             · rw [if_neg c59] at H
               have c59b0:=decide_eq_false c59;clear c59;have H':=AsZ.mk H;clear H;go_wp2;go_roundg k5
               case measure=>have:=HJ1.out;have:=HK2.out;have:=HJ16.out;have:=HK4.out;have:=HK5.out;omega
               case rel=>exact ⟨(x4_5),(wrap64 (x29_2 + 1)),rs,H',⟨by have:=HJ1.out;have:=HK2.out;have:=HJ16.out;have:=HK4.out;have:=HK5.out;omega⟩,⟨kR HO_3⟩,⟨kR HO_4⟩,⟨bk BK239⟩,⟨bel⟩⟩
             rw [if_pos c59] at H;have c59b0:=zE c59;clear c59;by_cases c60:0≤x71_5;rotate_left
             · rw [if_neg c60] at H
               exact absurd H (by simp)
             rw [if_pos c60] at H;have c60b0:=zE c60;clear c60;by_cases c61:x71_5 < (x4_5.length:Int);rotate_left
             · rw [if_neg c61] at H
               exact absurd H (by simp)
             rw [if_pos c61] at H;have c61b0:=zE c61;clear c61;obtain ⟨y258,hy258⟩:∃ y_:List Int,y_=(x4_5.set (x71_5:Int).toNat (wrap64 ((rd x4_5 x71_5) + 1))):=⟨_,rfl⟩;replace H:(if x71_5 < (((rd_T77 l0_1 x29_2).f1).length:Int) then ((spec_l1In.f (rd ((rd_T77 l0_1 x29_2).f1) x71_5) (-1) (wrap64 ((l0_1.length:Int) - 1))).bind fun t260=>(if t260=true then (spec_GoodSkip.l2 k5 t240 y258 l0_1 (l0_1.length:Int) x29_2 (((rd_T77 l0_1 x29_2).f1).length:Int) (wrap64 (x71_5 + 1)) l0_0 l0_1 ((rd_T77 l0_1 x29_2).f0.f0) ((rd_T77 l0_1 x29_2).f0.f1) ((rd_T77 l0_1 x29_2).f0.f2) ((rd_T77 l0_1 x29_2).f0.f3) ((rd_T77 l0_1 x29_2).f1)) else (some false))) else (none))=some r:=ry hy258 H;have Ny258:=AsZ.mk hy258;clear hy258;by_cases c63:x71_5 < (((rd_T77 l0_1 x29_2).f1).length:Int);rotate_left
             · rw [if_neg c63] at H
               exact absurd H (by simp)
             rw [if_pos c63] at H;have c63b0:=zE c63;clear c63;replace H:=bs H;obtain ⟨t260,A64,H⟩:=H;by_cases c65:t260=true;rotate_left
             · replace c65:=Bool.eq_false_iff.mpr c65
               subst c65;replace H:=iN H;obtain rfl:=zI H;obtain ⟨Ao70,co70,eo70⟩:=Kd.R_slice HO_4.out;subst eo70;have p257:0≤(x71_5:Int):=dd;have q257:x71_5 < (x4_5.length:Int):=dd;obtain ⟨ad257,e257,hx257_0⟩:=Kd.at_int (Kd.R_reads' HO_4.out).2.2 x71_5 p257 q257;cases e257;replace p257:=eq_true p257;replace q257:=eq_true q257;have p62:0≤(x71_5:Int):=dd;have q62:(x71_5:Int) < ((x4_5.length:Int):Int):=dd;obtain ⟨go62,co62,eo62,gb62,gl62,cl62,HG62⟩:=Kd.R_form HO_4.out (by omega);(first|cases eo62|(injection eo62 with ea_ en_ ec_;(first|subst ea_|(injection ea_ with ea_;subst ea_));subst ec_;clear en_));have GB62:=AsZ.mk gb62;have GG62:=AsZ.mk HG62;clear gb62 gl62 HG62;(first|simp only [add_plain] at hx257_0|skip);obtain ⟨hx62_0,hf62_0⟩:=Kd.R_celln 0 HO_4.out (x71_5:Int) p62 q62;replace p62:=eq_true p62;replace q62:=eq_true q62;have HP71:=Kd.R_putg HO_4.out (x71_5:Int) (wrap64 ((rd x4_5 x71_5) + 1))
               try go_wp2_with (first|((with_reducible refine gate_store (t:=3) (p:=79) rfl ?_);refine store_event (t:=3) (p:=79) (v:=?vo_w72) (w1:=(wr.setCell ⟨go62,(x71_5:Int).toNat,none⟩ (.int .i64 (wrap64 ((rd x4_5 x71_5) + 1))))) ?hg ?ho ?hn ?hr ?_;(case ho=>rfl);(case hg=>rfl);(case hn=>rfl);(case hr=>first|(go_simp;done)|(go_simp;rfl));intro w72 hw;have hg:wr.grownBy w72 (some go62):=(by rw [hw];exact HP71.2);have hp_:Kd.R (Kd.int .i64) 3 w72 w.heap.size (fun _=>True) (.slice (some ⟨go62,0,none⟩) x4_5.length co70) y258:=(by rw [hw,Ny258.out];exact HP71.1);clear HP71;replace HO_3:=AsZ.mk (Kd.R_over' (v:=(.slice (some ⟨go62,0,none⟩) x4_5.length co70)) (kR HO_3) (Kd.R_typed HO_4.out) (by decide) hg);replace BK239:=AsZ.mk (blk_grown (bk BK239) hg (Kd.R_ne HO_4.out BK239.out (by decide)));replace BK247:=AsZ.mk (blk_grown (bk BK247) hg (Kd.R_ne HO_4.out BK247.out (by decide)));replace HO_4:=AsZ.mk (hp_);replace HB:=AsZ.mk ((by rw [hw];exact bws (HB.out) GB62.out:Below w.heap.size w w72));clear hg hw hp_))
               replace HO_3:=dR HO_3;replace HO_4:=dR HO_4;replace BK239:=db BK239;replace BK247:=db BK247;replace HB:=dB HB;have p259:0≤(x71_5:Int):=dd;have q259:x71_5 < (((rd_T77 l0_1 x29_2).f1).length:Int):=dd;obtain ⟨ad259,e259,hx259_0⟩:=Kd.at_int HR246_4.out x71_5 p259 q259;have hw259_0:=hx259_0;cases e259;replace hx259_0:=pcb HB.out hx259_0;replace p259:=eq_true p259;replace q259:=eq_true q259;refine start_ (n:=11) (S:=fun w'=>w'.cell? ⟨gb247,0,none⟩=some (.string ((rd_T77 l0_1 x29_2).f0.f0))∧w'.cell? ⟨gb247,1,none⟩=some (.int .i64 ((rd_T77 l0_1 x29_2).f0.f1))∧w'.cell? ⟨gb247,2,none⟩=some (.int .i64 ((rd_T77 l0_1 x29_2).f0.f2))∧w'.cell? ⟨gb247,3,none⟩=some (.string ((rd_T77 l0_1 x29_2).f0.f3))∧w'.cell? ⟨gb247,4,none⟩=some (.slice (some ad259) ((rd_T77 l0_1 x29_2).f1).length c246_4)∧w'.cell? ⟨gb239,0,none⟩=some (.slice A0_0 l0_0.length c0_0)∧w'.cell? ⟨gb239,1,none⟩=some (.slice (some ad246) l0_1.length c0_1)∧w'.cell? (ad259.add (x71_5).toNat)=some (.int .i64 (rd ((rd_T77 l0_1 x29_2).f1) x71_5))) (ds:=[]) (b_ 0 11) (by kernel_rfl) rfl rfl cl (fun hHeld=>?_);refine with_tabW spec_GoodSkip.tab20 spec_GoodSkip.bits20 (fun HT_ HW_=>?_);generalize w72.drew=w73 at HO_3 HO_4 BK239 BK247 HB hx259_0 hHeld ⊢;refine pu 0 80 (b_ 1 10) HT_.out ?_;refine pu 2 82 #[true,false,true,false,false,false,false,false,false,false,false] HT_.out ?_;refine pu 5 85 #[true,false,true,false,false,true,false,false,false,false,false] HT_.out ?_;refine tk8 1 81 #[true,true,true,false,false,true,false,false,false,false,false] HT_.out HW_.out hHeld ?_;refine pu 3 83 #[true,true,true,true,false,true,false,false,false,false,false] HT_.out ?_;refine tk8 4 84 (b_ 6 5) HT_.out HW_.out hHeld ?_;refine tk8 6 86 (b_ 7 4) HT_.out HW_.out hHeld ?_;refine pu 7 87 (b_ 8 3) HT_.out ?_;refine pu 8 88 (b_ 9 2) HT_.out ?_;refine on 9 (some 89) (b_ 10 1) HT_.out (fun K hK=>?_);refine gs Tryd.func59 #[.int .i64 (rd ((rd_T77 l0_1 x29_2).f1) x71_5),.int .i64 (-1),.int .i64 (wrap64 ((l0_1.length:Int) - 1))] ?_
               with_reducible refine (spec_l1In.calls (rd ((rd_T77 l0_1 x29_2).f1) x71_5) (-1) (wrap64 ((l0_1.length:Int) - 1)) false _ A64.out).mono ?_
               rintro e w' ⟨rfl,⟨nd,rfl⟩⟩;refine ⟨_,rfl,?_⟩;refine hK.out _ _ cl (fun hHeld=>?_);clear hK K;refine norm_ (a':=?_) ?_ ?_;rotate_left
               · show Act.put _ (some 89) _=_
                 simp only [Act.put,zS,zT,zU,i64_w,i32_w]
                 rfl
               refine pu 10 90 (b_ 11 0) HT_.out ?_;refine dn_ (dnO HT_.out (by kernel_rfl)) ?_
               try go_wp2
               go_ret;exact ⟨re,bel⟩
             subst c65;replace H:=iP H;have H':=AsZ.mk H;clear H;obtain ⟨Ao66,co66,eo66⟩:=Kd.R_slice HO_4.out;subst eo66;have p257:0≤(x71_5:Int):=dd;have q257:x71_5 < (x4_5.length:Int):=dd;obtain ⟨ad257,e257,hx257_0⟩:=Kd.at_int (Kd.R_reads' HO_4.out).2.2 x71_5 p257 q257;cases e257;replace p257:=eq_true p257;replace q257:=eq_true q257;have p62:0≤(x71_5:Int):=dd;have q62:(x71_5:Int) < ((x4_5.length:Int):Int):=dd;obtain ⟨go62,co62,eo62,gb62,gl62,cl62,HG62⟩:=Kd.R_form HO_4.out (by omega);(first|cases eo62|(injection eo62 with ea_ en_ ec_;(first|subst ea_|(injection ea_ with ea_;subst ea_));subst ec_;clear en_));have GB62:=AsZ.mk gb62;have GG62:=AsZ.mk HG62;clear gb62 gl62 HG62;(first|simp only [add_plain] at hx257_0|skip);obtain ⟨hx62_0,hf62_0⟩:=Kd.R_celln 0 HO_4.out (x71_5:Int) p62 q62;replace p62:=eq_true p62;replace q62:=eq_true q62;have HP67:=Kd.R_putg HO_4.out (x71_5:Int) (wrap64 ((rd x4_5 x71_5) + 1))
             try go_wp2_with (first|((with_reducible refine gate_store (t:=3) (p:=79) rfl ?_);refine store_event (t:=3) (p:=79) (v:=?vo_w68) (w1:=(wr.setCell ⟨go62,(x71_5:Int).toNat,none⟩ (.int .i64 (wrap64 ((rd x4_5 x71_5) + 1))))) ?hg ?ho ?hn ?hr ?_;(case ho=>rfl);(case hg=>rfl);(case hn=>rfl);(case hr=>first|(go_simp;done)|(go_simp;rfl));intro w68 hw;have hg:wr.grownBy w68 (some go62):=(by rw [hw];exact HP67.2);have hp_:Kd.R (Kd.int .i64) 3 w68 w.heap.size (fun _=>True) (.slice (some ⟨go62,0,none⟩) x4_5.length co66) y258:=(by rw [hw,Ny258.out];exact HP67.1);clear HP67;replace HO_3:=AsZ.mk (Kd.R_over' (v:=(.slice (some ⟨go62,0,none⟩) x4_5.length co66)) (kR HO_3) (Kd.R_typed HO_4.out) (by decide) hg);replace BK239:=AsZ.mk (blk_grown (bk BK239) hg (Kd.R_ne HO_4.out BK239.out (by decide)));replace BK247:=AsZ.mk (blk_grown (bk BK247) hg (Kd.R_ne HO_4.out BK247.out (by decide)));replace HO_4:=AsZ.mk (hp_);replace HB:=AsZ.mk ((by rw [hw];exact bws (HB.out) GB62.out:Below w.heap.size w w68));clear hg hw hp_))
             replace HO_3:=dR HO_3;replace HO_4:=dR HO_4;replace BK239:=db BK239;replace BK247:=db BK247;replace HB:=dB HB;have p259:0≤(x71_5:Int):=dd;have q259:x71_5 < (((rd_T77 l0_1 x29_2).f1).length:Int):=dd;obtain ⟨ad259,e259,hx259_0⟩:=Kd.at_int HR246_4.out x71_5 p259 q259;have hw259_0:=hx259_0;cases e259;replace hx259_0:=pcb HB.out hx259_0;replace p259:=eq_true p259;replace q259:=eq_true q259;refine start_ (n:=11) (S:=fun w'=>w'.cell? ⟨gb247,0,none⟩=some (.string ((rd_T77 l0_1 x29_2).f0.f0))∧w'.cell? ⟨gb247,1,none⟩=some (.int .i64 ((rd_T77 l0_1 x29_2).f0.f1))∧w'.cell? ⟨gb247,2,none⟩=some (.int .i64 ((rd_T77 l0_1 x29_2).f0.f2))∧w'.cell? ⟨gb247,3,none⟩=some (.string ((rd_T77 l0_1 x29_2).f0.f3))∧w'.cell? ⟨gb247,4,none⟩=some (.slice (some ad259) ((rd_T77 l0_1 x29_2).f1).length c246_4)∧w'.cell? ⟨gb239,0,none⟩=some (.slice A0_0 l0_0.length c0_0)∧w'.cell? ⟨gb239,1,none⟩=some (.slice (some ad246) l0_1.length c0_1)∧w'.cell? (ad259.add (x71_5).toNat)=some (.int .i64 (rd ((rd_T77 l0_1 x29_2).f1) x71_5))) (ds:=[]) (b_ 0 11) (by kernel_rfl) rfl rfl cl (fun hHeld=>?_);refine with_tabW spec_GoodSkip.tab20 spec_GoodSkip.bits20 (fun HT_ HW_=>?_);generalize w68.drew=w69 at HO_3 HO_4 BK239 BK247 HB hx259_0 hHeld ⊢;refine pu 0 80 (b_ 1 10) HT_.out ?_;refine pu 2 82 #[true,false,true,false,false,false,false,false,false,false,false] HT_.out ?_;refine pu 5 85 #[true,false,true,false,false,true,false,false,false,false,false] HT_.out ?_;refine tk8 1 81 #[true,true,true,false,false,true,false,false,false,false,false] HT_.out HW_.out hHeld ?_;refine pu 3 83 #[true,true,true,true,false,true,false,false,false,false,false] HT_.out ?_;refine tk8 4 84 (b_ 6 5) HT_.out HW_.out hHeld ?_;refine tk8 6 86 (b_ 7 4) HT_.out HW_.out hHeld ?_;refine pu 7 87 (b_ 8 3) HT_.out ?_;refine pu 8 88 (b_ 9 2) HT_.out ?_;refine on 9 (some 89) (b_ 10 1) HT_.out (fun K hK=>?_);refine gs Tryd.func59 #[.int .i64 (rd ((rd_T77 l0_1 x29_2).f1) x71_5),.int .i64 (-1),.int .i64 (wrap64 ((l0_1.length:Int) - 1))] ?_
             with_reducible refine (spec_l1In.calls (rd ((rd_T77 l0_1 x29_2).f1) x71_5) (-1) (wrap64 ((l0_1.length:Int) - 1)) true _ A64.out).mono ?_
             rintro e w' ⟨rfl,⟨nd,rfl⟩⟩;refine ⟨_,rfl,?_⟩;refine hK.out _ _ cl (fun hHeld=>?_);clear hK K;refine norm_ (a':=?_) ?_ ?_;rotate_left
             · show Act.put _ (some 89) _=_
               simp only [Act.put,zS,zT,zU,i64_w,i32_w]
               rfl
             refine pu 10 90 (b_ 11 0) HT_.out ?_;refine dn_ (dnO HT_.out (by kernel_rfl)) ?_
             try go_wp2
             go_roundg k5
             case measure=>have:=HJ1.out;have:=HK2.out;have:=HJ16.out;have:=HK4.out;have:=HK5.out;omega
             case rel=>exact ⟨(y258),(wrap64 (x71_5 + 1)),rs,H',⟨by have:=HJ1.out;have:=HK2.out;have:=HJ16.out;have:=HK4.out;have:=HK5.out;omega⟩,⟨kR HO_3⟩,⟨kR HO_4⟩,⟨bk BK239⟩,⟨bk BK247⟩,⟨bel⟩⟩
     rw [if_neg c14] at H;have c14b0:=decide_eq_false c14;clear c14;have H':=AsZ.mk H;clear H;obtain ⟨Ao74,co74,eo74⟩:=Kd.R_slice HO_4.out;subst eo74;go_wp2
     go_loopg [95] k2 (fun kq v95 w' => ∃ (x95_3:Int),v95 = .int .i64 x95_3∧AsZ (spec_GoodSkip.l3 kq x4_2 (x4_2.length:Int) x95_3 l0_0 l0_1=some r)∧AsZ (kq≤k2)∧AsZ (Kd.R (Kd.int .i64) 3 w' w.heap.size (fun _=>True) (.slice Ao74 x4_2.length co74) x4_2)∧AsZ (w'.heap[gb239]? = some (.cells #[(.slice A0_0 l0_0.length c0_0),(.slice A0_1 l0_1.length c0_1)] 26 (0,0)))∧AsZ (Below w.heap.size w w'))
     case atStart=>exact ⟨(0),rs,H',⟨Nat.le_refl _⟩,⟨kR HO_4⟩,⟨bk BK239⟩,⟨bel⟩⟩
     case round =>
      clear H'
      try clear p2 q2
      try clear hx2
      try clear q3
      try clear c4b0
      try clear c4b1
      try clear p6 q6
      try clear hx6
      try clear hf6
      try clear c9b0
      try clear c9b1
      try clear c14b0
      try clear c15b0
      try clear c16b0
      try clear p24 q24
      try clear hx24
      try clear p25 q25
      try clear hx25
      try clear c33b0
      try clear c33b1
      try clear c34b0
      try clear c34b1
      try clear q37
      try clear c38b0
      try clear c39b0
      try clear c40b0
      try clear c42b0
      try clear c42b1
      try clear c59b0
      try clear c60b0
      try clear c61b0
      try clear p62 q62
      try clear hx62
      try clear hf62
      try clear c63b0
      try clear p64
      try clear hcz13_0 hcz13_1 hfz13_0 hfz13_1
      try clear hcz20_0 hcz20_1 hcz20_2 hcz20_3 hcz20_4 hfz20_0 hfz20_1 hfz20_2 hfz20_3 hfz20_4
      try clear hcz36_0 hcz36_1 hfz36_0 hfz36_1
      try clear hcz46_0 hcz46_1 hcz46_2 hcz46_3 hcz46_4 hfz46_0 hfz46_1 hfz46_2 hfz46_3 hfz46_4
      try clear hcz48_0 hcz48_1 hcz48_2 hcz48_3 hcz48_4 hfz48_0 hfz48_1 hfz48_2 hfz48_3 hfz48_4
      try clear hcz53_0 hcz53_1 hcz53_2 hcz53_3 hcz53_4 hfz53_0 hfz53_1 hfz53_2 hfz53_3 hfz53_4
      try clear hcz55_0 hcz55_1 hcz55_2 hcz55_3 hcz55_4 hfz55_0 hfz55_1 hfz55_2 hfz55_3 hfz55_4
      try clear hcz58_0 hcz58_1 hcz58_2 hcz58_3 hcz58_4 hfz58_0 hfz58_1 hfz58_2 hfz58_3 hfz58_4
      try clear hcz5_0 hcz5_1 hfz5_0 hfz5_1
      try clear hcz6_0 hcz6_1 hfz6_0 hfz6_1
      try clear hx246_0 hx246_1 hx246_2 hx246_3 hx246_4
      try clear hx254_0 hx254_1 hx254_2 hx254_3 hx254_4
      try clear hx257_0
      try clear hx259_0
      try clear hx62_0
      try clear p246 q246
      try clear p254 q254
      try clear p257 q257
      try clear p259 q259
      obtain ⟨x95_3,rfl,HA,HK3,HO_93,BK239,HB⟩:=hrel
      cases gk with
      |zero=>exact absurd HA.out (by simp [spec_GoodSkip.l3])
      |succ k3 =>
       have H:=HA.out;clear HA;simp only [spec_GoodSkip.l3] at H;by_cases c75:x95_3 < (x4_2.length:Int);rotate_left
       · rw [if_neg c75] at H
         have c75b0:=decide_eq_false c75;clear c75;obtain rfl:=zI H;go_wp2;go_ret;exact ⟨re,bel⟩
       rw [if_pos c75] at H;have c75b0:=zE c75;clear c75;by_cases c76:0≤x95_3;rotate_left
       · rw [if_neg c76] at H
         exact absurd H (by simp)
       rw [if_pos c76] at H;have c76b0:=zE c76;clear c76;by_cases c77:x95_3 < (x4_2.length:Int);rotate_left
       · rw [if_neg c77] at H
         exact absurd H (by simp)
       rw [if_pos c77] at H;have c77b0:=zE c77;clear c77;by_cases c78:x95_3 < (l0_0.length:Int);rotate_left
       · rw [if_neg c78] at H
         exact absurd H (by simp)
       rw [if_pos c78] at H;have c78b0:=zE c78;clear c78;replace H:=bs H;obtain ⟨t263,A79,H⟩:=H;by_cases c80:t263=true;rotate_left
       · replace c80:=Bool.eq_false_iff.mpr c80
         subst c80;replace H:=iN H;obtain rfl:=zI H;have p261:0≤(x95_3:Int):=dd;have q261:x95_3 < (x4_2.length:Int):=dd;obtain ⟨ad261,e261,hx261_0⟩:=Kd.at_int (Kd.R_reads' HO_93.out).2.2 x95_3 p261 q261;cases e261;replace p261:=eq_true p261;replace q261:=eq_true q261
         try go_wp2
         replace HO_93:=dR HO_93;replace BK239:=db BK239;replace HB:=dB HB;have p262:0≤(x95_3:Int):=dd;have q262:x95_3 < (l0_0.length:Int):=dd;obtain ⟨ad262,e262,hx262_0⟩:=Kd.at_int HR0_0.out x95_3 p262 q262;have hw262_0:=hx262_0;cases e262;replace hx262_0:=pcb HB.out hx262_0;replace p262:=eq_true p262;replace q262:=eq_true q262;refine start_ (n:=11) (S:=fun w'=>w'.cell? ⟨gb239,0,none⟩=some (.slice (some ad262) l0_0.length c0_0)∧w'.cell? ⟨gb239,1,none⟩=some (.slice A0_1 l0_1.length c0_1)∧w'.cell? (ad262.add (x95_3).toNat)=some (.int .i64 (rd l0_0 x95_3))) (ds:=[]) (b_ 0 11) (by kernel_rfl) rfl rfl cl (fun hHeld=>?_);refine with_tabW spec_GoodSkip.tab28 spec_GoodSkip.bits28 (fun HT_ HW_=>?_);generalize wr.drew=w107 at HO_93 BK239 HB hx262_0 hHeld ⊢;refine pu 0 100 (b_ 1 10) HT_.out ?_;refine pu 2 102 #[true,false,true,false,false,false,false,false,false,false,false] HT_.out ?_;refine pu 5 105 #[true,false,true,false,false,true,false,false,false,false,false] HT_.out ?_;refine tk3 1 101 #[true,true,true,false,false,true,false,false,false,false,false] HT_.out HW_.out hHeld ?_;refine pu 3 103 #[true,true,true,true,false,true,false,false,false,false,false] HT_.out ?_;refine tk3 4 104 (b_ 6 5) HT_.out HW_.out hHeld ?_;refine tk3 6 106 (b_ 7 4) HT_.out HW_.out hHeld ?_;refine pu 7 107 (b_ 8 3) HT_.out ?_;refine pu 8 108 (b_ 9 2) HT_.out ?_;refine on 9 (some 109) (b_ 10 1) HT_.out (fun K hK=>?_);refine gs Tryd.func59 #[.int .i64 (rd l0_0 x95_3),.int .i64 (-1),.int .i64 (wrap64 ((l0_1.length:Int) - 1))] ?_
         with_reducible refine (spec_l1In.calls (rd l0_0 x95_3) (-1) (wrap64 ((l0_1.length:Int) - 1)) false _ A79.out).mono ?_
         rintro e w' ⟨rfl,⟨nd,rfl⟩⟩;refine ⟨_,rfl,?_⟩;refine hK.out _ _ cl (fun hHeld=>?_);clear hK K;refine norm_ (a':=?_) ?_ ?_;rotate_left
         · show Act.put _ (some 109) _=_
           simp only [Act.put,zS,zT,zU,i64_w,i32_w]
           rfl
         refine pu 10 110 (b_ 11 0) HT_.out ?_;refine dn_ (dnO HT_.out (by kernel_rfl)) ?_
         try go_wp2
         go_ret;exact ⟨re,bel⟩
       subst c80;replace H:=iP H;have H':=AsZ.mk H;clear H;have p261:0≤(x95_3:Int):=dd;have q261:x95_3 < (x4_2.length:Int):=dd;obtain ⟨ad261,e261,hx261_0⟩:=Kd.at_int (Kd.R_reads' HO_93.out).2.2 x95_3 p261 q261;cases e261;replace p261:=eq_true p261;replace q261:=eq_true q261
       try go_wp2
       replace HO_93:=dR HO_93;replace BK239:=db BK239;replace HB:=dB HB;have p262:0≤(x95_3:Int):=dd;have q262:x95_3 < (l0_0.length:Int):=dd;obtain ⟨ad262,e262,hx262_0⟩:=Kd.at_int HR0_0.out x95_3 p262 q262;have hw262_0:=hx262_0;cases e262;replace hx262_0:=pcb HB.out hx262_0;replace p262:=eq_true p262;replace q262:=eq_true q262;refine start_ (n:=11) (S:=fun w'=>w'.cell? ⟨gb239,0,none⟩=some (.slice (some ad262) l0_0.length c0_0)∧w'.cell? ⟨gb239,1,none⟩=some (.slice A0_1 l0_1.length c0_1)∧w'.cell? (ad262.add (x95_3).toNat)=some (.int .i64 (rd l0_0 x95_3))) (ds:=[]) (b_ 0 11) (by kernel_rfl) rfl rfl cl (fun hHeld=>?_);refine with_tabW spec_GoodSkip.tab28 spec_GoodSkip.bits28 (fun HT_ HW_=>?_);generalize wr.drew=w81 at HO_93 BK239 HB hx262_0 hHeld ⊢;refine pu 0 100 (b_ 1 10) HT_.out ?_;refine pu 2 102 #[true,false,true,false,false,false,false,false,false,false,false] HT_.out ?_;refine pu 5 105 #[true,false,true,false,false,true,false,false,false,false,false] HT_.out ?_;refine tk3 1 101 #[true,true,true,false,false,true,false,false,false,false,false] HT_.out HW_.out hHeld ?_;refine pu 3 103 #[true,true,true,true,false,true,false,false,false,false,false] HT_.out ?_;refine tk3 4 104 (b_ 6 5) HT_.out HW_.out hHeld ?_;refine tk3 6 106 (b_ 7 4) HT_.out HW_.out hHeld ?_;refine pu 7 107 (b_ 8 3) HT_.out ?_;refine pu 8 108 (b_ 9 2) HT_.out ?_;refine on 9 (some 109) (b_ 10 1) HT_.out (fun K hK=>?_);refine gs Tryd.func59 #[.int .i64 (rd l0_0 x95_3),.int .i64 (-1),.int .i64 (wrap64 ((l0_1.length:Int) - 1))] ?_
       with_reducible refine (spec_l1In.calls (rd l0_0 x95_3) (-1) (wrap64 ((l0_1.length:Int) - 1)) true _ A79.out).mono ?_
       rintro e w' ⟨rfl,⟨nd,rfl⟩⟩;refine ⟨_,rfl,?_⟩;refine hK.out _ _ cl (fun hHeld=>?_);clear hK K;refine norm_ (a':=?_) ?_ ?_;rotate_left
       · show Act.put _ (some 109) _=_
         simp only [Act.put,zS,zT,zU,i64_w,i32_w]
         rfl
       refine pu 10 110 (b_ 11 0) HT_.out ?_;refine dn_ (dnO HT_.out (by kernel_rfl)) ?_
       try go_wp2
       go_loopg [11,12] k3 (fun kq v11 v12 w' => ∃ (x11_4:Int) (x12_4:Int),v11 = .int .i64 x11_4∧v12 = .int .i64 x12_4∧AsZ (spec_GoodSkip.l4 kq x95_3 x11_4 x12_4 x4_2 (x4_2.length:Int) x95_3 l0_0 l0_1=some r)∧AsZ (kq≤k3)∧AsZ (Kd.R (Kd.int .i64) 3 w' w.heap.size (fun _=>True) (.slice (some ad261) x4_2.length co74) x4_2)∧AsZ (w'.heap[gb239]? = some (.cells #[(.slice (some ad262) l0_0.length c0_0),(.slice A0_1 l0_1.length c0_1)] 26 (0,0)))∧AsZ (Below w.heap.size w w'))
       case atStart=>exact ⟨(rd x4_2 x95_3),((-1)),rs,rs,H',⟨Nat.le_refl _⟩,⟨kR HO_93⟩,⟨bk BK239⟩,⟨bel⟩⟩
       case round =>
        clear H'
        try clear p2 q2
        try clear hx2
        try clear q3
        try clear c4b0
        try clear c4b1
        try clear p6 q6
        try clear hx6
        try clear hf6
        try clear c9b0
        try clear c9b1
        try clear c14b0
        try clear c15b0
        try clear c16b0
        try clear p24 q24
        try clear hx24
        try clear p25 q25
        try clear hx25
        try clear p26 q26
        try clear hx26
        try clear c33b0
        try clear c33b1
        try clear c34b0
        try clear c34b1
        try clear q37
        try clear c38b0
        try clear c39b0
        try clear c40b0
        try clear c42b0
        try clear c42b1
        try clear c59b0
        try clear c60b0
        try clear c61b0
        try clear p62 q62
        try clear hx62
        try clear hf62
        try clear c63b0
        try clear p64
        try clear c75b0
        try clear c76b0
        try clear c77b0
        try clear c78b0
        try clear hcz13_0 hcz13_1 hfz13_0 hfz13_1
        try clear hcz20_0 hcz20_1 hcz20_2 hcz20_3 hcz20_4 hfz20_0 hfz20_1 hfz20_2 hfz20_3 hfz20_4
        try clear hcz36_0 hcz36_1 hfz36_0 hfz36_1
        try clear hcz46_0 hcz46_1 hcz46_2 hcz46_3 hcz46_4 hfz46_0 hfz46_1 hfz46_2 hfz46_3 hfz46_4
        try clear hcz48_0 hcz48_1 hcz48_2 hcz48_3 hcz48_4 hfz48_0 hfz48_1 hfz48_2 hfz48_3 hfz48_4
        try clear hcz53_0 hcz53_1 hcz53_2 hcz53_3 hcz53_4 hfz53_0 hfz53_1 hfz53_2 hfz53_3 hfz53_4
        try clear hcz55_0 hcz55_1 hcz55_2 hcz55_3 hcz55_4 hfz55_0 hfz55_1 hfz55_2 hfz55_3 hfz55_4
        try clear hcz58_0 hcz58_1 hcz58_2 hcz58_3 hcz58_4 hfz58_0 hfz58_1 hfz58_2 hfz58_3 hfz58_4
        try clear hcz5_0 hcz5_1 hfz5_0 hfz5_1
        try clear hcz6_0 hcz6_1 hfz6_0 hfz6_1
        try clear hx246_0 hx246_1 hx246_2 hx246_3 hx246_4
        try clear hx254_0 hx254_1 hx254_2 hx254_3 hx254_4
        try clear hx257_0
        try clear hx259_0
        try clear hx261_0
        try clear hx262_0
        try clear hx62_0
        try clear p246 q246
        try clear p254 q254
        try clear p257 q257
        try clear p259 q259
        try clear p261 q261
        try clear p262 q262
        obtain ⟨x11_4,x12_4,rfl,rfl,HA,HK4,HO_93,BK239,HB⟩:=hrel
        cases gk with
        |zero=>exact absurd HA.out (by simp [spec_GoodSkip.l4])
        |succ k4 =>
         have H:=HA.out;clear HA;simp only [spec_GoodSkip.l4] at H;by_cases c82:x11_4 > 0;rotate_left
         · rw [if_neg c82] at H
           have c82b0:decide (0 < x11_4)=false:=decide_eq_false c82;clear c82;replace H:=bs H;obtain ⟨t269,A101,H⟩:=H;by_cases c102:t269=(-1);rotate_left
           · rw [if_neg c102] at H
             have c102b0:(t269 == (-1))=false:=beq_eq_false_iff_ne.mpr c102;have c102b1:(t269 != (-1))=true:=bne_iff_ne.mpr c102;obtain rfl:=zI H;obtain ⟨hcz105_0,hcz105_1,hfz105_0,hfz105_1⟩:=bx2 BK239;go_wp2_with (first|((with_reducible refine gcl (f:=72) rfl ?_);refine gk (some 156) Tryd.func72 #[.agg #[.slice (some ad262) l0_0.length c0_0,.slice A0_1 l0_1.length c0_1],.int .i64 x12_4,.int .i64 x95_3] ?_;(with_reducible refine (spec_l4Next.calls _ _ l0_0 _ _ l0_1 x12_4 x95_3 t269 _ ?side1 ?side2 ?side3 ?side4 A101.out).mono ?_);(case side1=>exact cC (Kd.C_below HR0_0.out HB.out));(case side2=>exact HC0_0.out);(case side3=>exact cC (Kd.C_below HR0_1.out HB.out));(case side4=>exact HC0_1.out);rintro e w106 ⟨rfl,hb⟩;refine ⟨_,rfl,?_⟩;replace HO_93:=rR HO_93 hb;replace BK239:=bb BK239 hb;replace HB:=bp hb;(try clear hb);(try clear hb2);(try clear hk);(try clear hi)));go_ret;exact ⟨re,bel⟩
           rw [if_pos c102] at H;have c102b0:(t269 == (-1))=true:=beq_iff_eq.mpr c102;have c102b1:(t269 != (-1))=false:=bne_eq_false_iff_eq.mpr c102;clear c102;have H':=AsZ.mk H;clear H;obtain ⟨hcz103_0,hcz103_1,hfz103_0,hfz103_1⟩:=bx2 BK239;go_wp2_with (first|((with_reducible refine gcl (f:=72) rfl ?_);refine gk (some 156) Tryd.func72 #[.agg #[.slice (some ad262) l0_0.length c0_0,.slice A0_1 l0_1.length c0_1],.int .i64 x12_4,.int .i64 x95_3] ?_;(with_reducible refine (spec_l4Next.calls _ _ l0_0 _ _ l0_1 x12_4 x95_3 t269 _ ?side1 ?side2 ?side3 ?side4 A101.out).mono ?_);(case side1=>exact cC (Kd.C_below HR0_0.out HB.out));(case side2=>exact HC0_0.out);(case side3=>exact cC (Kd.C_below HR0_1.out HB.out));(case side4=>exact HC0_1.out);rintro e w104 ⟨rfl,hb⟩;refine ⟨_,rfl,?_⟩;replace HO_93:=rR HO_93 hb;replace BK239:=bb BK239 hb;replace HB:=bp hb;(try clear hb);(try clear hb2);(try clear hk);(try clear hi)));go_roundg k4
           case measure=>have:=HJ1.out;have:=HK2.out;have:=HK3.out;have:=HK4.out;omega
           case rel=>exact ⟨(wrap64 (x95_3 + 1)),rs,H',⟨by have:=HJ1.out;have:=HK2.out;have:=HK3.out;have:=HK4.out;omega⟩,⟨kR HO_93⟩,⟨bk BK239⟩,⟨bel⟩⟩
         rw [if_pos c82] at H;have c82b0:decide (0 < x11_4)=true:=zE c82;clear c82;replace H:=bs H;obtain ⟨t264,A83,H⟩:=H;have HC84:=AsZ.mk H;clear H;obtain ⟨hcz85_0,hcz85_1,hfz85_0,hfz85_1⟩:=bx2 BK239;go_upto_region 33 with (first|((with_reducible refine gcl (f:=72) rfl ?_);refine gk (some 118) Tryd.func72 #[.agg #[.slice (some ad262) l0_0.length c0_0,.slice A0_1 l0_1.length c0_1],.int .i64 x12_4,.int .i64 x95_3] ?_;(with_reducible refine (spec_l4Next.calls _ _ l0_0 _ _ l0_1 x12_4 x95_3 t264 _ ?side1 ?side2 ?side3 ?side4 A83.out).mono ?_);(case side1=>exact cC (Kd.C_below HR0_0.out HB.out));(case side2=>exact HC0_0.out);(case side3=>exact cC (Kd.C_below HR0_1.out HB.out));(case side4=>exact HC0_1.out);rintro e w86 ⟨rfl,hb⟩;refine ⟨_,rfl,?_⟩;replace HO_93:=rR HO_93 hb;replace BK239:=bb BK239 hb;replace HB:=bp hb;(try clear hb);(try clear hb2);(try clear hk);(try clear hi)))
         (try simp only [Act.put,zS,zT,zU])
         go_cut [151] (fun v151 wc => ∃ (kq:Nat) (x151_83:Bool),v151 = .bool x151_83∧AsZ (spec_GoodSkip.j7 kq x95_3 x11_4 t264 x4_2 (x4_2.length:Int) x95_3 x151_83 l0_0 l0_1=some r)∧AsZ (kq≤k4)∧AsZ (Kd.R (Kd.int .i64) 3 wc w.heap.size (fun _=>True) (.slice (some ad261) x4_2.length co74) x4_2)∧AsZ (wc.heap[gb239]? = some (.cells #[(.slice (some ad262) l0_0.length c0_0),(.slice A0_1 l0_1.length c0_1)] 26 (0,0)))∧AsZ (Below w.heap.size w wc))
         case first =>
          have H:=HC84.out;clear HC84;by_cases c87:t264 < 0
          · rw [if_pos c87] at H
            have c87b0:=zE c87;clear c87;(first|rw [c87b0]|(simp only [i64_w,i32_w];rw [c87b0])|rw [c87b1]|skip);have H':=AsZ.mk H;clear H
            try go_wp2
            replace HO_93:=dR HO_93;replace BK239:=db BK239;replace HB:=dB HB;refine start_ (n:=33) (S:=fun w'=>True) (ds:=[]) (b_ 0 33) (by kernel_rfl) rfl rfl trivial (fun hHeld=>?_);refine with_tabW spec_GoodSkip.tab33 spec_GoodSkip.bits33 (fun HT_ HW_=>?_);generalize w86.drew=w88 at HO_93 BK239 HB hHeld ⊢;refine pu 0 119 (b_ 1 32) HT_.out ?_;refine pu 1 120 (b_ 2 31) HT_.out ?_;refine pu 2 121 (b_ 3 30) HT_.out ?_;refine pd 3 122 (b_ 4 29) HT_.out ?_;refine pd 4 123 (b_ 5 28) HT_.out ?_;refine pd 5 124 (b_ 6 27) HT_.out ?_;refine pd 6 125 (b_ 7 26) HT_.out ?_;refine pd 7 126 (b_ 8 25) HT_.out ?_;refine pd 8 127 (b_ 9 24) HT_.out ?_;refine pd 9 128 (b_ 10 23) HT_.out ?_;refine pd 10 129 (b_ 11 22) HT_.out ?_;refine pd 11 130 (b_ 12 21) HT_.out ?_;refine pu 12 131 (b_ 13 20) HT_.out ?_;refine pu 13 132 (b_ 14 19) HT_.out ?_;refine pd 14 133 (b_ 15 18) HT_.out ?_;refine pd 15 134 (b_ 16 17) HT_.out ?_;refine pd 16 135 (b_ 17 16) HT_.out ?_;refine pd 17 136 (b_ 18 15) HT_.out ?_;refine pd 18 137 (b_ 19 14) HT_.out ?_;refine pd 19 138 (b_ 20 13) HT_.out ?_;refine pd 20 139 (b_ 21 12) HT_.out ?_;refine pd 21 140 (b_ 22 11) HT_.out ?_;refine pd 22 141 (b_ 23 10) HT_.out ?_;refine pd 23 142 (b_ 24 9) HT_.out ?_;refine pd 24 143 (b_ 25 8) HT_.out ?_;refine pd 25 144 (b_ 26 7) HT_.out ?_;refine pd 26 145 (b_ 27 6) HT_.out ?_;refine pd 27 146 (b_ 28 5) HT_.out ?_;refine pd 28 147 (b_ 29 4) HT_.out ?_;refine pd 29 148 (b_ 30 3) HT_.out ?_;refine pd 30 149 (b_ 31 2) HT_.out ?_;refine pd 31 150 (b_ 32 1) HT_.out ?_;refine pu 32 151 (b_ 33 0) HT_.out ?_;refine dn_ (dnO HT_.out (by kernel_rfl)) ?_
            try go_wp2
            go_meet
            case rel=>exact ⟨_,(true),rs,H',⟨by have:=HJ1.out;have:=HK2.out;have:=HK3.out;have:=HK4.out;first|omega|exact Nat.le_refl _⟩,⟨kR HO_93⟩,⟨bk BK239⟩,⟨bel⟩⟩
          rw [if_neg c87] at H;have c87b0:=decide_eq_false c87;clear c87;(first|rw [c87b0]|(simp only [i64_w,i32_w];rw [c87b0])|rw [c87b1]|skip);by_cases c89:0≤t264;rotate_left
          · rw [if_neg c89] at H
            exact absurd H (by simp)
          rw [if_pos c89] at H;have c89b0:=zE c89;clear c89;by_cases c90:t264 < (l0_1.length:Int);rotate_left
          · rw [if_neg c90] at H
            exact absurd H (by simp)
          rw [if_pos c90] at H;have c90b0:=zE c90;clear c90;by_cases c91:(((rd_T77 l0_1 t264).f1).length:Int)≤x95_3
          · rw [if_pos c91] at H
            have c91b0:=zE c91;clear c91;have H':=AsZ.mk H;clear H
            try go_wp2
            replace HO_93:=dR HO_93;replace BK239:=db BK239;replace HB:=dB HB;have p265:0≤(t264:Int):=dd;have q265:t264 < (l0_1.length:Int):=dd;obtain ⟨ad265,A265_4,c265_4,e265,hx265_0,hx265_1,hx265_2,hx265_3,hx265_4,hl265_4,hi265_4⟩:=at_T77 HR0_1.out t264 p265 q265;have hw265_4:=hx265_4;have hw265_3:=hx265_3;have hw265_2:=hx265_2;have hw265_1:=hx265_1;have hw265_0:=hx265_0;cases e265;replace hx265_0:=pcb HB.out hx265_0;replace hx265_1:=pcb HB.out hx265_1;replace hx265_2:=pcb HB.out hx265_2;replace hx265_3:=pcb HB.out hx265_3;replace hx265_4:=pcb HB.out hx265_4;have HR265_4:=AsZ.mk hi265_4;have HC265_4:=AsZ.mk hl265_4;clear hi265_4 hl265_4;replace p265:=eq_true p265;replace q265:=eq_true q265;refine start_ (n:=33) (S:=fun w'=>w'.cell? ⟨gb239,0,none⟩=some (.slice (some ad262) l0_0.length c0_0)∧w'.cell? ⟨gb239,1,none⟩=some (.slice (some ad265) l0_1.length c0_1)∧w'.cell? (ad265.add ((t264).toNat * 5))=some (.string ((rd_T77 l0_1 t264).f0.f0))∧w'.cell? ⟨(ad265.add ((t264).toNat * 5)).block,(ad265.add ((t264).toNat * 5)).off + 1,none⟩=some (.int .i64 ((rd_T77 l0_1 t264).f0.f1))∧w'.cell? ⟨(ad265.add ((t264).toNat * 5)).block,(ad265.add ((t264).toNat * 5)).off + 2,none⟩=some (.int .i64 ((rd_T77 l0_1 t264).f0.f2))∧w'.cell? ⟨(ad265.add ((t264).toNat * 5)).block,(ad265.add ((t264).toNat * 5)).off + 3,none⟩=some (.string ((rd_T77 l0_1 t264).f0.f3))∧w'.cell? ⟨(ad265.add ((t264).toNat * 5)).block,(ad265.add ((t264).toNat * 5)).off + 4,none⟩=some (.slice A265_4 ((rd_T77 l0_1 t264).f1).length c265_4)) (ds:=[]) (b_ 0 33) (by kernel_rfl) rfl rfl cl (fun hHeld=>?_);refine with_tabW spec_GoodSkip.tab33 spec_GoodSkip.bits33 (fun HT_ HW_=>?_);generalize w86.drew=w92 at HO_93 BK239 HB HR265_4 hx265_0 hx265_1 hx265_2 hx265_3 hx265_4 hHeld ⊢;refine pu 0 119 (b_ 1 32) HT_.out ?_;refine pu 1 120 (b_ 2 31) HT_.out ?_;refine pu 2 121 (b_ 3 30) HT_.out ?_;refine pu 3 122 (b_ 4 29) HT_.out ?_;refine pu 5 124 #[true,true,true,true,false,true,false,false,false,false,false,false,false,false,false,false,false,false,false,false,false,false,false,false,false,false,false,false,false,false,false,false,false] HT_.out ?_;refine pu 10 129 #[true,true,true,true,false,true,false,false,false,false,true,false,false,false,false,false,false,false,false,false,false,false,false,false,false,false,false,false,false,false,false,false,false] HT_.out ?_;refine tk7 4 123 #[true,true,true,true,true,true,false,false,false,false,true,false,false,false,false,false,false,false,false,false,false,false,false,false,false,false,false,false,false,false,false,false,false] HT_.out HW_.out hHeld ?_;refine pu 6 125 #[true,true,true,true,true,true,true,false,false,false,true,false,false,false,false,false,false,false,false,false,false,false,false,false,false,false,false,false,false,false,false,false,false] HT_.out ?_;refine pu 7 126 #[true,true,true,true,true,true,true,true,false,false,true,false,false,false,false,false,false,false,false,false,false,false,false,false,false,false,false,false,false,false,false,false,false] HT_.out ?_;refine tk7 8 127 #[true,true,true,true,true,true,true,true,true,false,true,false,false,false,false,false,false,false,false,false,false,false,false,false,false,false,false,false,false,false,false,false,false] HT_.out HW_.out hHeld ?_;refine pu 9 128 (b_ 11 22) HT_.out ?_;refine pu 11 130 (b_ 12 21) HT_.out ?_;refine pu 12 131 (b_ 13 20) HT_.out ?_;refine pu 13 132 (b_ 14 19) HT_.out ?_;refine pd 14 133 (b_ 15 18) HT_.out ?_;refine pd 15 134 (b_ 16 17) HT_.out ?_;refine pd 16 135 (b_ 17 16) HT_.out ?_;refine pd 17 136 (b_ 18 15) HT_.out ?_;refine pd 18 137 (b_ 19 14) HT_.out ?_;refine pd 19 138 (b_ 20 13) HT_.out ?_;refine pd 20 139 (b_ 21 12) HT_.out ?_;refine pd 21 140 (b_ 22 11) HT_.out ?_;refine pd 22 141 (b_ 23 10) HT_.out ?_;refine pd 23 142 (b_ 24 9) HT_.out ?_;refine pd 24 143 (b_ 25 8) HT_.out ?_;refine pd 25 144 (b_ 26 7) HT_.out ?_;refine pd 26 145 (b_ 27 6) HT_.out ?_;refine pd 27 146 (b_ 28 5) HT_.out ?_;refine pd 28 147 (b_ 29 4) HT_.out ?_;refine pd 29 148 (b_ 30 3) HT_.out ?_;refine pd 30 149 (b_ 31 2) HT_.out ?_;refine pd 31 150 (b_ 32 1) HT_.out ?_;refine pu 32 151 (b_ 33 0) HT_.out ?_;refine dn_ (dnO HT_.out (by kernel_rfl)) ?_
            try go_wp2
            go_meet
            case rel=>exact ⟨_,(true),rs,H',⟨by have:=HJ1.out;have:=HK2.out;have:=HK3.out;have:=HK4.out;first|omega|exact Nat.le_refl _⟩,⟨kR HO_93⟩,⟨bk BK239⟩,⟨bel⟩⟩
          rw [if_neg c91] at H;have c91b0:=decide_eq_false c91;clear c91;by_cases c93:x12_4 ≥ 0;rotate_left
          · rw [if_neg c93] at H
            have c93b0:decide (0≤x12_4)=false:=decide_eq_false c93;clear c93;have H':=AsZ.mk H;clear H
            try go_wp2
            replace HO_93:=dR HO_93;replace BK239:=db BK239;replace HB:=dB HB;have p265:0≤(t264:Int):=dd;have q265:t264 < (l0_1.length:Int):=dd;obtain ⟨ad265,A265_4,c265_4,e265,hx265_0,hx265_1,hx265_2,hx265_3,hx265_4,hl265_4,hi265_4⟩:=at_T77 HR0_1.out t264 p265 q265;have hw265_4:=hx265_4;have hw265_3:=hx265_3;have hw265_2:=hx265_2;have hw265_1:=hx265_1;have hw265_0:=hx265_0;cases e265;replace hx265_0:=pcb HB.out hx265_0;replace hx265_1:=pcb HB.out hx265_1;replace hx265_2:=pcb HB.out hx265_2;replace hx265_3:=pcb HB.out hx265_3;replace hx265_4:=pcb HB.out hx265_4;have HR265_4:=AsZ.mk hi265_4;have HC265_4:=AsZ.mk hl265_4;clear hi265_4 hl265_4;replace p265:=eq_true p265;replace q265:=eq_true q265;refine start_ (n:=33) (S:=fun w'=>w'.cell? ⟨gb239,0,none⟩=some (.slice (some ad262) l0_0.length c0_0)∧w'.cell? ⟨gb239,1,none⟩=some (.slice (some ad265) l0_1.length c0_1)∧w'.cell? (ad265.add ((t264).toNat * 5))=some (.string ((rd_T77 l0_1 t264).f0.f0))∧w'.cell? ⟨(ad265.add ((t264).toNat * 5)).block,(ad265.add ((t264).toNat * 5)).off + 1,none⟩=some (.int .i64 ((rd_T77 l0_1 t264).f0.f1))∧w'.cell? ⟨(ad265.add ((t264).toNat * 5)).block,(ad265.add ((t264).toNat * 5)).off + 2,none⟩=some (.int .i64 ((rd_T77 l0_1 t264).f0.f2))∧w'.cell? ⟨(ad265.add ((t264).toNat * 5)).block,(ad265.add ((t264).toNat * 5)).off + 3,none⟩=some (.string ((rd_T77 l0_1 t264).f0.f3))∧w'.cell? ⟨(ad265.add ((t264).toNat * 5)).block,(ad265.add ((t264).toNat * 5)).off + 4,none⟩=some (.slice A265_4 ((rd_T77 l0_1 t264).f1).length c265_4)) (ds:=[]) (b_ 0 33) (by kernel_rfl) rfl rfl cl (fun hHeld=>?_);refine with_tabW spec_GoodSkip.tab33 spec_GoodSkip.bits33 (fun HT_ HW_=>?_);generalize w86.drew=w99 at HO_93 BK239 HB HR265_4 hx265_0 hx265_1 hx265_2 hx265_3 hx265_4 hHeld ⊢;refine pu 0 119 (b_ 1 32) HT_.out ?_;refine pu 1 120 (b_ 2 31) HT_.out ?_;refine pu 2 121 (b_ 3 30) HT_.out ?_;refine pu 3 122 (b_ 4 29) HT_.out ?_;refine pu 5 124 #[true,true,true,true,false,true,false,false,false,false,false,false,false,false,false,false,false,false,false,false,false,false,false,false,false,false,false,false,false,false,false,false,false] HT_.out ?_;refine pu 10 129 #[true,true,true,true,false,true,false,false,false,false,true,false,false,false,false,false,false,false,false,false,false,false,false,false,false,false,false,false,false,false,false,false,false] HT_.out ?_;refine tk7 4 123 #[true,true,true,true,true,true,false,false,false,false,true,false,false,false,false,false,false,false,false,false,false,false,false,false,false,false,false,false,false,false,false,false,false] HT_.out HW_.out hHeld ?_;refine pu 6 125 #[true,true,true,true,true,true,true,false,false,false,true,false,false,false,false,false,false,false,false,false,false,false,false,false,false,false,false,false,false,false,false,false,false] HT_.out ?_;refine pu 7 126 #[true,true,true,true,true,true,true,true,false,false,true,false,false,false,false,false,false,false,false,false,false,false,false,false,false,false,false,false,false,false,false,false,false] HT_.out ?_;refine tk7 8 127 #[true,true,true,true,true,true,true,true,true,false,true,false,false,false,false,false,false,false,false,false,false,false,false,false,false,false,false,false,false,false,false,false,false] HT_.out HW_.out hHeld ?_;refine pu 9 128 (b_ 11 22) HT_.out ?_;refine pu 11 130 (b_ 12 21) HT_.out ?_;refine pu 12 131 (b_ 13 20) HT_.out ?_;refine pu 13 132 (b_ 14 19) HT_.out ?_;refine pu 14 133 (b_ 15 18) HT_.out ?_;refine pu 15 134 (b_ 16 17) HT_.out ?_;refine pu 16 135 (b_ 17 16) HT_.out ?_;refine pd 17 136 (b_ 18 15) HT_.out ?_;refine pd 18 137 (b_ 19 14) HT_.out ?_;refine pd 19 138 (b_ 20 13) HT_.out ?_;refine pd 20 139 (b_ 21 12) HT_.out ?_;refine pd 21 140 (b_ 22 11) HT_.out ?_;refine pd 22 141 (b_ 23 10) HT_.out ?_;refine pd 23 142 (b_ 24 9) HT_.out ?_;refine pd 24 143 (b_ 25 8) HT_.out ?_;refine pd 25 144 (b_ 26 7) HT_.out ?_;refine pd 26 145 (b_ 27 6) HT_.out ?_;refine pd 27 146 (b_ 28 5) HT_.out ?_;refine pd 28 147 (b_ 29 4) HT_.out ?_;refine pd 29 148 (b_ 30 3) HT_.out ?_;refine pd 30 149 (b_ 31 2) HT_.out ?_;refine pu 31 150 (b_ 32 1) HT_.out ?_;refine pu 32 151 (b_ 33 0) HT_.out ?_;refine dn_ (dnO HT_.out (by kernel_rfl)) ?_
            try go_wp2
            go_meet
            case rel=>exact ⟨_,(false),rs,H',⟨by have:=HJ1.out;have:=HK2.out;have:=HK3.out;have:=HK4.out;first|omega|exact Nat.le_refl _⟩,⟨kR HO_93⟩,⟨bk BK239⟩,⟨bel⟩⟩
          rw [if_pos c93] at H;have c93b0:decide (0≤x12_4)=true:=zE c93;clear c93;by_cases c94:0≤x12_4;rotate_left
          · rw [if_neg c94] at H
            exact absurd H (by simp)
          rw [if_pos c94] at H;have c94b0:=zE c94;clear c94;by_cases c95:x12_4 < (l0_1.length:Int);rotate_left
          · rw [if_neg c95] at H
            exact absurd H (by simp)
          rw [if_pos c95] at H;have c95b0:=zE c95;clear c95;replace H:=bs H;obtain ⟨t268,A96,H⟩:=H;have H':=AsZ.mk H;clear H
          try go_wp2
          replace HO_93:=dR HO_93;replace BK239:=db BK239;replace HB:=dB HB;have p265:0≤(t264:Int):=dd;have q265:t264 < (l0_1.length:Int):=dd;obtain ⟨ad265,A265_4,c265_4,e265,hx265_0,hx265_1,hx265_2,hx265_3,hx265_4,hl265_4,hi265_4⟩:=at_T77 HR0_1.out t264 p265 q265;have hw265_4:=hx265_4;have hw265_3:=hx265_3;have hw265_2:=hx265_2;have hw265_1:=hx265_1;have hw265_0:=hx265_0;cases e265;replace hx265_0:=pcb HB.out hx265_0;replace hx265_1:=pcb HB.out hx265_1;replace hx265_2:=pcb HB.out hx265_2;replace hx265_3:=pcb HB.out hx265_3;replace hx265_4:=pcb HB.out hx265_4;have HR265_4:=AsZ.mk hi265_4;have HC265_4:=AsZ.mk hl265_4;clear hi265_4 hl265_4;replace p265:=eq_true p265;replace q265:=eq_true q265;have p266:0≤(x12_4:Int):=dd;have q266:x12_4 < (l0_1.length:Int):=dd;obtain ⟨ad266,A266_4,c266_4,e266,hx266_0,hx266_1,hx266_2,hx266_3,hx266_4,hl266_4,hi266_4⟩:=at_T77 HR0_1.out x12_4 p266 q266;have hw266_4:=hx266_4;have hw266_3:=hx266_3;have hw266_2:=hx266_2;have hw266_1:=hx266_1;have hw266_0:=hx266_0;obtain rfl:ad265=ad266:=(by injection e266);replace hx266_0:=pcb HB.out hx266_0;replace hx266_1:=pcb HB.out hx266_1;replace hx266_2:=pcb HB.out hx266_2;replace hx266_3:=pcb HB.out hx266_3;replace hx266_4:=pcb HB.out hx266_4;have HR266_4:=AsZ.mk hi266_4;have HC266_4:=AsZ.mk hl266_4;clear hi266_4 hl266_4;replace p266:=eq_true p266;replace q266:=eq_true q266;have p267:0≤(t264:Int):=dd;have q267:t264 < (l0_1.length:Int):=dd;obtain ⟨ad267,A267_4,c267_4,e267,hx267_0,hx267_1,hx267_2,hx267_3,hx267_4,hl267_4,hi267_4⟩:=at_T77 HR0_1.out t264 p267 q267;have hw267_4:=hx267_4;have hw267_3:=hx267_3;have hw267_2:=hx267_2;have hw267_1:=hx267_1;have hw267_0:=hx267_0;obtain rfl:ad265=ad267:=(by injection e267);replace hx267_0:=pcb HB.out hx267_0;replace hx267_1:=pcb HB.out hx267_1;replace hx267_2:=pcb HB.out hx267_2;replace hx267_3:=pcb HB.out hx267_3;replace hx267_4:=pcb HB.out hx267_4;have HR267_4:=AsZ.mk hi267_4;have HC267_4:=AsZ.mk hl267_4;clear hi267_4 hl267_4;replace p267:=eq_true p267;replace q267:=eq_true q267;have ea_:=zI (hx265_4.symm.trans hx267_4);injection ea_ with ea_ en_ ec_
          subst ea_;subst ec_;clear en_;refine start_ (n:=33) (S:=fun w'=>w'.cell? ⟨gb239,0,none⟩=some (.slice (some ad262) l0_0.length c0_0)∧w'.cell? ⟨gb239,1,none⟩=some (.slice (some ad265) l0_1.length c0_1)∧w'.cell? (ad265.add ((t264).toNat * 5))=some (.string ((rd_T77 l0_1 t264).f0.f0))∧w'.cell? ⟨(ad265.add ((t264).toNat * 5)).block,(ad265.add ((t264).toNat * 5)).off + 1,none⟩=some (.int .i64 ((rd_T77 l0_1 t264).f0.f1))∧w'.cell? ⟨(ad265.add ((t264).toNat * 5)).block,(ad265.add ((t264).toNat * 5)).off + 2,none⟩=some (.int .i64 ((rd_T77 l0_1 t264).f0.f2))∧w'.cell? ⟨(ad265.add ((t264).toNat * 5)).block,(ad265.add ((t264).toNat * 5)).off + 3,none⟩=some (.string ((rd_T77 l0_1 t264).f0.f3))∧w'.cell? ⟨(ad265.add ((t264).toNat * 5)).block,(ad265.add ((t264).toNat * 5)).off + 4,none⟩=some (.slice A265_4 ((rd_T77 l0_1 t264).f1).length c265_4)∧w'.cell? (ad265.add ((x12_4).toNat * 5))=some (.string ((rd_T77 l0_1 x12_4).f0.f0))∧w'.cell? ⟨(ad265.add ((x12_4).toNat * 5)).block,(ad265.add ((x12_4).toNat * 5)).off + 1,none⟩=some (.int .i64 ((rd_T77 l0_1 x12_4).f0.f1))∧w'.cell? ⟨(ad265.add ((x12_4).toNat * 5)).block,(ad265.add ((x12_4).toNat * 5)).off + 2,none⟩=some (.int .i64 ((rd_T77 l0_1 x12_4).f0.f2))∧w'.cell? ⟨(ad265.add ((x12_4).toNat * 5)).block,(ad265.add ((x12_4).toNat * 5)).off + 3,none⟩=some (.string ((rd_T77 l0_1 x12_4).f0.f3))∧w'.cell? ⟨(ad265.add ((x12_4).toNat * 5)).block,(ad265.add ((x12_4).toNat * 5)).off + 4,none⟩=some (.slice A266_4 ((rd_T77 l0_1 x12_4).f1).length c266_4)∧w'.cell? (ad265.add ((t264).toNat * 5))=some (.string ((rd_T77 l0_1 t264).f0.f0))∧w'.cell? ⟨(ad265.add ((t264).toNat * 5)).block,(ad265.add ((t264).toNat * 5)).off + 1,none⟩=some (.int .i64 ((rd_T77 l0_1 t264).f0.f1))∧w'.cell? ⟨(ad265.add ((t264).toNat * 5)).block,(ad265.add ((t264).toNat * 5)).off + 2,none⟩=some (.int .i64 ((rd_T77 l0_1 t264).f0.f2))∧w'.cell? ⟨(ad265.add ((t264).toNat * 5)).block,(ad265.add ((t264).toNat * 5)).off + 3,none⟩=some (.string ((rd_T77 l0_1 t264).f0.f3))∧w'.cell? ⟨(ad265.add ((t264).toNat * 5)).block,(ad265.add ((t264).toNat * 5)).off + 4,none⟩=some (.slice A265_4 ((rd_T77 l0_1 t264).f1).length c265_4)) (ds:=[]) (b_ 0 33) (by kernel_rfl) rfl rfl cl (fun hHeld=>?_);refine with_tabW spec_GoodSkip.tab33 spec_GoodSkip.bits33 (fun HT_ HW_=>?_);generalize w86.drew=w97 at HO_93 BK239 HB HR265_4 HR266_4 HR267_4 hx265_0 hx265_1 hx265_2 hx265_3 hx265_4 hx266_0 hx266_1 hx266_2 hx266_3 hx266_4 hx267_0 hx267_1 hx267_2 hx267_3 hx267_4 hHeld ⊢;refine pu 0 119 (b_ 1 32) HT_.out ?_;refine pu 1 120 (b_ 2 31) HT_.out ?_;refine pu 2 121 (b_ 3 30) HT_.out ?_;refine pu 3 122 (b_ 4 29) HT_.out ?_;refine pu 5 124 #[true,true,true,true,false,true,false,false,false,false,false,false,false,false,false,false,false,false,false,false,false,false,false,false,false,false,false,false,false,false,false,false,false] HT_.out ?_;refine pu 10 129 #[true,true,true,true,false,true,false,false,false,false,true,false,false,false,false,false,false,false,false,false,false,false,false,false,false,false,false,false,false,false,false,false,false] HT_.out ?_;refine tk17 4 123 #[true,true,true,true,true,true,false,false,false,false,true,false,false,false,false,false,false,false,false,false,false,false,false,false,false,false,false,false,false,false,false,false,false] HT_.out HW_.out hHeld ?_;refine pu 6 125 #[true,true,true,true,true,true,true,false,false,false,true,false,false,false,false,false,false,false,false,false,false,false,false,false,false,false,false,false,false,false,false,false,false] HT_.out ?_;refine pu 7 126 #[true,true,true,true,true,true,true,true,false,false,true,false,false,false,false,false,false,false,false,false,false,false,false,false,false,false,false,false,false,false,false,false,false] HT_.out ?_;refine tk17 8 127 #[true,true,true,true,true,true,true,true,true,false,true,false,false,false,false,false,false,false,false,false,false,false,false,false,false,false,false,false,false,false,false,false,false] HT_.out HW_.out hHeld ?_;refine pu 9 128 (b_ 11 22) HT_.out ?_;refine pu 11 130 (b_ 12 21) HT_.out ?_;refine pu 12 131 (b_ 13 20) HT_.out ?_;refine pu 13 132 (b_ 14 19) HT_.out ?_;refine pu 14 133 (b_ 15 18) HT_.out ?_;refine pu 15 134 (b_ 16 17) HT_.out ?_;refine pu 16 135 (b_ 17 16) HT_.out ?_;refine pu 17 136 (b_ 18 15) HT_.out ?_;refine pu 19 138 #[true,true,true,true,true,true,true,true,true,true,true,true,true,true,true,true,true,true,false,true,false,false,false,false,false,false,false,false,false,false,false,false,false] HT_.out ?_;refine pu 23 142 #[true,true,true,true,true,true,true,true,true,true,true,true,true,true,true,true,true,true,false,true,false,false,false,true,false,false,false,false,false,false,false,false,false] HT_.out ?_;refine pu 25 144 #[true,true,true,true,true,true,true,true,true,true,true,true,true,true,true,true,true,true,false,true,false,false,false,true,false,true,false,false,false,false,false,false,false] HT_.out ?_;refine tk17 18 137 #[true,true,true,true,true,true,true,true,true,true,true,true,true,true,true,true,true,true,true,true,false,false,false,true,false,true,false,false,false,false,false,false,false] HT_.out HW_.out hHeld ?_;refine pu 20 139 #[true,true,true,true,true,true,true,true,true,true,true,true,true,true,true,true,true,true,true,true,true,false,false,true,false,true,false,false,false,false,false,false,false] HT_.out ?_;refine pu 21 140 #[true,true,true,true,true,true,true,true,true,true,true,true,true,true,true,true,true,true,true,true,true,true,false,true,false,true,false,false,false,false,false,false,false] HT_.out ?_;refine tk17 22 141 #[true,true,true,true,true,true,true,true,true,true,true,true,true,true,true,true,true,true,true,true,true,true,true,true,false,true,false,false,false,false,false,false,false] HT_.out HW_.out hHeld ?_;refine tk17 24 143 (b_ 26 7) HT_.out HW_.out hHeld ?_;refine pu 26 145 (b_ 27 6) HT_.out ?_;refine pu 27 146 (b_ 28 5) HT_.out ?_;refine tk17 28 147 (b_ 29 4) HT_.out HW_.out hHeld ?_;refine on 29 (some 148) (b_ 30 3) HT_.out (fun K hK=>?_)
          refine gs Tryd.func47 #[.agg #[.string ((rd_T77 l0_1 x12_4).f0.f0),.int .i64 ((rd_T77 l0_1 x12_4).f0.f1),.int .i64 ((rd_T77 l0_1 x12_4).f0.f2),.string ((rd_T77 l0_1 x12_4).f0.f3)],.agg #[.string ((rd_T77 l0_1 t264).f0.f0),.int .i64 ((rd_T77 l0_1 t264).f0.f1),.int .i64 ((rd_T77 l0_1 t264).f0.f2),.string ((rd_T77 l0_1 t264).f0.f3)]] ?_
          with_reducible refine (spec_l4Compare.calls k4 ((rd_T77 l0_1 x12_4).f0.f0) ((rd_T77 l0_1 x12_4).f0.f1) ((rd_T77 l0_1 x12_4).f0.f2) ((rd_T77 l0_1 x12_4).f0.f3) ((rd_T77 l0_1 t264).f0.f0) ((rd_T77 l0_1 t264).f0.f1) ((rd_T77 l0_1 t264).f0.f2) ((rd_T77 l0_1 t264).f0.f3) t268 _ A96.out).mono ?_
          rintro e w98 ⟨rfl,hb⟩;refine ⟨_,rfl,?_⟩;replace HO_93:=rR HO_93 hb;replace BK239:=bb BK239 hb;replace HB:=bp hb;(try clear hb);(try clear hb2);(try clear hk);(try clear hi);refine hK.out _ _ cl (fun hHeld=>?_);clear hK K;refine norm_ (a':=?_) ?_ ?_;rotate_left
          · show Act.put _ (some 148) _=_
            simp only [Act.put,zS,zT,zU,i64_w,i32_w]
            rfl
          refine pu 30 149 (b_ 31 2) HT_.out ?_;refine pu 31 150 (b_ 32 1) HT_.out ?_;refine pu 32 151 (b_ 33 0) HT_.out ?_;refine dn_ (dnO HT_.out (by kernel_rfl)) ?_
          try go_wp2
          go_meet
          case rel=>exact ⟨_,(decide (t268 ≥ 0)),rs,H',⟨by have:=HJ1.out;have:=HK2.out;have:=HK3.out;have:=HK4.out;first|omega|exact Nat.le_refl _⟩,⟨kR HO_93⟩,⟨bk BK239⟩,⟨bel⟩⟩
         case rest =>
          clear HC84
          try clear p2 q2
          try clear hx2
          try clear p26 q26
          try clear hx26
          try clear c93b0
          try clear hx265_0 hx265_1 hx265_2 hx265_3 hx265_4
          try clear hx266_0 hx266_1 hx266_2 hx266_3 hx266_4
          try clear hx267_0 hx267_1 hx267_2 hx267_3 hx267_4
          try clear p265 q265
          try clear p266 q266
          try clear p267 q267
          obtain ⟨kq,x151_83,rfl,HA,HJ83,HO_93,BK239,HB⟩:=hcut
          cases kq with
          |zero=>exact absurd HA.out (by simp [spec_GoodSkip.j7])
          |succ kj83 =>
           have H:=HA.out;clear HA;simp only [spec_GoodSkip.j7] at H;by_cases c100:x151_83=true
           · subst c100
             replace H:=iP H;obtain rfl:=zI H;go_wp2;go_ret;exact ⟨re,bel⟩
           replace c100:=Bool.eq_false_iff.mpr c100;subst c100;replace H:=iN H;have H':=AsZ.mk H;clear H;go_wp2;go_roundg kj83
           case measure=>have:=HJ1.out;have:=HK2.out;have:=HK3.out;have:=HK4.out;have:=HJ83.out;omega
           case rel=>exact ⟨(wrap64 (x11_4 - 1)),(t264),rs,rs,H',⟨by have:=HJ1.out;have:=HK2.out;have:=HK3.out;have:=HK4.out;have:=HJ83.out;omega⟩,⟨kR HO_93⟩,⟨bk BK239⟩,⟨bel⟩⟩
end Go.Proofs.YtffjlpphcjfdgaaDoor.MFnExactInsertSkip
