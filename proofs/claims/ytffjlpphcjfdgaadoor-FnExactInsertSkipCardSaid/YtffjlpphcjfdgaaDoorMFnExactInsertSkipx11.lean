-- Written by a program of this session out of the translation. Not trusted: Lean checks it.
import Derived.Test.YtffjlpphcjfdgaaDoorMFnExactInsertSkipx0
import Derived.Test.YtffjlpphcjfdgaaDoorMFnExactInsertSkipx8
import Derived.Test.YtffjlpphcjfdgaaDoorMFnExactInsertSkipx9
namespace Go.Proofs.YtffjlpphcjfdgaaDoor.MFnExactInsertSkip
-- joined
-- short
-- shrunk
-- TAB
-- RD
open Go.Proofs.YtffjlpphcjfdgaaDoor Go.RowKit Go.Proofs.YtffjlpphcjfdgaaDoorW.PrintWords Go.Proofs.YtffjlpphcjfdgaaDoorW.PrintLast Go.Proofs.YtffjlpphcjfdgaaDoorW.PrintMore Go.Proofs.YtffjlpphcjfdgaaDoorX
attribute [local go_sem] max2_int min2_int max_two min_two max_three min_three max_four min_four str_gtr str_leq str_geq cell_twice
set_option linter.unusedVariables false
set_option linter.unusedSimpArgs false
-- COMPACT
/-! ### spec_l4Before: function 87 -/
mutual
def spec_l4Before.l0:Nat→List Int→Int→Int→Int→List Int→List (S77)→ByteArray→Int→Int→ByteArray→Option (List Int × Int)
  |0,_,_,_,_,_,_,_,_,_,_=>none
  |k + 1,x6,x7,x8,x9,x271000,x271001,x272000,x272001,x272002,x272003=>if x9 ≥ 0 then (spec_l4Before.l1 k x6 x7 x8 x9 x271000 x271001 x272000 x272001 x272002 x272003) else (some (x6,x8))
def spec_l4Before.l1:Nat→List Int→Int→Int→Int→List Int→List (S77)→ByteArray→Int→Int→ByteArray→Option (List Int × Int)
  |0,_,_,_,_,_,_,_,_,_,_=>none
  |k + 1,x6,x7,x8,x9,x271000,x271001,x272000,x272001,x272002,x272003=>(spec_l4Next.f x271000 x271001 x7 x9).bind fun t275=>(if t275 < 0 then (if 0≤x9 then (if x9 < (x6.length:Int) then (spec_l4Before.l0 k (x6.set (x9:Int).toNat x7) x7 x8 (wrap64 (x9 - 1)) x271000 x271001 x272000 x272001 x272002 x272003) else (none)) else (none)) else (if 0≤t275 then (if t275 < (x271001.length:Int) then ((spec_l4Compare.f k ((rd_T77 x271001 t275).f0.f0) ((rd_T77 x271001 t275).f0.f1) ((rd_T77 x271001 t275).f0.f2) ((rd_T77 x271001 t275).f0.f3) x272000 x272001 x272002 x272003).bind fun t278=>(if t278 ≥ 0 then (if 0≤x9 then (if x9 < (x6.length:Int) then (spec_l4Before.l0 k (x6.set (x9:Int).toNat x7) x7 (wrap64 (x8 + 1)) (wrap64 (x9 - 1)) x271000 x271001 x272000 x272001 x272002 x272003) else (none)) else (none)) else (spec_l4Before.l1 k x6 t275 (wrap64 (x8 + 1)) x9 x271000 x271001 x272000 x272001 x272002 x272003))) else (none)) else (none)))
end
def spec_l4Before.f (k:Nat) (l0_0:List Int) (l0_1:List (S77)) (a1_0:ByteArray) (a1_1:Int) (a1_2:Int) (a1_3:ByteArray):Option (List Int × Int):=if 5≤35184372088832 then (spec_l4Before.l0 k (List.replicate 5 0) (-1) 0 4 l0_0 l0_1 a1_0 a1_1 a1_2 a1_3) else (none)
theorem spec_l4Before.mono_l:∀ k,(∀ y0 y1 y2 y3 y4 y5 y6 y7 y8 y9,LeO (spec_l4Before.l0 k y0 y1 y2 y3 y4 y5 y6 y7 y8 y9) (spec_l4Before.l0 (k + 1) y0 y1 y2 y3 y4 y5 y6 y7 y8 y9))∧(∀ y0 y1 y2 y3 y4 y5 y6 y7 y8 y9,LeO (spec_l4Before.l1 k y0 y1 y2 y3 y4 y5 y6 y7 y8 y9) (spec_l4Before.l1 (k + 1) y0 y1 y2 y3 y4 y5 y6 y7 y8 y9))
  |0=>⟨fun _ _ _ _ _ _ _ _ _ _ r h=>by simp [spec_l4Before.l0] at h,fun _ _ _ _ _ _ _ _ _ _ r h=>by simp [spec_l4Before.l1] at h⟩
  |k + 1=>by
    obtain ⟨ih0,ih1⟩:=spec_l4Before.mono_l k;refine ⟨?_,?_⟩
    · intro y0 y1 y2 y3 y4 y5 y6 y7 y8 y9
      unfold spec_l4Before.l0;have j0:=@spec_l4Compare.mono;exact mo
    · intro y0 y1 y2 y3 y4 y5 y6 y7 y8 y9
      unfold spec_l4Before.l1;have j0:=@spec_l4Compare.mono;exact mo
theorem spec_l4Before.mono:∀ a0 a1 a2 a3 a4 a5 k,LeO (spec_l4Before.f k a0 a1 a2 a3 a4 a5) (spec_l4Before.f (k + 1) a0 a1 a2 a3 a4 a5):=by
  intro a0 a1 a2 a3 a4 a5 k;obtain ⟨ih0,ih1⟩:=spec_l4Before.mono_l k;unfold spec_l4Before.f;have j0:=@spec_l4Compare.mono;exact mo
def spec_l4Before.T10:Bool × List (List Nat × List Nat):=(true,[([],[]),([0],[0]),([],[]),([1,2],[1,2]),([3],[3]),([4],[4]),([],[]),([5,6],[5,6]),([7],[7])])
def spec_l4Before.B10:List Nat:=[0,1,0,7,15,31,0,127,255]
theorem spec_l4Before.tab10:rtab .any (opsOf Tryd.f87 10)=spec_l4Before.T10:=by kernel_rfl
theorem spec_l4Before.bits10:waitsOk spec_l4Before.T10.2 spec_l4Before.B10=true:=by kernel_rfl
set_option maxHeartbeats 8000000 in
set_option maxRecDepth 100000 in
theorem spec_l4Before.calls (k:Nat) (A0_0:Option Addr) (c0_0:Nat) (l0_0:List Int) (A0_1:Option Addr) (c0_1:Nat) (l0_1:List (S77)) (a1_0:ByteArray) (a1_1:Int) (a1_2:Int) (a1_3:ByteArray) (r1:List Int) (r2:Int) (w:World) (hr0_0:Kd.C (Kd.int .i64) w A0_0 l0_0.length l0_0) (hc0_0:l0_0.length≤c0_0) (hr0_1:Kd.C k77 w A0_1 l0_1.length l0_1) (hc0_1:l0_1.length≤c0_1) (h:spec_l4Before.f k l0_0 l0_1 a1_0 a1_1 a1_2 a1_3=some (r1,r2)) :
    Calls Tryd.prog 87 #[.agg #[.slice A0_0 l0_0.length c0_0,.slice A0_1 l0_1.length c0_1],.agg #[.string a1_0,.int .i64 a1_1,.int .i64 a1_2,.string a1_3]] w fun e w' => ∃ v0_:Value,e = .returned (.tuple #[v0_,.int .i64 r2])∧Kd.R (Kd.int .i64) 3 w' w.heap.size (fun _=>True) v0_ r1∧Below w.heap.size w w':=by
 have hu26:=Tryd.underlying26;have hu28:=Tryd.underlying28;have HR0_0:=AsZ.mk hr0_0;have HC0_0:=AsZ.mk hc0_0;clear hr0_0 hc0_0;have HR0_1:=AsZ.mk hr0_1;have HC0_1:=AsZ.mk hc0_1;clear hr0_1 hc0_1;have HB:=AsZ.mk (Below.refl w.heap.size w);have H:(if 5≤35184372088832 then (spec_l4Before.l0 k (List.replicate 5 0) (-1) 0 4 l0_0 l0_1 a1_0 a1_1 a1_2 a1_3) else (none))=some (r1,r2):=h;clear h;by_cases c3:5≤35184372088832;rotate_left
 · rw [if_neg c3] at H
   exact absurd H (by simp)
 rw [if_pos c3] at H;have c3b0:=eq_true c3;have c3b1:=zE c3;clear c3;obtain ⟨y272,hy272⟩:∃ y_:List Int,y_=(List.replicate 5 0):=⟨_,rfl⟩;replace H:(spec_l4Before.l0 k y272 (-1) 0 4 l0_0 l0_1 a1_0 a1_1 a1_2 a1_3)=some (r1,r2):=ry hy272 H;have Ny272:=AsZ.mk hy272;clear hy272;have H':=AsZ.mk H;clear H;go_enter Tryd.func87,Tryd.ntmps87;go_wp2_with (first|((with_reducible refine gate_dst (N:=2) rfl ?_);refine bev 2 26 (cs:=#[.slice A0_0 l0_0.length c0_0,.slice A0_1 l0_1.length c0_1]) ?_;intro gb270 hg w4 hbox hb;have BK270:=AsZ.mk (hbox);have GW270:=gz HB hg;have GE270:=gz HB hg;replace HB:=bp hb;clear hb hbox hg)|((with_reducible refine gate_dst (N:=3) rfl ?_);refine bev 3 28 (cs:=#[.string a1_0,.int .i64 a1_1,.int .i64 a1_2,.string a1_3]) ?_;intro gb271 hg w5 hbox hb;have BK271:=AsZ.mk (hbox);have GW271:=gz HB hg;have GE271:=gz HB hg;have NB270_271:=nl BK270 hg;have NB271_270:=nr BK270 hg;replace BK270:=bb BK270 hb;replace HB:=bp hb;clear hb hbox hg)|((with_reducible refine gate_dst (N:=11) rfl ?_);refine Kd.R_make (Kd.int .i64) _ 3 rfl (N:=11) rfl 23 _ _ rfl 5 rfl rfl Tryd.underlying23 (.int .i64 0) 8 info3 rfl (by decide) (by omega) 0 (ok:=fun _=>True) (okp:=fun _=>True) rfl (fun _ hk=>hk) trivial (by omega) (by omega) (Below.refl _ _) (Nat.le_refl _) ?_;intro v273 w6 ho7 hb hg_ hnew_;clear hg_ hnew_;(first|rw [← Ny272.out] at ho7|(simp only [Int.reduceToNat] at ho7;rw [← Ny272.out] at ho7));have HO274:=AsZ.mk (Kd.R_lower ho7 (bwz bel));replace BK270:=bb BK270 hb;replace BK271:=bb BK271 hb;replace HB:=bp hb;clear hb ho7))
 go_loopg [7,8,9] k (fun kq v7 v8 v9 w' => ∃ (x6_1:List Int) (x7_1:Int) (x8_1:Int) (x9_1:Int),v7 = .int .i64 x7_1∧v8 = .int .i64 x8_1∧v9 = .int .i64 x9_1∧AsZ (spec_l4Before.l0 kq x6_1 x7_1 x8_1 x9_1 l0_0 l0_1 a1_0 a1_1 a1_2 a1_3=some (r1,r2))∧AsZ (kq≤k)∧AsZ (Kd.R (Kd.int .i64) 3 w' w.heap.size (fun _=>True) v273 x6_1)∧AsZ (w'.heap[gb270]? = some (.cells #[(.slice A0_0 l0_0.length c0_0),(.slice A0_1 l0_1.length c0_1)] 26 (0,0)))∧AsZ (w'.heap[gb271]? = some (.cells #[.string a1_0,.int .i64 a1_1,.int .i64 a1_2,.string a1_3] 28 (0,0)))∧AsZ (Below w.heap.size w w'))
 case atStart=>exact ⟨(y272),((-1)),(0),(4),rs,rs,rs,H',⟨Nat.le_refl _⟩,⟨kR HO274⟩,⟨bk BK270⟩,⟨bk BK271⟩,⟨bel⟩⟩
 case round =>
  clear H'
  try clear p2
  try clear c3b0
  try clear c3b1
  obtain ⟨x6_1,x7_1,x8_1,x9_1,rfl,rfl,rfl,HA,HK1,HO_6,BK270,BK271,HB⟩:=hrel
  cases gk with
  |zero=>exact absurd HA.out (by simp [spec_l4Before.l0])
  |succ k1 =>
   have H:=HA.out;clear HA;simp only [spec_l4Before.l0] at H;by_cases c8:x9_1 ≥ 0;rotate_left
   · rw [if_neg c8] at H
     have c8b0:decide (0≤x9_1)=false:=decide_eq_false c8;clear c8;simp only [Option.some.injEq,Prod.mk.injEq] at H;obtain ⟨rfl,rfl⟩:=H;go_wp2
     go_ret2
     exact ⟨_,re,kR HO_6,bel⟩
   rw [if_pos c8] at H;have c8b0:decide (0≤x9_1)=true:=zE c8;clear c8;have H':=AsZ.mk H;clear H;go_wp2
   go_loopg [7,8] k1 (fun kq v7 v8 w' => ∃ (x7_2:Int) (x8_2:Int),v7 = .int .i64 x7_2∧v8 = .int .i64 x8_2∧AsZ (spec_l4Before.l1 kq x6_1 x7_2 x8_2 x9_1 l0_0 l0_1 a1_0 a1_1 a1_2 a1_3=some (r1,r2))∧AsZ (kq≤k1)∧AsZ (Kd.R (Kd.int .i64) 3 w' w.heap.size (fun _=>True) v273 x6_1)∧AsZ (w'.heap[gb270]? = some (.cells #[(.slice A0_0 l0_0.length c0_0),(.slice A0_1 l0_1.length c0_1)] 26 (0,0)))∧AsZ (w'.heap[gb271]? = some (.cells #[.string a1_0,.int .i64 a1_1,.int .i64 a1_2,.string a1_3] 28 (0,0)))∧AsZ (Below w.heap.size w w'))
   case atStart=>exact ⟨(x7_1),(x8_1),rs,rs,H',⟨Nat.le_refl _⟩,⟨kR HO_6⟩,⟨bk BK270⟩,⟨bk BK271⟩,⟨bel⟩⟩
   case round =>
    clear H'
    try clear p2
    try clear c3b0
    try clear c3b1
    try clear c8b0
    obtain ⟨x7_2,x8_2,rfl,rfl,HA,HK2,HO_6,BK270,BK271,HB⟩:=hrel
    cases gk with
    |zero=>exact absurd HA.out (by simp [spec_l4Before.l1])
    |succ k2 =>
     have H:=HA.out;clear HA;simp only [spec_l4Before.l1] at H;replace H:=bs H;obtain ⟨t275,A9,H⟩:=H;by_cases c10:t275 < 0
     · rw [if_pos c10] at H
       have c10b0:=zE c10;clear c10;by_cases c11:0≤x9_1;rotate_left
       · rw [if_neg c11] at H
         exact absurd H (by simp)
       rw [if_pos c11] at H;have c11b0:=zE c11;clear c11;by_cases c12:x9_1 < (x6_1.length:Int);rotate_left
       · rw [if_neg c12] at H
         exact absurd H (by simp)
       rw [if_pos c12] at H;have c12b0:=zE c12;clear c12;obtain ⟨y276,hy276⟩:∃ y_:List Int,y_=(x6_1.set (x9_1:Int).toNat x7_2):=⟨_,rfl⟩;replace H:(spec_l4Before.l0 k2 y276 x7_2 x8_2 (wrap64 (x9_1 - 1)) l0_0 l0_1 a1_0 a1_1 a1_2 a1_3)=some (r1,r2):=ry hy276 H;have Ny276:=AsZ.mk hy276;clear hy276;have H':=AsZ.mk H;clear H;have hnb14:=NB270_271.out;have hnc14:=NB271_270.out;obtain ⟨hcz15_0,hcz15_1,hfz15_0,hfz15_1⟩:=bx2 BK270;go_wp2_with (first|((with_reducible refine gcl (f:=72) rfl ?_);refine gk (some 19) Tryd.func72 #[.agg #[.slice A0_0 l0_0.length c0_0,.slice A0_1 l0_1.length c0_1],.int .i64 x7_2,.int .i64 x9_1] ?_;(with_reducible refine (spec_l4Next.calls _ _ l0_0 _ _ l0_1 x7_2 x9_1 t275 _ ?side1 ?side2 ?side3 ?side4 A9.out).mono ?_);(case side1=>exact cC (Kd.C_below HR0_0.out HB.out));(case side2=>exact HC0_0.out);(case side3=>exact cC (Kd.C_below HR0_1.out HB.out));(case side4=>exact HC0_1.out);rintro e w16 ⟨rfl,hb⟩;refine ⟨_,rfl,?_⟩;replace HO_6:=rR HO_6 hb;replace BK270:=bb BK270 hb;replace BK271:=bb BK271 hb;replace HB:=bp hb;(try clear hb);(try clear hb2);(try clear hk);(try clear hi);have p13:0≤(x9_1:Int):=dd;have q13:(x9_1:Int) < ((x6_1.length:Int):Int):=dd;obtain ⟨go13,co13,eo13,gb13,gl13,cl13,HG13⟩:=Kd.R_form HO_6.out (by omega);(first|cases eo13|(injection eo13 with ea_ en_ ec_;(first|subst ea_|(injection ea_ with ea_;subst ea_));subst ec_;clear en_));have GB13:=AsZ.mk gb13;have GG13:=AsZ.mk HG13;clear gb13 gl13 HG13;obtain ⟨hx13_0,hf13_0⟩:=Kd.R_celln 0 HO_6.out (x9_1:Int) p13 q13;replace p13:=eq_true p13;replace q13:=eq_true q13;obtain ⟨hy17_,hz17_⟩:=Kd.R_celln 0 HO_6.out (x9_1:Int) dd dd;have HP17:=Kd.R_putg HO_6.out (x9_1:Int) x7_2)|((with_reducible refine gate_store (t:=3) (p:=37) rfl ?_);refine store_event (t:=3) (p:=37) (v:=?vo_w18) (w1:=(w16.setCell ⟨go13,(x9_1:Int).toNat,none⟩ (.int .i64 x7_2))) ?hg ?ho ?hn ?hr ?_;(case ho=>rfl);(case hg=>rfl);(case hn=>rfl);(case hr=>first|(go_simp;done)|(go_simp;rfl));intro w18 hw;have hg:w16.grownBy w18 (some go13):=(by rw [hw];exact HP17.2);have hp_:Kd.R (Kd.int .i64) 3 w18 w.heap.size (fun _=>True) (.slice (some ⟨go13,0,none⟩) x6_1.length co13) y276:=(by rw [hw,Ny276.out];exact HP17.1);clear HP17;replace BK270:=AsZ.mk (blk_grown (bk BK270) hg (Kd.R_ne HO_6.out BK270.out (by decide)));replace BK271:=AsZ.mk (blk_grown (bk BK271) hg (Kd.R_ne HO_6.out BK271.out (by decide)));replace HO_6:=AsZ.mk (hp_);replace HB:=AsZ.mk ((by rw [hw];exact bws (HB.out) GB13.out:Below w.heap.size w w18));clear hg hw hp_));go_roundg k2
       case measure=>have:=HK1.out;have:=HK2.out;omega
       case rel=>exact ⟨(y276),(x7_2),(x8_2),(wrap64 (x9_1 - 1)),rs,rs,rs,H',⟨by have:=HK1.out;have:=HK2.out;omega⟩,⟨kR HO_6⟩,⟨bk BK270⟩,⟨bk BK271⟩,⟨bel⟩⟩
     rw [if_neg c10] at H;have c10b0:=decide_eq_false c10;clear c10;by_cases c19:0≤t275;rotate_left
     · rw [if_neg c19] at H
       exact absurd H (by simp)
     rw [if_pos c19] at H;have c19b0:=zE c19;clear c19;by_cases c20:t275 < (l0_1.length:Int);rotate_left
     · rw [if_neg c20] at H
       exact absurd H (by simp)
     rw [if_pos c20] at H;have c20b0:=zE c20;clear c20;replace H:=bs H;obtain ⟨t278,A21,H⟩:=H;by_cases c22:t278 ≥ 0;rotate_left
     · rw [if_neg c22] at H
       have c22b0:decide (0≤t278)=false:=decide_eq_false c22;clear c22;have H':=AsZ.mk H;clear H;have hnb33:=NB270_271.out;have hnc33:=NB271_270.out;obtain ⟨hcz34_0,hcz34_1,hfz34_0,hfz34_1⟩:=bx2 BK270
       try go_wp2_with (first|((with_reducible refine gcl (f:=72) rfl ?_);refine gk (some 19) Tryd.func72 #[.agg #[.slice A0_0 l0_0.length c0_0,.slice A0_1 l0_1.length c0_1],.int .i64 x7_2,.int .i64 x9_1] ?_;(with_reducible refine (spec_l4Next.calls _ _ l0_0 _ _ l0_1 x7_2 x9_1 t275 _ ?side1 ?side2 ?side3 ?side4 A9.out).mono ?_);(case side1=>exact cC (Kd.C_below HR0_0.out HB.out));(case side2=>exact HC0_0.out);(case side3=>exact cC (Kd.C_below HR0_1.out HB.out));(case side4=>exact HC0_1.out);rintro e w35 ⟨rfl,hb⟩;refine ⟨_,rfl,?_⟩;replace HO_6:=rR HO_6 hb;replace BK270:=bb BK270 hb;replace BK271:=bb BK271 hb;replace HB:=bp hb;(try clear hb);(try clear hb2);(try clear hk);(try clear hi)))
       replace HO_6:=dR HO_6;replace BK270:=db BK270;replace BK271:=db BK271;replace HB:=dB HB;have p277:0≤(t275:Int):=dd;have q277:t275 < (l0_1.length:Int):=dd;obtain ⟨ad277,A277_4,c277_4,e277,hx277_0,hx277_1,hx277_2,hx277_3,hx277_4,hl277_4,hi277_4⟩:=at_T77 HR0_1.out t275 p277 q277;have hw277_4:=hx277_4;have hw277_3:=hx277_3;have hw277_2:=hx277_2;have hw277_1:=hx277_1;have hw277_0:=hx277_0;cases e277;replace hx277_0:=pcb HB.out hx277_0;replace hx277_1:=pcb HB.out hx277_1;replace hx277_2:=pcb HB.out hx277_2;replace hx277_3:=pcb HB.out hx277_3;replace hx277_4:=pcb HB.out hx277_4;have HR277_4:=AsZ.mk hi277_4;have HC277_4:=AsZ.mk hl277_4;clear hi277_4 hl277_4;replace p277:=eq_true p277;replace q277:=eq_true q277;refine start_ (n:=9) (S:=fun w'=>w'.cell? ⟨gb270,0,none⟩=some (.slice A0_0 l0_0.length c0_0)∧w'.cell? ⟨gb270,1,none⟩=some (.slice (some ad277) l0_1.length c0_1)∧w'.cell? ⟨gb271,0,none⟩=some (.string a1_0)∧w'.cell? ⟨gb271,1,none⟩=some (.int .i64 a1_1)∧w'.cell? ⟨gb271,2,none⟩=some (.int .i64 a1_2)∧w'.cell? ⟨gb271,3,none⟩=some (.string a1_3)∧w'.cell? (ad277.add ((t275).toNat * 5))=some (.string ((rd_T77 l0_1 t275).f0.f0))∧w'.cell? ⟨(ad277.add ((t275).toNat * 5)).block,(ad277.add ((t275).toNat * 5)).off + 1,none⟩=some (.int .i64 ((rd_T77 l0_1 t275).f0.f1))∧w'.cell? ⟨(ad277.add ((t275).toNat * 5)).block,(ad277.add ((t275).toNat * 5)).off + 2,none⟩=some (.int .i64 ((rd_T77 l0_1 t275).f0.f2))∧w'.cell? ⟨(ad277.add ((t275).toNat * 5)).block,(ad277.add ((t275).toNat * 5)).off + 3,none⟩=some (.string ((rd_T77 l0_1 t275).f0.f3))∧w'.cell? ⟨(ad277.add ((t275).toNat * 5)).block,(ad277.add ((t275).toNat * 5)).off + 4,none⟩=some (.slice A277_4 ((rd_T77 l0_1 t275).f1).length c277_4)) (ds:=[]) (b_ 0 9) (by kernel_rfl) rfl rfl cl (fun hHeld=>?_);refine with_tabW spec_l4Before.tab10 spec_l4Before.bits10 (fun HT_ HW_=>?_);generalize w35.drew=w36 at HO_6 BK270 BK271 HB HR277_4 hx277_0 hx277_1 hx277_2 hx277_3 hx277_4 hHeld ⊢;refine pu 0 24 (b_ 1 8) HT_.out ?_;refine pu 2 26 #[true,false,true,false,false,false,false,false,false] HT_.out ?_;refine tk11 1 25 (b_ 3 6) HT_.out HW_.out hHeld ?_;refine pu 3 27 (b_ 4 5) HT_.out ?_;refine pu 4 28 (b_ 5 4) HT_.out ?_;refine tk11 5 29 (b_ 6 3) HT_.out HW_.out hHeld ?_;refine tk11 6 30 (b_ 7 2) HT_.out HW_.out hHeld ?_;refine on 7 (some 31) (b_ 8 1) HT_.out (fun K hK=>?_);refine gs Tryd.func47 #[.agg #[.string ((rd_T77 l0_1 t275).f0.f0),.int .i64 ((rd_T77 l0_1 t275).f0.f1),.int .i64 ((rd_T77 l0_1 t275).f0.f2),.string ((rd_T77 l0_1 t275).f0.f3)],.agg #[.string a1_0,.int .i64 a1_1,.int .i64 a1_2,.string a1_3]] ?_
       with_reducible refine (spec_l4Compare.calls k2 ((rd_T77 l0_1 t275).f0.f0) ((rd_T77 l0_1 t275).f0.f1) ((rd_T77 l0_1 t275).f0.f2) ((rd_T77 l0_1 t275).f0.f3) a1_0 a1_1 a1_2 a1_3 t278 _ A21.out).mono ?_
       rintro e w37 ⟨rfl,hb⟩;refine ⟨_,rfl,?_⟩;replace HO_6:=rR HO_6 hb;replace BK270:=bb BK270 hb;replace BK271:=bb BK271 hb;replace HB:=bp hb;(try clear hb);(try clear hb2);(try clear hk);(try clear hi);refine hK.out _ _ cl (fun hHeld=>?_);clear hK K;refine norm_ (a':=?_) ?_ ?_;rotate_left
       · show Act.put _ (some 31) _=_
         simp only [Act.put,zS,zT,zU,i64_w,i32_w]
         rfl
       refine pu 8 32 (b_ 9 0) HT_.out ?_;refine dn_ (dnO HT_.out (by kernel_rfl)) ?_
       try go_wp2
       go_roundg k2
       case measure=>have:=HK1.out;have:=HK2.out;omega
       case rel=>exact ⟨(t275),(wrap64 (x8_2 + 1)),rs,rs,H',⟨by have:=HK1.out;have:=HK2.out;omega⟩,⟨kR HO_6⟩,⟨bk BK270⟩,⟨bk BK271⟩,⟨bel⟩⟩
     rw [if_pos c22] at H;have c22b0:decide (0≤t278)=true:=zE c22;clear c22;by_cases c23:0≤x9_1;rotate_left
     · rw [if_neg c23] at H
       exact absurd H (by simp)
     rw [if_pos c23] at H;have c23b0:=zE c23;clear c23;by_cases c24:x9_1 < (x6_1.length:Int);rotate_left
     · rw [if_neg c24] at H
       exact absurd H (by simp)
     rw [if_pos c24] at H;have c24b0:=zE c24;clear c24;obtain ⟨y279,hy279⟩:∃ y_:List Int,y_=(x6_1.set (x9_1:Int).toNat x7_2):=⟨_,rfl⟩;replace H:(spec_l4Before.l0 k2 y279 x7_2 (wrap64 (x8_2 + 1)) (wrap64 (x9_1 - 1)) l0_0 l0_1 a1_0 a1_1 a1_2 a1_3)=some (r1,r2):=ry hy279 H;have Ny279:=AsZ.mk hy279;clear hy279;have H':=AsZ.mk H;clear H;have hnb26:=NB270_271.out;have hnc26:=NB271_270.out;obtain ⟨hcz27_0,hcz27_1,hfz27_0,hfz27_1⟩:=bx2 BK270
     try go_wp2_with (first|((with_reducible refine gcl (f:=72) rfl ?_);refine gk (some 19) Tryd.func72 #[.agg #[.slice A0_0 l0_0.length c0_0,.slice A0_1 l0_1.length c0_1],.int .i64 x7_2,.int .i64 x9_1] ?_;(with_reducible refine (spec_l4Next.calls _ _ l0_0 _ _ l0_1 x7_2 x9_1 t275 _ ?side1 ?side2 ?side3 ?side4 A9.out).mono ?_);(case side1=>exact cC (Kd.C_below HR0_0.out HB.out));(case side2=>exact HC0_0.out);(case side3=>exact cC (Kd.C_below HR0_1.out HB.out));(case side4=>exact HC0_1.out);rintro e w28 ⟨rfl,hb⟩;refine ⟨_,rfl,?_⟩;replace HO_6:=rR HO_6 hb;replace BK270:=bb BK270 hb;replace BK271:=bb BK271 hb;replace HB:=bp hb;(try clear hb);(try clear hb2);(try clear hk);(try clear hi)))
     replace HO_6:=dR HO_6;replace BK270:=db BK270;replace BK271:=db BK271;replace HB:=dB HB;have p277:0≤(t275:Int):=dd;have q277:t275 < (l0_1.length:Int):=dd;obtain ⟨ad277,A277_4,c277_4,e277,hx277_0,hx277_1,hx277_2,hx277_3,hx277_4,hl277_4,hi277_4⟩:=at_T77 HR0_1.out t275 p277 q277;have hw277_4:=hx277_4;have hw277_3:=hx277_3;have hw277_2:=hx277_2;have hw277_1:=hx277_1;have hw277_0:=hx277_0;cases e277;replace hx277_0:=pcb HB.out hx277_0;replace hx277_1:=pcb HB.out hx277_1;replace hx277_2:=pcb HB.out hx277_2;replace hx277_3:=pcb HB.out hx277_3;replace hx277_4:=pcb HB.out hx277_4;have HR277_4:=AsZ.mk hi277_4;have HC277_4:=AsZ.mk hl277_4;clear hi277_4 hl277_4;replace p277:=eq_true p277;replace q277:=eq_true q277;refine start_ (n:=9) (S:=fun w'=>w'.cell? ⟨gb270,0,none⟩=some (.slice A0_0 l0_0.length c0_0)∧w'.cell? ⟨gb270,1,none⟩=some (.slice (some ad277) l0_1.length c0_1)∧w'.cell? ⟨gb271,0,none⟩=some (.string a1_0)∧w'.cell? ⟨gb271,1,none⟩=some (.int .i64 a1_1)∧w'.cell? ⟨gb271,2,none⟩=some (.int .i64 a1_2)∧w'.cell? ⟨gb271,3,none⟩=some (.string a1_3)∧w'.cell? (ad277.add ((t275).toNat * 5))=some (.string ((rd_T77 l0_1 t275).f0.f0))∧w'.cell? ⟨(ad277.add ((t275).toNat * 5)).block,(ad277.add ((t275).toNat * 5)).off + 1,none⟩=some (.int .i64 ((rd_T77 l0_1 t275).f0.f1))∧w'.cell? ⟨(ad277.add ((t275).toNat * 5)).block,(ad277.add ((t275).toNat * 5)).off + 2,none⟩=some (.int .i64 ((rd_T77 l0_1 t275).f0.f2))∧w'.cell? ⟨(ad277.add ((t275).toNat * 5)).block,(ad277.add ((t275).toNat * 5)).off + 3,none⟩=some (.string ((rd_T77 l0_1 t275).f0.f3))∧w'.cell? ⟨(ad277.add ((t275).toNat * 5)).block,(ad277.add ((t275).toNat * 5)).off + 4,none⟩=some (.slice A277_4 ((rd_T77 l0_1 t275).f1).length c277_4)) (ds:=[]) (b_ 0 9) (by kernel_rfl) rfl rfl cl (fun hHeld=>?_);refine with_tabW spec_l4Before.tab10 spec_l4Before.bits10 (fun HT_ HW_=>?_);generalize w28.drew=w29 at HO_6 BK270 BK271 HB HR277_4 hx277_0 hx277_1 hx277_2 hx277_3 hx277_4 hHeld ⊢;refine pu 0 24 (b_ 1 8) HT_.out ?_;refine pu 2 26 #[true,false,true,false,false,false,false,false,false] HT_.out ?_;refine tk11 1 25 (b_ 3 6) HT_.out HW_.out hHeld ?_;refine pu 3 27 (b_ 4 5) HT_.out ?_;refine pu 4 28 (b_ 5 4) HT_.out ?_;refine tk11 5 29 (b_ 6 3) HT_.out HW_.out hHeld ?_;refine tk11 6 30 (b_ 7 2) HT_.out HW_.out hHeld ?_;refine on 7 (some 31) (b_ 8 1) HT_.out (fun K hK=>?_);refine gs Tryd.func47 #[.agg #[.string ((rd_T77 l0_1 t275).f0.f0),.int .i64 ((rd_T77 l0_1 t275).f0.f1),.int .i64 ((rd_T77 l0_1 t275).f0.f2),.string ((rd_T77 l0_1 t275).f0.f3)],.agg #[.string a1_0,.int .i64 a1_1,.int .i64 a1_2,.string a1_3]] ?_
     with_reducible refine (spec_l4Compare.calls k2 ((rd_T77 l0_1 t275).f0.f0) ((rd_T77 l0_1 t275).f0.f1) ((rd_T77 l0_1 t275).f0.f2) ((rd_T77 l0_1 t275).f0.f3) a1_0 a1_1 a1_2 a1_3 t278 _ A21.out).mono ?_
     rintro e w30 ⟨rfl,hb⟩;refine ⟨_,rfl,?_⟩;replace HO_6:=rR HO_6 hb;replace BK270:=bb BK270 hb;replace BK271:=bb BK271 hb;replace HB:=bp hb;(try clear hb);(try clear hb2);(try clear hk);(try clear hi);refine hK.out _ _ cl (fun hHeld=>?_);clear hK K;refine norm_ (a':=?_) ?_ ?_;rotate_left
     · show Act.put _ (some 31) _=_
       simp only [Act.put,zS,zT,zU,i64_w,i32_w]
       rfl
     refine pu 8 32 (b_ 9 0) HT_.out ?_;refine dn_ (dnO HT_.out (by kernel_rfl)) ?_;have p25:0≤(x9_1:Int):=dd;have q25:(x9_1:Int) < ((x6_1.length:Int):Int):=dd;obtain ⟨go25,co25,eo25,gb25,gl25,cl25,HG25⟩:=Kd.R_form HO_6.out (by omega);(first|cases eo25|(injection eo25 with ea_ en_ ec_;(first|subst ea_|(injection ea_ with ea_;subst ea_));subst ec_;clear en_));have GB25:=AsZ.mk gb25;have GG25:=AsZ.mk HG25;clear gb25 gl25 HG25;obtain ⟨hx25_0,hf25_0⟩:=Kd.R_celln 0 HO_6.out (x9_1:Int) p25 q25;replace p25:=eq_true p25;replace q25:=eq_true q25;obtain ⟨hy31_,hz31_⟩:=Kd.R_celln 0 HO_6.out (x9_1:Int) dd dd;have HP31:=Kd.R_putg HO_6.out (x9_1:Int) x7_2
     try go_wp2_with (first|((with_reducible refine gate_store (t:=3) (p:=37) rfl ?_);refine store_event (t:=3) (p:=37) (v:=?vo_w32) (w1:=(w30.setCell ⟨go25,(x9_1:Int).toNat,none⟩ (.int .i64 x7_2))) ?hg ?ho ?hn ?hr ?_;(case ho=>rfl);(case hg=>rfl);(case hn=>rfl);(case hr=>first|(go_simp;done)|(go_simp;rfl));intro w32 hw;have hg:w30.grownBy w32 (some go25):=(by rw [hw];exact HP31.2);have hp_:Kd.R (Kd.int .i64) 3 w32 w.heap.size (fun _=>True) (.slice (some ⟨go25,0,none⟩) x6_1.length co25) y279:=(by rw [hw,Ny279.out];exact HP31.1);clear HP31;replace BK270:=AsZ.mk (blk_grown (bk BK270) hg (Kd.R_ne HO_6.out BK270.out (by decide)));replace BK271:=AsZ.mk (blk_grown (bk BK271) hg (Kd.R_ne HO_6.out BK271.out (by decide)));replace HO_6:=AsZ.mk (hp_);replace HB:=AsZ.mk ((by rw [hw];exact bws (HB.out) GB25.out:Below w.heap.size w w32));clear hg hw hp_))
     go_roundg k2
     case measure=>have:=HK1.out;have:=HK2.out;omega
     case rel=>exact ⟨(y279),(x7_2),(wrap64 (x8_2 + 1)),(wrap64 (x9_1 - 1)),rs,rs,rs,H',⟨by have:=HK1.out;have:=HK2.out;omega⟩,⟨kR HO_6⟩,⟨bk BK270⟩,⟨bk BK271⟩,⟨bel⟩⟩
/-! ### spec_l4First: function 46 -/
def spec_l4First.f (k:Nat) (l0_0:List Int) (l0_1:List (S77)) (a1_0:ByteArray) (a1_1:Int) (a1_2:Int) (a1_3:ByteArray):Option (Int × Int):=(spec_l4Before.f k l0_0 l0_1 a1_0 a1_1 a1_2 a1_3).bind fun bt282=>(if 0 < (bt282.1.length:Int) then ((spec_l4Next.f l0_0 l0_1 (rd bt282.1 0) 0).bind fun t287=>(some (t287,bt282.2))) else (none))
theorem spec_l4First.mono:∀ a0 a1 a2 a3 a4 a5 k,LeO (spec_l4First.f k a0 a1 a2 a3 a4 a5) (spec_l4First.f (k + 1) a0 a1 a2 a3 a4 a5):=by
  intro a0 a1 a2 a3 a4 a5 k;unfold spec_l4First.f;have j0:=@spec_l4Before.mono;exact mo
def spec_l4First.T2:Bool × List (List Nat × List Nat):=(true,[([],[]),([],[]),([1],[1]),([2],[2]),([0,3],[0,3]),([],[]),([4,4,0,1,2,3,4],[4]),([5,6,0,1,2,3,4,5,6],[5])])
def spec_l4First.B2:List Nat:=[0,0,2,6,15,0,31,127]
theorem spec_l4First.tab2:rtab .any (opsOf Tryd.f46 2)=spec_l4First.T2:=by kernel_rfl
theorem spec_l4First.bits2:waitsOk spec_l4First.T2.2 spec_l4First.B2=true:=by kernel_rfl
set_option maxHeartbeats 8000000 in
set_option maxRecDepth 100000 in
theorem spec_l4First.calls (k:Nat) (A0_0:Option Addr) (c0_0:Nat) (l0_0:List Int) (A0_1:Option Addr) (c0_1:Nat) (l0_1:List (S77)) (a1_0:ByteArray) (a1_1:Int) (a1_2:Int) (a1_3:ByteArray) (r1:Int) (r2:Int) (w:World) (hr0_0:Kd.C (Kd.int .i64) w A0_0 l0_0.length l0_0) (hc0_0:l0_0.length≤c0_0) (hr0_1:Kd.C k77 w A0_1 l0_1.length l0_1) (hc0_1:l0_1.length≤c0_1) (h:spec_l4First.f k l0_0 l0_1 a1_0 a1_1 a1_2 a1_3=some (r1,r2)) :
    Calls Tryd.prog 46 #[.agg #[.slice A0_0 l0_0.length c0_0,.slice A0_1 l0_1.length c0_1],.agg #[.string a1_0,.int .i64 a1_1,.int .i64 a1_2,.string a1_3]] w fun e w'=>e = .returned (.tuple #[.int .i64 r1,.int .i64 r2])∧Below w.heap.size w w':=by
 have hu26:=Tryd.underlying26;have hu28:=Tryd.underlying28;have HR0_0:=AsZ.mk hr0_0;have HC0_0:=AsZ.mk hc0_0;clear hr0_0 hc0_0;have HR0_1:=AsZ.mk hr0_1;have HC0_1:=AsZ.mk hc0_1;clear hr0_1 hc0_1;have HB:=AsZ.mk (Below.refl w.heap.size w);have H:((spec_l4Before.f k l0_0 l0_1 a1_0 a1_1 a1_2 a1_3).bind fun bt282=>(if 0 < (bt282.1.length:Int) then ((spec_l4Next.f l0_0 l0_1 (rd bt282.1 0) 0).bind fun t287=>(some (t287,bt282.2))) else (none)))=some (r1,r2):=h;clear h;replace H:=bs H;obtain ⟨⟨t282,t285⟩,A3,H⟩:=H;by_cases c4:0 < (t282.length:Int);rotate_left
 · rw [if_neg c4] at H
   exact absurd H (by simp)
 rw [if_pos c4] at H;have c4b0:=zE c4;have c4b1:decide (0 < t282.length)=true:=zE (by omega);clear c4;replace H:=bs H;obtain ⟨t287,A5,H⟩:=H;simp only [Option.some.injEq,Prod.mk.injEq] at H;obtain ⟨rfl,rfl⟩:=H;go_enter Tryd.func46,Tryd.ntmps46
 try go_wp2_with (first|((with_reducible refine gate_dst (N:=2) rfl ?_);refine bev 2 26 (cs:=#[.slice A0_0 l0_0.length c0_0,.slice A0_1 l0_1.length c0_1]) ?_;intro gb280 hg w6 hbox hb;have BK280:=AsZ.mk (hbox);have GW280:=gz HB hg;have GE280:=gz HB hg;replace HB:=bp hb;clear hb hbox hg)|((with_reducible refine gate_dst (N:=3) rfl ?_);refine bev 3 28 (cs:=#[.string a1_0,.int .i64 a1_1,.int .i64 a1_2,.string a1_3]) ?_;intro gb281 hg w7 hbox hb;have BK281:=AsZ.mk (hbox);have GW281:=gz HB hg;have GE281:=gz HB hg;have NB280_281:=nl BK280 hg;have NB281_280:=nr BK280 hg;replace BK280:=bb BK280 hb;replace HB:=bp hb;clear hb hbox hg;have hnb8:=NB280_281.out;have hnc8:=NB281_280.out;obtain ⟨hcz9_0,hcz9_1,hfz9_0,hfz9_1⟩:=bx2 BK280;obtain ⟨hcz10_0,hcz10_1,hcz10_2,hcz10_3,hfz10_0,hfz10_1,hfz10_2,hfz10_3⟩:=bx4 BK281)|((with_reducible refine gcl (f:=87) rfl ?_);refine gk (some 11) Tryd.func87 #[.agg #[.slice A0_0 l0_0.length c0_0,.slice A0_1 l0_1.length c0_1],.agg #[.string a1_0,.int .i64 a1_1,.int .i64 a1_2,.string a1_3]] ?_;(with_reducible refine (spec_l4Before.calls k _ _ l0_0 _ _ l0_1 a1_0 a1_1 a1_2 a1_3 t282 t285 _ ?side1 ?side2 ?side3 ?side4 A3.out).mono ?_);(case side1=>exact cC (Kd.C_below HR0_0.out HB.out));(case side2=>exact HC0_0.out);(case side3=>exact cC (Kd.C_below HR0_1.out HB.out));(case side4=>exact HC0_1.out);rintro e w11 ⟨v283,rfl,ho0,hb⟩;refine ⟨_,rfl,?_⟩;have HO284:=AsZ.mk (Kd.R_lower ho0 (bwz bel));replace BK280:=bb BK280 hb;replace BK281:=bb BK281 hb;replace HB:=bp hb;(try clear hb);(try clear hb2);(try clear hk);(try clear hi);(try clear ho0)))
 replace HO284:=dR HO284;replace BK280:=db BK280;replace BK281:=db BK281;replace HB:=dB HB;obtain ⟨Ao13,co13,eo13⟩:=Kd.R_slice HO284.out;(first|subst eo13|(injection eo13 with f1_ f2_ f3_;have f4_:=f1_.symm;have f5_:=f3_.symm;clear f1_ f2_ f3_;subst f4_;subst f5_));have p286:0≤(0:Int):=(by omega);have q286:0 < (t282.length:Int):=dd;obtain ⟨ad286,e286,hx286_0⟩:=Kd.at_int (Kd.R_reads' HO284.out).2.2 0 p286 q286;cases e286;have qi286:(0 < t282.length)=True:=eq_true (by omega);(try rw [show ((0:Int)).toNat=0 from rfl] at hx286_0);(try rw [Addr.add_zero'] at hx286_0);replace p286:=eq_true p286;replace q286:=eq_true q286;refine start_ (n:=8) (S:=fun w'=>w'.cell? ⟨gb280,0,none⟩=some (.slice A0_0 l0_0.length c0_0)∧w'.cell? ⟨gb280,1,none⟩=some (.slice A0_1 l0_1.length c0_1)∧w'.cell? ad286=some (.int .i64 (rd t282 0))) (ds:=[]) (b_ 0 8) (by kernel_rfl) rfl rfl ⟨(kc BK280.out 0).trans rfl,(kc BK280.out 1).trans rfl,hx286_0⟩ (fun hHeld=>?_);refine with_tabW spec_l4First.tab2 spec_l4First.bits2 (fun HT_ HW_=>?_);generalize w11.drew=w12 at HO284 BK280 BK281 HB hx286_0 hHeld ⊢;refine pu 1 15 #[false,true,false,false,false,false,false,false] HT_.out ?_;refine pu 2 16 #[false,true,true,false,false,false,false,false] HT_.out ?_;refine pu 5 19 #[false,true,true,false,false,true,false,false] HT_.out ?_;refine tk3 0 14 #[true,true,true,false,false,true,false,false] HT_.out HW_.out hHeld ?_;refine tk3 3 17 #[true,true,true,true,false,true,false,false] HT_.out HW_.out hHeld ?_;refine on 4 (some 18) (b_ 6 2) HT_.out (fun K hK=>?_);refine gs Tryd.func72 #[.agg #[.slice A0_0 l0_0.length c0_0,.slice A0_1 l0_1.length c0_1],.int .i64 (rd t282 0),.int .i64 0] ?_
 with_reducible refine (spec_l4Next.calls _ _ l0_0 _ _ l0_1 (rd t282 0) 0 t287 _ ?side1 ?side2 ?side3 ?side4 A5.out).mono ?_
 (case side1=>exact cC (Kd.C_below HR0_0.out HB.out))
 (case side2=>exact HC0_0.out)
 (case side3=>exact cC (Kd.C_below HR0_1.out HB.out))
 (case side4=>exact HC0_1.out)
 rintro e w14 ⟨rfl,hb⟩;have HS2_:=(hb.cell (zB _ _ (hHeld.2.2))).trans (hHeld.2.2);refine ⟨_,rfl,?_⟩;replace HO284:=rR HO284 hb;replace BK280:=bb BK280 hb;replace BK281:=bb BK281 hb;replace HB:=bp hb;(try clear hb);(try clear hb2);(try clear hk);(try clear hi);refine hK.out _ _ cl (fun hHeld=>?_);clear hK K;refine norm_ (a':=?_) ?_ ?_;rotate_left
 · show Act.put _ (some 18) _=_
   simp only [Act.put,zS,zT,zU,i64_w,i32_w]
   rfl
 refine pu 6 4 (b_ 7 1) HT_.out ?_;refine pu 7 5 (b_ 8 0) HT_.out ?_;refine dn_ (dnO HT_.out (by kernel_rfl)) ?_
 try go_wp2
 go_ret2
 exact ⟨re,bel⟩
end Go.Proofs.YtffjlpphcjfdgaaDoor.MFnExactInsertSkip
