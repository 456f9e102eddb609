-- Written by a program of this session out of the translation. Not trusted: Lean checks it.
import Derived.Test.YtffjlpphcjfdgaaDoorMFnExactInsertSkipx0
import Derived.Test.YtffjlpphcjfdgaaDoorMFnExactInsertSkipx8
import Derived.Test.YtffjlpphcjfdgaaDoorMFnExactInsertSkipx10
import Derived.Test.YtffjlpphcjfdgaaDoorMFnExactInsertSkipx11
import Derived.Test.YtffjlpphcjfdgaaDoorMFnExactInsertSkipx12
import Derived.Test.YtffjlpphcjfdgaaDoorMFnExactInsertSkipx13
namespace Go.Proofs.YtffjlpphcjfdgaaDoor.MFnExactInsertSkip
-- joined
-- short
-- shrunk
-- inscall
-- TAB
-- RD
open Go.Proofs.YtffjlpphcjfdgaaDoor Go.RowKit Go.Proofs.YtffjlpphcjfdgaaDoorW.PrintWords Go.Proofs.YtffjlpphcjfdgaaDoorW.PrintLast Go.Proofs.YtffjlpphcjfdgaaDoorW.PrintMore Go.Proofs.YtffjlpphcjfdgaaDoorX
attribute [local go_sem] max2_int min2_int max_two min_two max_three min_three max_four min_four str_gtr str_leq str_geq cell_twice
set_option linter.unusedVariables false
set_option linter.unusedSimpArgs false
-- COMPACT
/-! ### spec_InsertSkip: function 13 -/
mutual
def spec_InsertSkip.j0:Nat→Bool→List Int→List (S77)→ByteArray→Int→Int→ByteArray→Option (List Int × (List (S77)) × Bool)
  |0,_,_,_,_,_,_,_=>none
  |k + 1,x21,x335000,x335001,x336000,x336001,x336002,x336003=>if x21=true then (some (([]:List Int),([]:List (S77)),false)) else ((spec_l4First.f k x335000 x335001 x336000 x336001 x336002 x336003).bind fun bt339=>(if bt339.1 ≥ 0 then (if 0≤bt339.1 then (if bt339.1 < (x335001.length:Int) then ((spec_l4Compare.f k ((rd_T77 x335001 bt339.1).f0.f0) ((rd_T77 x335001 bt339.1).f0.f1) ((rd_T77 x335001 bt339.1).f0.f2) ((rd_T77 x335001 bt339.1).f0.f3) x336000 x336001 x336002 x336003).bind fun t342=>(spec_InsertSkip.j1 k (t342 == 0) x335000 x335001 x336000 x336001 x336002 x336003)) else (none)) else (none)) else (spec_InsertSkip.j1 k false x335000 x335001 x336000 x336001 x336002 x336003)))
def spec_InsertSkip.j1:Nat→Bool→List Int→List (S77)→ByteArray→Int→Int→ByteArray→Option (List Int × (List (S77)) × Bool)
  |0,_,_,_,_,_,_,_=>none
  |k + 1,x41,x335000,x335001,x336000,x336001,x336002,x336003=>if x41=true then (some (([]:List Int),([]:List (S77)),false)) else ((spec_l4Own.f k x335000 x335001).bind fun bt343=>((spec_l4Insert.f k bt343.1 bt343.2 x336000 x336001 x336002 x336003).bind fun bt349=>(some (bt349.1,bt349.2,true))))
end
def spec_InsertSkip.f (k:Nat) (l0_0:List Int) (l0_1:List (S77)) (a1_0:ByteArray) (a1_1:Int) (a1_2:Int) (a1_3:ByteArray):Option (List Int × (List (S77)) × Bool):=(spec_GoodSkip.f k l0_0 l0_1).bind fun t337=>(if t337=true then ((spec_GoodItem.f a1_0 a1_1 a1_2 a1_3).bind fun t338=>(if t338=true then (spec_InsertSkip.j0 k ((l0_1.length:Int) == 60) l0_0 l0_1 a1_0 a1_1 a1_2 a1_3) else (spec_InsertSkip.j0 k true l0_0 l0_1 a1_0 a1_1 a1_2 a1_3))) else (spec_InsertSkip.j0 k true l0_0 l0_1 a1_0 a1_1 a1_2 a1_3))
theorem spec_InsertSkip.mono_l:∀ k,(∀ y0 y1 y2 y3 y4 y5 y6,LeO (spec_InsertSkip.j0 k y0 y1 y2 y3 y4 y5 y6) (spec_InsertSkip.j0 (k + 1) y0 y1 y2 y3 y4 y5 y6))∧(∀ y0 y1 y2 y3 y4 y5 y6,LeO (spec_InsertSkip.j1 k y0 y1 y2 y3 y4 y5 y6) (spec_InsertSkip.j1 (k + 1) y0 y1 y2 y3 y4 y5 y6))
  |0=>⟨fun _ _ _ _ _ _ _ r h=>by simp [spec_InsertSkip.j0] at h,fun _ _ _ _ _ _ _ r h=>by simp [spec_InsertSkip.j1] at h⟩
  |k + 1=>by
    obtain ⟨ih0,ih1⟩:=spec_InsertSkip.mono_l k;refine ⟨?_,?_⟩
    · intro y0 y1 y2 y3 y4 y5 y6
      unfold spec_InsertSkip.j0;have j0:=@spec_GoodSkip.mono;have j1:=@spec_l4Compare.mono;have j2:=@spec_l4First.mono;have j3:=@spec_l4Insert.mono;have j4:=@spec_l4Own.mono;exact mo
    · intro y0 y1 y2 y3 y4 y5 y6
      unfold spec_InsertSkip.j1;have j0:=@spec_GoodSkip.mono;have j1:=@spec_l4Compare.mono;have j2:=@spec_l4First.mono;have j3:=@spec_l4Insert.mono;have j4:=@spec_l4Own.mono;exact mo
theorem spec_InsertSkip.mono:∀ a0 a1 a2 a3 a4 a5 k,LeO (spec_InsertSkip.f k a0 a1 a2 a3 a4 a5) (spec_InsertSkip.f (k + 1) a0 a1 a2 a3 a4 a5):=by
  intro a0 a1 a2 a3 a4 a5 k;obtain ⟨ih0,ih1⟩:=spec_InsertSkip.mono_l k;unfold spec_InsertSkip.f;have j0:=@spec_GoodSkip.mono;have j1:=@spec_l4Compare.mono;have j2:=@spec_l4First.mono;have j3:=@spec_l4Insert.mono;have j4:=@spec_l4Own.mono;exact mo
def spec_InsertSkip.T4:Bool × List (List Nat × List Nat):=(true,[([],[]),([0],[0]),([1],[1]),([2],[2]),([3,2],[2,3]),([2],[2]),([4,5,2],[2,4,5]),([6,2],[2,6]),([7,2],[2,7]),([2],[2]),([8,9,2,2],[2,8,9]),([10,2],[2,10]),([2,11],[2,11])])
def spec_InsertSkip.B4:List Nat:=[0,1,3,7,15,7,63,127,255,7,1023,2047,4095]
theorem spec_InsertSkip.tab4:rtab .any (opsOf Tryd.f13 4)=spec_InsertSkip.T4:=by kernel_rfl
theorem spec_InsertSkip.bits4:waitsOk spec_InsertSkip.T4.2 spec_InsertSkip.B4=true:=by kernel_rfl
set_option maxHeartbeats 8000000 in
set_option maxRecDepth 100000 in
theorem spec_InsertSkip.calls (k:Nat) (A0_0:Option Addr) (c0_0:Nat) (l0_0:List Int) (A0_1:Option Addr) (c0_1:Nat) (l0_1:List (S77)) (a1_0:ByteArray) (a1_1:Int) (a1_2:Int) (a1_3:ByteArray) (r1:List Int) (r2:List (S77)) (r3:Bool) (w:World) (hr0_0:Kd.C (Kd.int .i64) w A0_0 l0_0.length l0_0) (hc0_0:l0_0.length≤c0_0) (hr0_1:Kd.C k77 w A0_1 l0_1.length l0_1) (hc0_1:l0_1.length≤c0_1) (h:spec_InsertSkip.f k l0_0 l0_1 a1_0 a1_1 a1_2 a1_3=some (r1,r2,r3)) :
    Calls Tryd.prog 13 #[.agg #[.slice A0_0 l0_0.length c0_0,.slice A0_1 l0_1.length c0_1],.agg #[.string a1_0,.int .i64 a1_1,.int .i64 a1_2,.string a1_3]] w fun e w' => ∃ v0_ v1_:Value,e = .returned (.tuple #[.agg #[v0_,v1_],.bool r3])∧Kd.R (Kd.int .i64) 3 w' w.heap.size (fun _=>True) v0_ r1∧Kd.S k77 77 w' w.heap.size (fun k_=>some k_ ≠ (v0_:Value).ownBlock) v1_ r2∧Below w.heap.size w w':=by
 have hu26:=Tryd.underlying26;have hu28:=Tryd.underlying28;have HR0_0:=AsZ.mk hr0_0;have HC0_0:=AsZ.mk hc0_0;clear hr0_0 hc0_0;have HR0_1:=AsZ.mk hr0_1;have HC0_1:=AsZ.mk hc0_1;clear hr0_1 hc0_1;have HB:=AsZ.mk (Below.refl w.heap.size w);have H:((spec_GoodSkip.f k l0_0 l0_1).bind fun t337=>(if t337=true then ((spec_GoodItem.f a1_0 a1_1 a1_2 a1_3).bind fun t338=>(if t338=true then (spec_InsertSkip.j0 k ((l0_1.length:Int) == 60) l0_0 l0_1 a1_0 a1_1 a1_2 a1_3) else (spec_InsertSkip.j0 k true l0_0 l0_1 a1_0 a1_1 a1_2 a1_3))) else (spec_InsertSkip.j0 k true l0_0 l0_1 a1_0 a1_1 a1_2 a1_3)))=some (r1,r2,r3):=h;clear h;have HC3:=AsZ.mk H;clear H;go_enter Tryd.func13,Tryd.ntmps13;go_upto_region 1 with (first|((with_reducible refine gate_dst (N:=2) rfl ?_);(try (refine gate_guard (by rfl) ?_;dsimp only));refine bev 2 26 (cs:=#[.slice A0_0 l0_0.length c0_0,.slice A0_1 l0_1.length c0_1]) ?_;intro gb334 hg w4 hbox hb;have BK334:=AsZ.mk (hbox);have GW334:=gz HB hg;have GE334:=gz HB hg;replace HB:=bp hb;clear hb hbox hg)|((with_reducible refine gate_dst (N:=3) rfl ?_);(try (refine gate_guard (by rfl) ?_;dsimp only));refine bev 3 28 (cs:=#[.string a1_0,.int .i64 a1_1,.int .i64 a1_2,.string a1_3]) ?_;intro gb335 hg w5 hbox hb;have BK335:=AsZ.mk (hbox);have GW335:=gz HB hg;have GE335:=gz HB hg;have NB334_335:=nl BK334 hg;have NB335_334:=nr BK334 hg;replace BK334:=bb BK334 hb;replace HB:=bp hb;clear hb hbox hg)|((with_reducible refine gate_dst (N:=4) rfl ?_);(try (refine gate_guard (by rfl) ?_;dsimp only));refine bev 4 26 (cs:=#[.slice none 0 0,.slice none 0 0]) ?_;intro gb336 hg w6 hbox hb;have BK336:=AsZ.mk (hbox);have GW336:=gz HB hg;have GE336:=gz HB hg;have NB334_336:=nl BK334 hg;have NB336_334:=nr BK334 hg;have NB335_336:=nl BK335 hg;have NB336_335:=nr BK335 hg;replace BK334:=bb BK334 hb;replace BK335:=bb BK335 hb;replace HB:=bp hb;clear hb hbox hg))
 (try simp only [Act.put,zS,zT,zU])
 go_cut [21] (fun v21 wc => ∃ (kq:Nat) (x21_2:Bool),v21 = .bool x21_2∧AsZ (spec_InsertSkip.j0 kq x21_2 l0_0 l0_1 a1_0 a1_1 a1_2 a1_3=some (r1,r2,r3))∧AsZ (kq≤k)∧AsZ (wc.heap[gb334]? = some (.cells #[(.slice A0_0 l0_0.length c0_0),(.slice A0_1 l0_1.length c0_1)] 26 (0,0)))∧AsZ (wc.heap[gb335]? = some (.cells #[.string a1_0,.int .i64 a1_1,.int .i64 a1_2,.string a1_3] 28 (0,0)))∧AsZ (wc.heap[gb336]? = some (.cells #[(.slice none 0 0),(.slice none 0 0)] 26 (0,0)))∧AsZ (Below w.heap.size w wc))
 case first =>
  have H:=HC3.out;clear HC3;replace H:=bs H;obtain ⟨t337,A7,H⟩:=H;by_cases c8:t337=true;rotate_left
  · replace c8:=Bool.eq_false_iff.mpr c8
    subst c8;replace H:=iN H;have H':=AsZ.mk H;clear H;have hnb26:=NB334_335.out;have hnc26:=NB335_334.out;have hnb27:=NB334_336.out;have hnc27:=NB336_334.out;obtain ⟨hcz28_0,hcz28_1,hfz28_0,hfz28_1⟩:=bx2 BK334;go_wp2_with (first|((with_reducible refine gcl (f:=30) rfl ?_);refine gk (some 9) Tryd.func30 #[.agg #[.slice A0_0 l0_0.length c0_0,.slice A0_1 l0_1.length c0_1]] ?_;(with_reducible refine (spec_GoodSkip.calls k _ _ l0_0 _ _ l0_1 false _ ?side1 ?side2 ?side3 ?side4 A7.out).mono ?_);(case side1=>exact cC (Kd.C_below HR0_0.out HB.out));(case side2=>exact HC0_0.out);(case side3=>exact cC (Kd.C_below HR0_1.out HB.out));(case side4=>exact HC0_1.out);rintro e w29 ⟨rfl,hb⟩;refine ⟨_,rfl,?_⟩;replace BK334:=bb BK334 hb;replace BK335:=bb BK335 hb;replace BK336:=bb BK336 hb;replace HB:=bp hb;(try clear hb);(try clear hb2);(try clear hk);(try clear hi)));go_meet
    case rel=>exact ⟨_,(true),rs,H',⟨lo⟩,⟨bk BK334⟩,⟨bk BK335⟩,⟨bk BK336⟩,⟨bel⟩⟩
  subst c8;replace H:=iP H;replace H:=bs H;obtain ⟨t338,A9,H⟩:=H;by_cases c10:t338=true;rotate_left
  · replace c10:=Bool.eq_false_iff.mpr c10
    subst c10;replace H:=iN H;have H':=AsZ.mk H;clear H;have hnb19:=NB334_335.out;have hnc19:=NB335_334.out;have hnb20:=NB334_336.out;have hnc20:=NB336_334.out;obtain ⟨hcz21_0,hcz21_1,hfz21_0,hfz21_1⟩:=bx2 BK334;go_wp2_with (first|((with_reducible refine gcl (f:=30) rfl ?_);refine gk (some 9) Tryd.func30 #[.agg #[.slice A0_0 l0_0.length c0_0,.slice A0_1 l0_1.length c0_1]] ?_;(with_reducible refine (spec_GoodSkip.calls k _ _ l0_0 _ _ l0_1 true _ ?side1 ?side2 ?side3 ?side4 A7.out).mono ?_);(case side1=>exact cC (Kd.C_below HR0_0.out HB.out));(case side2=>exact HC0_0.out);(case side3=>exact cC (Kd.C_below HR0_1.out HB.out));(case side4=>exact HC0_1.out);rintro e w22 ⟨rfl,hb⟩;refine ⟨_,rfl,?_⟩;replace BK334:=bb BK334 hb;replace BK335:=bb BK335 hb;replace BK336:=bb BK336 hb;replace HB:=bp hb;(try clear hb);(try clear hb2);(try clear hk);(try clear hi);have hnb23:=NB335_336.out;have hnc23:=NB336_335.out;obtain ⟨hcz24_0,hcz24_1,hcz24_2,hcz24_3,hfz24_0,hfz24_1,hfz24_2,hfz24_3⟩:=bx4 BK335)|(go_at_call 45;(with_reducible refine (spec_GoodItem.calls a1_0 a1_1 a1_2 a1_3 false _ A9.out).mono ?_);rintro e w25 ⟨rfl,hb⟩;replace BK334:=bb BK334 hb;replace BK335:=bb BK335 hb;replace BK336:=bb BK336 hb;replace HB:=bp hb;(try clear hb);(try clear hb2);(try clear hk);(try clear hi)));go_meet
    case rel=>exact ⟨_,(true),rs,H',⟨lo⟩,⟨bk BK334⟩,⟨bk BK335⟩,⟨bk BK336⟩,⟨bel⟩⟩
  subst c10;replace H:=iP H;have H':=AsZ.mk H;clear H;have hnb11:=NB334_335.out;have hnc11:=NB335_334.out;have hnb12:=NB334_336.out;have hnc12:=NB336_334.out;obtain ⟨hcz13_0,hcz13_1,hfz13_0,hfz13_1⟩:=bx2 BK334;go_wp2_with (first|((with_reducible refine gcl (f:=30) rfl ?_);refine gk (some 9) Tryd.func30 #[.agg #[.slice A0_0 l0_0.length c0_0,.slice A0_1 l0_1.length c0_1]] ?_;(with_reducible refine (spec_GoodSkip.calls k _ _ l0_0 _ _ l0_1 true _ ?side1 ?side2 ?side3 ?side4 A7.out).mono ?_);(case side1=>exact cC (Kd.C_below HR0_0.out HB.out));(case side2=>exact HC0_0.out);(case side3=>exact cC (Kd.C_below HR0_1.out HB.out));(case side4=>exact HC0_1.out);rintro e w14 ⟨rfl,hb⟩;refine ⟨_,rfl,?_⟩;replace BK334:=bb BK334 hb;replace BK335:=bb BK335 hb;replace BK336:=bb BK336 hb;replace HB:=bp hb;(try clear hb);(try clear hb2);(try clear hk);(try clear hi);have hnb15:=NB335_336.out;have hnc15:=NB336_335.out;obtain ⟨hcz16_0,hcz16_1,hcz16_2,hcz16_3,hfz16_0,hfz16_1,hfz16_2,hfz16_3⟩:=bx4 BK335)|(go_at_call 45;(with_reducible refine (spec_GoodItem.calls a1_0 a1_1 a1_2 a1_3 true _ A9.out).mono ?_);rintro e w17 ⟨rfl,hb⟩;replace BK334:=bb BK334 hb;replace BK335:=bb BK335 hb;replace BK336:=bb BK336 hb;replace HB:=bp hb;(try clear hb);(try clear hb2);(try clear hk);(try clear hi);obtain ⟨hcz18_0,hcz18_1,hfz18_0,hfz18_1⟩:=bx2 BK334));go_meet
  case rel=>exact ⟨_,(((l0_1.length:Int) == 60)),rs,H',⟨lo⟩,⟨bk BK334⟩,⟨bk BK335⟩,⟨bk BK336⟩,⟨bel⟩⟩
 case rest =>
  clear HC3
  try clear p2
  try clear hcz13_0 hcz13_1 hfz13_0 hfz13_1
  try clear hcz16_0 hcz16_1 hcz16_2 hcz16_3 hfz16_0 hfz16_1 hfz16_2 hfz16_3
  try clear hcz18_0 hcz18_1 hfz18_0 hfz18_1
  try clear hcz21_0 hcz21_1 hfz21_0 hfz21_1
  try clear hcz24_0 hcz24_1 hcz24_2 hcz24_3 hfz24_0 hfz24_1 hfz24_2 hfz24_3
  try clear hcz28_0 hcz28_1 hfz28_0 hfz28_1
  obtain ⟨kq,x21_2,rfl,HA,HJ2,BK334,BK335,BK336,HB⟩:=hcut
  cases kq with
  |zero=>exact absurd HA.out (by simp [spec_InsertSkip.j0])
  |succ kj2 =>
   have H:=HA.out;clear HA;simp only [spec_InsertSkip.j0] at H;by_cases c30:x21_2=true
   · subst c30
     replace H:=iP H;simp only [Option.some.injEq,Prod.mk.injEq] at H;obtain ⟨rfl,rfl,rfl⟩:=H;have hnb31:=NB336_334.out;have hnc31:=NB334_336.out;have hnb32:=NB336_335.out;have hnc32:=NB335_336.out;obtain ⟨hcz33_0,hcz33_1,hfz33_0,hfz33_1⟩:=bx2 BK336;go_wp2;refine bodyPost_ret (results_ct rfl _ _ gb336 26 #[.slice none 0 0,.slice none 0 0] (0,0) _ rfl (bq BK336) Tryd.underlying26 rfl (by kernel_rfl)) rfl ?_;exact ⟨_,_,re,by first|exact Kd.R_nil _ _ _ _ _|exact Kd.N_nil _ _ _ _ _|exact Kd.V_nil _ _ _ _ _|exact Kd.Q_nil _ _ _ _ _|exact Kd.S_nil _ _ _ _ _,by first|exact Kd.S_nil _ _ _ _ _|exact Kd.N_nil _ _ _ _ _|exact Kd.V_nil _ _ _ _ _|exact Kd.Q_nil _ _ _ _ _|exact Kd.R_nil _ _ _ _ _,bel⟩
   replace c30:=Bool.eq_false_iff.mpr c30;subst c30;replace H:=iN H;replace H:=bs H;obtain ⟨⟨t339,t340⟩,A34,H⟩:=H;have HC35:=AsZ.mk H;clear H;have hnb36:=NB334_335.out;have hnc36:=NB335_334.out;have hnb37:=NB334_336.out;have hnc37:=NB336_334.out;obtain ⟨hcz38_0,hcz38_1,hfz38_0,hfz38_1⟩:=bx2 BK334;have hnb39:=NB335_336.out;have hnc39:=NB336_335.out;obtain ⟨hcz40_0,hcz40_1,hcz40_2,hcz40_3,hfz40_0,hfz40_1,hfz40_2,hfz40_3⟩:=bx4 BK335;go_upto_region 4 with (first|((with_reducible refine gcl (f:=46) rfl ?_);refine gk (some 26) Tryd.func46 #[.agg #[.slice A0_0 l0_0.length c0_0,.slice A0_1 l0_1.length c0_1],.agg #[.string a1_0,.int .i64 a1_1,.int .i64 a1_2,.string a1_3]] ?_;(with_reducible refine (spec_l4First.calls kj2 _ _ l0_0 _ _ l0_1 a1_0 a1_1 a1_2 a1_3 t339 t340 _ ?side1 ?side2 ?side3 ?side4 A34.out).mono ?_);(case side1=>exact cC (Kd.C_below HR0_0.out HB.out));(case side2=>exact HC0_0.out);(case side3=>exact cC (Kd.C_below HR0_1.out HB.out));(case side4=>exact HC0_1.out);rintro e w41 ⟨rfl,hb⟩;refine ⟨_,rfl,?_⟩;replace BK334:=bb BK334 hb;replace BK335:=bb BK335 hb;replace BK336:=bb BK336 hb;replace HB:=bp hb;(try clear hb);(try clear hb2);(try clear hk);(try clear hi)))
   (try simp only [Act.put,zS,zT,zU])
   go_cut [41] (fun v41 wc => ∃ (kq:Nat) (x41_34:Bool),v41 = .bool x41_34∧AsZ (spec_InsertSkip.j1 kq x41_34 l0_0 l0_1 a1_0 a1_1 a1_2 a1_3=some (r1,r2,r3))∧AsZ (kq≤kj2)∧AsZ (wc.heap[gb334]? = some (.cells #[(.slice A0_0 l0_0.length c0_0),(.slice A0_1 l0_1.length c0_1)] 26 (0,0)))∧AsZ (wc.heap[gb335]? = some (.cells #[.string a1_0,.int .i64 a1_1,.int .i64 a1_2,.string a1_3] 28 (0,0)))∧AsZ (wc.heap[gb336]? = some (.cells #[(.slice none 0 0),(.slice none 0 0)] 26 (0,0)))∧AsZ (Below w.heap.size w wc))
   case first =>
    have H:=HC35.out;clear HC35;by_cases c42:t339 ≥ 0;rotate_left
    · rw [if_neg c42] at H
      have c42b0:decide (0≤t339)=false:=decide_eq_false c42;clear c42;(first|rw [c42b0]|(simp only [i64_w,i32_w];rw [c42b0])|rw [c42b1]|skip);have H':=AsZ.mk H;clear H
      try go_wp2
      replace BK334:=db BK334;replace BK335:=db BK335;replace BK336:=db BK336;replace HB:=dB HB;refine start_ (n:=13) (S:=fun w'=>True) (ds:=[]) (b_ 0 13) (by kernel_rfl) rfl rfl trivial (fun hHeld=>?_);refine with_tabW spec_InsertSkip.tab4 spec_InsertSkip.bits4 (fun HT_ HW_=>?_);generalize w41.drew=w48 at BK334 BK335 BK336 HB hHeld ⊢;refine pu 0 29 (b_ 1 12) HT_.out ?_;refine pu 1 30 (b_ 2 11) HT_.out ?_;refine pu 2 31 (b_ 3 10) HT_.out ?_;refine pd 3 32 (b_ 4 9) HT_.out ?_;refine pd 4 33 (b_ 5 8) HT_.out ?_;refine pd 5 34 (b_ 6 7) HT_.out ?_;refine pd 6 35 (b_ 7 6) HT_.out ?_;refine pd 7 36 (b_ 8 5) HT_.out ?_;refine pd 8 37 (b_ 9 4) HT_.out ?_;refine pd 9 38 (b_ 10 3) HT_.out ?_;refine pd 10 39 (b_ 11 2) HT_.out ?_;refine pd 11 40 (b_ 12 1) HT_.out ?_;refine pu 12 41 (b_ 13 0) HT_.out ?_;refine dn_ (dnO HT_.out (by kernel_rfl)) ?_
      try go_wp2
      go_meet
      case rel=>exact ⟨_,(false),rs,H',⟨by have:=HJ2.out;first|omega|exact Nat.le_refl _⟩,⟨bk BK334⟩,⟨bk BK335⟩,⟨bk BK336⟩,⟨bel⟩⟩
    rw [if_pos c42] at H;have c42b0:decide (0≤t339)=true:=zE c42;clear c42;(first|rw [c42b0]|(simp only [i64_w,i32_w];rw [c42b0])|rw [c42b1]|skip);by_cases c43:0≤t339;rotate_left
    · rw [if_neg c43] at H
      exact absurd H (by simp)
    rw [if_pos c43] at H;have c43b0:=zE c43;clear c43;by_cases c44:t339 < (l0_1.length:Int);rotate_left
    · rw [if_neg c44] at H
      exact absurd H (by simp)
    rw [if_pos c44] at H;have c44b0:=zE c44;clear c44;replace H:=bs H;obtain ⟨t342,A45,H⟩:=H;have H':=AsZ.mk H;clear H
    try go_wp2
    replace BK334:=db BK334;replace BK335:=db BK335;replace BK336:=db BK336;replace HB:=dB HB;have p341:0≤(t339:Int):=dd;have q341:t339 < (l0_1.length:Int):=dd;obtain ⟨ad341,A341_4,c341_4,e341,hx341_0,hx341_1,hx341_2,hx341_3,hx341_4,hl341_4,hi341_4⟩:=at_T77 HR0_1.out t339 p341 q341;have hw341_4:=hx341_4;have hw341_3:=hx341_3;have hw341_2:=hx341_2;have hw341_1:=hx341_1;have hw341_0:=hx341_0;cases e341;replace hx341_0:=pcb HB.out hx341_0;replace hx341_1:=pcb HB.out hx341_1;replace hx341_2:=pcb HB.out hx341_2;replace hx341_3:=pcb HB.out hx341_3;replace hx341_4:=pcb HB.out hx341_4;have HR341_4:=AsZ.mk hi341_4;have HC341_4:=AsZ.mk hl341_4;clear hi341_4 hl341_4;replace p341:=eq_true p341;replace q341:=eq_true q341;refine start_ (n:=13) (S:=fun w'=>w'.cell? ⟨gb334,0,none⟩=some (.slice A0_0 l0_0.length c0_0)∧w'.cell? ⟨gb334,1,none⟩=some (.slice (some ad341) l0_1.length c0_1)∧w'.cell? ⟨gb335,0,none⟩=some (.string a1_0)∧w'.cell? ⟨gb335,1,none⟩=some (.int .i64 a1_1)∧w'.cell? ⟨gb335,2,none⟩=some (.int .i64 a1_2)∧w'.cell? ⟨gb335,3,none⟩=some (.string a1_3)∧w'.cell? (ad341.add ((t339).toNat * 5))=some (.string ((rd_T77 l0_1 t339).f0.f0))∧w'.cell? ⟨(ad341.add ((t339).toNat * 5)).block,(ad341.add ((t339).toNat * 5)).off + 1,none⟩=some (.int .i64 ((rd_T77 l0_1 t339).f0.f1))∧w'.cell? ⟨(ad341.add ((t339).toNat * 5)).block,(ad341.add ((t339).toNat * 5)).off + 2,none⟩=some (.int .i64 ((rd_T77 l0_1 t339).f0.f2))∧w'.cell? ⟨(ad341.add ((t339).toNat * 5)).block,(ad341.add ((t339).toNat * 5)).off + 3,none⟩=some (.string ((rd_T77 l0_1 t339).f0.f3))∧w'.cell? ⟨(ad341.add ((t339).toNat * 5)).block,(ad341.add ((t339).toNat * 5)).off + 4,none⟩=some (.slice A341_4 ((rd_T77 l0_1 t339).f1).length c341_4)) (ds:=[]) (b_ 0 13) (by kernel_rfl) rfl rfl cl (fun hHeld=>?_);refine with_tabW spec_InsertSkip.tab4 spec_InsertSkip.bits4 (fun HT_ HW_=>?_);generalize w41.drew=w46 at BK334 BK335 BK336 HB HR341_4 hx341_0 hx341_1 hx341_2 hx341_3 hx341_4 hHeld ⊢;refine pu 0 29 (b_ 1 12) HT_.out ?_;refine pu 1 30 (b_ 2 11) HT_.out ?_;refine pu 2 31 (b_ 3 10) HT_.out ?_;refine pu 3 32 (b_ 4 9) HT_.out ?_;refine pu 5 34 #[true,true,true,true,false,true,false,false,false,false,false,false,false] HT_.out ?_;refine tk11 4 33 (b_ 6 7) HT_.out HW_.out hHeld ?_;refine pu 6 35 (b_ 7 6) HT_.out ?_;refine pu 7 36 (b_ 8 5) HT_.out ?_;refine tk11 8 37 (b_ 9 4) HT_.out HW_.out hHeld ?_;refine tk11 9 38 (b_ 10 3) HT_.out HW_.out hHeld ?_;refine on 10 (some 39) (b_ 11 2) HT_.out (fun K hK=>?_);refine gs Tryd.func47 #[.agg #[.string ((rd_T77 l0_1 t339).f0.f0),.int .i64 ((rd_T77 l0_1 t339).f0.f1),.int .i64 ((rd_T77 l0_1 t339).f0.f2),.string ((rd_T77 l0_1 t339).f0.f3)],.agg #[.string a1_0,.int .i64 a1_1,.int .i64 a1_2,.string a1_3]] ?_
    with_reducible refine (spec_l4Compare.calls kj2 ((rd_T77 l0_1 t339).f0.f0) ((rd_T77 l0_1 t339).f0.f1) ((rd_T77 l0_1 t339).f0.f2) ((rd_T77 l0_1 t339).f0.f3) a1_0 a1_1 a1_2 a1_3 t342 _ A45.out).mono ?_
    rintro e w47 ⟨rfl,hb⟩;refine ⟨_,rfl,?_⟩;replace BK334:=bb BK334 hb;replace BK335:=bb BK335 hb;replace BK336:=bb BK336 hb;replace HB:=bp hb;(try clear hb);(try clear hb2);(try clear hk);(try clear hi);refine hK.out _ _ cl (fun hHeld=>?_);clear hK K;refine norm_ (a':=?_) ?_ ?_;rotate_left
    · show Act.put _ (some 39) _=_
      simp only [Act.put,zS,zT,zU,i64_w,i32_w]
      rfl
    refine pu 11 40 (b_ 12 1) HT_.out ?_;refine pu 12 41 (b_ 13 0) HT_.out ?_;refine dn_ (dnO HT_.out (by kernel_rfl)) ?_
    try go_wp2
    go_meet
    case rel=>exact ⟨_,((t342 == 0)),rs,H',⟨by have:=HJ2.out;first|omega|exact Nat.le_refl _⟩,⟨bk BK334⟩,⟨bk BK335⟩,⟨bk BK336⟩,⟨bel⟩⟩
   case rest =>
    clear HC35
    try clear p2
    try clear p3 q3
    try clear hx3
    try clear p34 q34
    try clear hx34
    try clear c42b0
    try clear c42b1
    try clear c43b0
    try clear c44b0
    try clear hcz13_0 hcz13_1 hfz13_0 hfz13_1
    try clear hcz16_0 hcz16_1 hcz16_2 hcz16_3 hfz16_0 hfz16_1 hfz16_2 hfz16_3
    try clear hcz18_0 hcz18_1 hfz18_0 hfz18_1
    try clear hcz21_0 hcz21_1 hfz21_0 hfz21_1
    try clear hcz24_0 hcz24_1 hcz24_2 hcz24_3 hfz24_0 hfz24_1 hfz24_2 hfz24_3
    try clear hcz28_0 hcz28_1 hfz28_0 hfz28_1
    try clear hcz33_0 hcz33_1 hfz33_0 hfz33_1
    try clear hcz38_0 hcz38_1 hfz38_0 hfz38_1
    try clear hcz40_0 hcz40_1 hcz40_2 hcz40_3 hfz40_0 hfz40_1 hfz40_2 hfz40_3
    try clear hx341_0 hx341_1 hx341_2 hx341_3 hx341_4
    try clear p341 q341
    obtain ⟨kq,x41_34,rfl,HA,HJ34,BK334,BK335,BK336,HB⟩:=hcut
    cases kq with
    |zero=>exact absurd HA.out (by simp [spec_InsertSkip.j1])
    |succ kj34 =>
     have H:=HA.out;clear HA;simp only [spec_InsertSkip.j1] at H;by_cases c49:x41_34=true
     · subst c49
       replace H:=iP H;simp only [Option.some.injEq,Prod.mk.injEq] at H;obtain ⟨rfl,rfl,rfl⟩:=H;have hnb50:=NB336_334.out;have hnc50:=NB334_336.out;have hnb51:=NB336_335.out;have hnc51:=NB335_336.out;obtain ⟨hcz52_0,hcz52_1,hfz52_0,hfz52_1⟩:=bx2 BK336;go_wp2;refine bodyPost_ret (results_ct rfl _ _ gb336 26 #[.slice none 0 0,.slice none 0 0] (0,0) _ rfl (bq BK336) Tryd.underlying26 rfl (by kernel_rfl)) rfl ?_;exact ⟨_,_,re,by first|exact Kd.R_nil _ _ _ _ _|exact Kd.N_nil _ _ _ _ _|exact Kd.V_nil _ _ _ _ _|exact Kd.Q_nil _ _ _ _ _|exact Kd.S_nil _ _ _ _ _,by first|exact Kd.S_nil _ _ _ _ _|exact Kd.N_nil _ _ _ _ _|exact Kd.V_nil _ _ _ _ _|exact Kd.Q_nil _ _ _ _ _|exact Kd.R_nil _ _ _ _ _,bel⟩
     replace c49:=Bool.eq_false_iff.mpr c49;subst c49;replace H:=iN H;replace H:=bs H;obtain ⟨⟨t343,t346⟩,A53,H⟩:=H;replace H:=bs H;obtain ⟨⟨t349,t352⟩,A54,H⟩:=H;simp only [Option.some.injEq,Prod.mk.injEq] at H;obtain ⟨rfl,rfl,rfl⟩:=H
     try go_wp2
     replace BK334:=db BK334;replace BK335:=db BK335;replace BK336:=db BK336;replace HB:=dB HB;refine start_ (n:=6) (S:=fun w'=>w'.cell? ⟨gb334,0,none⟩=some (.slice A0_0 l0_0.length c0_0)∧w'.cell? ⟨gb334,1,none⟩=some (.slice A0_1 l0_1.length c0_1)∧w'.cell? ⟨gb335,0,none⟩=some (.string a1_0)∧w'.cell? ⟨gb335,1,none⟩=some (.int .i64 a1_1)∧w'.cell? ⟨gb335,2,none⟩=some (.int .i64 a1_2)∧w'.cell? ⟨gb335,3,none⟩=some (.string a1_3)) (ds:=[]) (b_ 0 6) (by kernel_rfl) rfl rfl cl (fun hHeld=>?_);generalize wc.drew=w55 at BK334 BK335 BK336 HB hHeld ⊢;refine take_ (i:=0) (N:=some 43) (v:=?_) (a':=?_) (b_ 1 5) rfl rfl (by kernel_rfl) (fun _ _ _ h=>h) (Or.inl ⟨by rfl,?_⟩) hHeld ?_ ?_;rotate_left
     · rintro w' ⟨s0,s1,s2,s3,s4,s5⟩
       go_simp
       with_reducible rfl
     rotate_left
     · simp only [Act.put,zS,zT,zU,i64_w,i32_w]
       rfl
     refine take_ (i:=2) (N:=some 45) (v:=?_) (a':=?_) #[true,false,true,false,false,false] rfl rfl (by kernel_rfl) (fun _ _ _ h=>h) (Or.inl ⟨by rfl,?_⟩) hHeld ?_ ?_;rotate_left
     · rintro w' ⟨s0,s1,s2,s3,s4,s5⟩
       go_simp
       with_reducible rfl
     rotate_left
     · simp only [Act.put,zS,zT,zU,i64_w,i32_w]
       rfl
     refine one_ (i:=1) (N:=some 44) (b_ 3 3) rfl rfl (by kernel_rfl) (by decide) (fun K hK=>?_);refine gs Tryd.func49 #[.agg #[.slice A0_0 l0_0.length c0_0,.slice A0_1 l0_1.length c0_1]] ?_
     with_reducible refine (spec_l4Own.calls kj34 _ _ l0_0 _ _ l0_1 t343 t346 _ ?side1 ?side2 ?side3 ?side4 A53.out).mono ?_
     (case side1=>exact cC (Kd.C_below HR0_0.out HB.out))
     (case side2=>exact HC0_0.out)
     (case side3=>exact cC (Kd.C_below HR0_1.out HB.out))
     (case side4=>exact HC0_1.out)
     rintro e w56 ⟨v344,v347,rfl,ho0,ho1,hb⟩;refine ⟨_,rfl,?_⟩;have HO345:=AsZ.mk (Kd.R_lower ho0 (bwz bel));have HO348:=AsZ.mk (Kd.S_lower ho1 (bwz bel));replace BK334:=bb BK334 hb;replace BK335:=bb BK335 hb;replace BK336:=bb BK336 hb;replace HB:=bp hb;(try clear hb);(try clear hb2);(try clear hk);(try clear hi);(try clear ho0);(try clear ho1);obtain ⟨Ao57,co57,eo57⟩:=Kd.R_slice HO345.out;(first|subst eo57|(injection eo57 with f1_ f2_ f3_;have f4_:=f1_.symm;have f5_:=f3_.symm;clear f1_ f2_ f3_;subst f4_;subst f5_));obtain ⟨Ao58,co58,eo58⟩:=Kd.S_slice HO348.out;(first|subst eo58|(injection eo58 with f1_ f2_ f3_;have f4_:=f1_.symm;have f5_:=f3_.symm;clear f1_ f2_ f3_;subst f4_;subst f5_));refine hK.out _ _ cl (fun hHeld=>?_);clear hK K;refine norm_ (a':=?_) ?_ ?_;rotate_left
     · show Act.put _ (some 44) _=_
       simp only [Act.put,zS,zT,zU,i64_w,i32_w]
       rfl
     refine one_ (i:=3) (N:=some 46) (b_ 4 2) rfl rfl (by kernel_rfl) (by decide) (fun K hK=>?_);refine gs Tryd.func48 #[.agg #[.slice Ao57 t343.length co57,.slice Ao58 t346.length co58],.agg #[.string a1_0,.int .i64 a1_1,.int .i64 a1_2,.string a1_3]] ?_
     with_reducible refine (spec_l4Insert.calls kj34 (fun k_=>some k_=(.slice Ao57 t343.length co57:Value).ownBlock) (.slice Ao57 t343.length co57) t343 (fun k_=>some k_ ≠ (.slice Ao57 t343.length co57:Value).ownBlock∧w.heap.size≤k_∧k_ < w56.heap.size ∧ ∃ q,q ∈ 77 :: k77.E ∧ ∃ cells,w56.heap[k_]? = some (.cells cells q (0,0))) (.slice Ao58 t346.length co58) t346 a1_0 a1_1 a1_2 a1_3 t349 t352 w _ ?side1 ?side2 ?side3 ?side4 ?side5 A54.out).mono ?_
     (case side1=>exact bel)
     (case side2=>exact Kd.R_tight rfl HO345.out)
     (case side3=>exact fun k_ e_ h_=>h_.1 e_)
     (case side4=>exact Kd.S_bound HO348.out)
     (case side5=>exact fun k_ h_ e_=>h_.1 e_)
     rintro e w59 ⟨v350,v353,rfl,ho0,ho1,hb,hkp⟩;refine ⟨_,rfl,?_⟩;have HO351:=AsZ.mk (Kd.R_mono (ok':=fun k_=>True) ho0 (fun k_ hk_=>trivial));have HO354:=AsZ.mk (Kd.S_mono (ok':=fun k_=>some k_ ≠ (v350:Value).ownBlock) ho1 (fun k_ hk_=>hk_.2));replace BK334:=AsZ.mk (blk_kept (bk BK334) hkp (fun hs_=>Or.elim hs_ (fun e_=>(fun e_=>(Kd.R_ne HO345.out BK334.out (by decide)) e_) e_) (fun h_=>Kd.S_no h_.2.2.2 BK334.out (by decide))));replace BK335:=AsZ.mk (blk_kept (bk BK335) hkp (fun hs_=>Or.elim hs_ (fun e_=>(fun e_=>(Kd.R_ne HO345.out BK335.out (by decide)) e_) e_) (fun h_=>Kd.S_no h_.2.2.2 BK335.out (by decide))));replace BK336:=AsZ.mk (blk_kept (bk BK336) hkp (fun hs_=>Or.elim hs_ (fun e_=>(fun e_=>(Kd.R_ne HO345.out BK336.out (by decide)) e_) e_) (fun h_=>Kd.S_no h_.2.2.2 BK336.out (by decide))));replace HB:=AsZ.mk (hb);clear HO345 HO348;(try clear hb);(try clear hkp);(try clear ho0);(try clear ho1);obtain ⟨Ao60,co60,eo60⟩:=Kd.R_slice HO351.out;(first|subst eo60|(injection eo60 with f1_ f2_ f3_;have f4_:=f1_.symm;have f5_:=f3_.symm;clear f1_ f2_ f3_;subst f4_;subst f5_));obtain ⟨Ao62,co62,eo62⟩:=Kd.S_slice HO354.out;(first|subst eo62|(injection eo62 with f1_ f2_ f3_;have f4_:=f1_.symm;have f5_:=f3_.symm;clear f1_ f2_ f3_;subst f4_;subst f5_));refine hK.out _ _ cl (fun hHeld=>?_);clear hK K;refine norm_ (a':=?_) ?_ ?_;rotate_left
     · show Act.put _ (some 46) _=_
       simp only [Act.put,zS,zT,zU,i64_w,i32_w]
       rfl
     refine one_ (i:=4) (N:=none) (b_ 5 1) rfl rfl (by kernel_rfl) (by decide) (fun K hK=>?_);have hs61:w59.cell? ⟨gb336,0,none⟩=some (.slice none 0 0):=(kc BK336.out 0).trans rfl;have hfs61:=kf BK336.out 0;have hns61_0:=NB334_336.out;have hns61_1:=NB335_336.out;have hms61_0:=NB336_334.out;have hms61_1:=NB336_335.out;have hs63:w59.cell? ⟨gb336,1,none⟩=some (.slice none 0 0):=(kc BK336.out 1).trans rfl;have hfs63:=kf BK336.out 1;have hns63_0:=NB334_336.out;have hns63_1:=NB335_336.out;have hms63_0:=NB336_334.out;have hms63_1:=NB336_335.out;refine skip_ (w1:=?_) (by rfl) rfl ?_ ?_;rotate_left
     · go_simp
       rfl
     refine hK.out _ _ ⟨((cell_far (p:=⟨gb336,_,none⟩) NB334_336.out _).trans (((cell_far (p:=⟨gb336,_,none⟩) NB334_336.out _).trans (hHeld.1)))),((cell_far (p:=⟨gb336,_,none⟩) NB334_336.out _).trans (((cell_far (p:=⟨gb336,_,none⟩) NB334_336.out _).trans (hHeld.2.1)))),((cell_far (p:=⟨gb336,_,none⟩) NB335_336.out _).trans (((cell_far (p:=⟨gb336,_,none⟩) NB335_336.out _).trans (hHeld.2.2.1)))),((cell_far (p:=⟨gb336,_,none⟩) NB335_336.out _).trans (((cell_far (p:=⟨gb336,_,none⟩) NB335_336.out _).trans (hHeld.2.2.2.1)))),((cell_far (p:=⟨gb336,_,none⟩) NB335_336.out _).trans (((cell_far (p:=⟨gb336,_,none⟩) NB335_336.out _).trans (hHeld.2.2.2.2.1)))),((cell_far (p:=⟨gb336,_,none⟩) NB335_336.out _).trans (((cell_far (p:=⟨gb336,_,none⟩) NB335_336.out _).trans (hHeld.2.2.2.2.2))))⟩ (fun hHeld=>?_);clear hK K;refine pure_ (i:=5) (N:=some 5) (v:=?_) (a':=?_) (b_ 6 0) rfl rfl (by kernel_rfl) (fun _ _ _ h=>h) (Or.inl ⟨by rfl,?_⟩) ?_ ?_;rotate_left
     · intro w'
       go_simp
       with_reducible rfl
     rotate_left
     · simp only [Act.put,zS,zT,zU,i64_w,i32_w]
       rfl
     refine dn_ (by kernel_rfl) ?_
     try go_wp2
     refine bodyPost_ret (results_ct rfl _ _ gb336 26 #[.slice Ao60 t349.length co60,.slice Ao62 t352.length co62] (0,0) _ rfl (bq BK336) Tryd.underlying26 rfl (by kernel_rfl)) rfl ?_;exact ⟨_,_,re,by (with_reducible repeat (first|apply Kd.R_alloc|apply Kd.R_drewN|apply Kd.R_drew));exact Kd.R_mono (fR (fR (Kd.R_types HO351.out BK336.out (by decide)))) (fun _ hk=>trivial),by (with_reducible repeat (first|apply Kd.S_alloc|apply Kd.S_drewN|apply Kd.S_drew));exact Kd.S_mono (fS (fS (Kd.S_types HO354.out BK336.out (by decide)))) (fun _ hk=>hk.1),bel⟩
end Go.Proofs.YtffjlpphcjfdgaaDoor.MFnExactInsertSkip
