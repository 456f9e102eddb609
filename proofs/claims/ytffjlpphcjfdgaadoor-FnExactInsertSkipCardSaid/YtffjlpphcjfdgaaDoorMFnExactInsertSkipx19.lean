-- Written by a program of this session out of the translation. Not trusted: Lean checks it.
import Derived.Test.YtffjlpphcjfdgaaDoorMFnExactInsertSkipx0
import Derived.Test.YtffjlpphcjfdgaaDoorMFnExactInsertSkipx17
import Derived.Test.YtffjlpphcjfdgaaDoorMFnExactInsertSkipx18
namespace Go.Proofs.YtffjlpphcjfdgaaDoor.MFnExactInsertSkip
-- joined
-- short
-- shrunk
-- TAB
-- RD
open Go.Proofs.YtffjlpphcjfdgaaDoor Go.RowKit Go.Proofs.YtffjlpphcjfdgaaDoorW.PrintWords Go.Proofs.YtffjlpphcjfdgaaDoorW.PrintLast Go.Proofs.YtffjlpphcjfdgaaDoorW.PrintMore Go.Proofs.YtffjlpphcjfdgaaDoorX
attribute [local go_sem] max2_int min2_int max_two min_two max_three min_three max_four min_four str_gtr str_leq str_geq cell_twice
set_option linter.unusedVariables false
set_option linter.unusedSimpArgs false
-- COMPACT
/-! ### laws_heldSkip: function 28 -/
def laws_heldSkip.f (k:Nat) (l0_0:List Int) (l0_1:List (S77)) (a1:Int):Option (Int):=(laws_heldIntS.f k l0_0 a1).bind fun t432=>(if t432 < 0 then (some (-1)) else ((laws_heldTowerS.f k l0_1 t432).bind fun t433=>(if t433 < 0 then (some (-1)) else (some t433))))
theorem laws_heldSkip.mono:∀ a0 a1 a2 k,LeO (laws_heldSkip.f k a0 a1 a2) (laws_heldSkip.f (k + 1) a0 a1 a2):=by
  intro a0 a1 a2 k;unfold laws_heldSkip.f;have j0:=@laws_heldIntS.mono;have j1:=@laws_heldTowerS.mono;exact mo
set_option maxHeartbeats 8000000 in
set_option maxRecDepth 100000 in
theorem laws_heldSkip.calls (k:Nat) (A0_0:Option Addr) (c0_0:Nat) (l0_0:List Int) (A0_1:Option Addr) (c0_1:Nat) (l0_1:List (S77)) (a1:Int) (r:Int) (w:World) (hr0_0:Kd.C (Kd.int .i64) w A0_0 l0_0.length l0_0) (hc0_0:l0_0.length≤c0_0) (hr0_1:Kd.C k77 w A0_1 l0_1.length l0_1) (hc0_1:l0_1.length≤c0_1) (h:laws_heldSkip.f k l0_0 l0_1 a1=some r) :
    Calls Tryd.prog 28 #[.agg #[.slice A0_0 l0_0.length c0_0,.slice A0_1 l0_1.length c0_1],.int .i64 a1] w fun e w'=>e = .returned (.int .i64 r)∧Below w.heap.size w w':=by
 have hu26:=Tryd.underlying26;have HR0_0:=AsZ.mk hr0_0;have HC0_0:=AsZ.mk hc0_0;clear hr0_0 hc0_0;have HR0_1:=AsZ.mk hr0_1;have HC0_1:=AsZ.mk hc0_1;clear hr0_1 hc0_1;have HB:=AsZ.mk (Below.refl w.heap.size w);have H:((laws_heldIntS.f k l0_0 a1).bind fun t432=>(if t432 < 0 then (some (-1)) else ((laws_heldTowerS.f k l0_1 t432).bind fun t433=>(if t433 < 0 then (some (-1)) else (some t433)))))=some r:=h;clear h;replace H:=bs H;obtain ⟨t432,A3,H⟩:=H;by_cases c4:t432 < 0
 · rw [if_pos c4] at H
   have c4b0:=zE c4;clear c4;obtain rfl:=zI H;go_enter Tryd.func28,Tryd.ntmps28;go_wp2_with (first|((with_reducible refine gate_dst (N:=2) rfl ?_);refine bev 2 26 (cs:=#[.slice A0_0 l0_0.length c0_0,.slice A0_1 l0_1.length c0_1]) ?_;intro gb431 hg w5 hbox hb;have BK431:=AsZ.mk (hbox);have GW431:=gz HB hg;have GE431:=gz HB hg;replace HB:=bp hb;clear hb hbox hg;obtain ⟨hcz6_0,hcz6_1,hfz6_0,hfz6_1⟩:=bx2 BK431)|((with_reducible refine gcl (f:=68) rfl ?_);refine gk (some 8) Tryd.func68 #[.slice A0_0 l0_0.length c0_0,.int .i64 a1] ?_;(with_reducible refine (laws_heldIntS.calls k _ _ l0_0 a1 t432 _ ?side1 ?side2 A3.out).mono ?_);(case side1=>exact cC (Kd.C_below HR0_0.out HB.out));(case side2=>exact HC0_0.out);rintro e w' ⟨rfl,⟨nd,rfl⟩⟩;refine ⟨_,rfl,?_⟩));go_ret;exact ⟨re,bel⟩
 rw [if_neg c4] at H;have c4b0:=decide_eq_false c4;clear c4;replace H:=bs H;obtain ⟨t433,A7,H⟩:=H;by_cases c8:t433 < 0
 · rw [if_pos c8] at H
   have c8b0:=zE c8;clear c8;obtain rfl:=zI H;go_enter Tryd.func28,Tryd.ntmps28;go_wp2_with (first|((with_reducible refine gate_dst (N:=2) rfl ?_);refine bev 2 26 (cs:=#[.slice A0_0 l0_0.length c0_0,.slice A0_1 l0_1.length c0_1]) ?_;intro gb431 hg w9 hbox hb;have BK431:=AsZ.mk (hbox);have GW431:=gz HB hg;have GE431:=gz HB hg;replace HB:=bp hb;clear hb hbox hg;obtain ⟨hcz10_0,hcz10_1,hfz10_0,hfz10_1⟩:=bx2 BK431)|((with_reducible refine gcl (f:=68) rfl ?_);refine gk (some 8) Tryd.func68 #[.slice A0_0 l0_0.length c0_0,.int .i64 a1] ?_;(with_reducible refine (laws_heldIntS.calls k _ _ l0_0 a1 t432 _ ?side1 ?side2 A3.out).mono ?_);(case side1=>exact cC (Kd.C_below HR0_0.out HB.out));(case side2=>exact HC0_0.out);rintro e w' ⟨rfl,⟨nd,rfl⟩⟩;refine ⟨_,rfl,?_⟩)|((with_reducible refine gcl (f:=69) rfl ?_);refine gk (some 14) Tryd.func69 #[.slice A0_1 l0_1.length c0_1,.int .i64 t432] ?_;(with_reducible refine (laws_heldTowerS.calls k _ _ l0_1 t432 t433 _ ?side1 ?side2 A7.out).mono ?_);(case side1=>exact cC (Kd.C_below HR0_1.out bel));(case side2=>exact HC0_1.out);rintro e w11 ⟨rfl,hb⟩;refine ⟨_,rfl,?_⟩;replace BK431:=bb BK431 hb;replace HB:=bp hb;(try clear hb);(try clear hb2);(try clear hk);(try clear hi)));go_ret;exact ⟨re,bel⟩
 rw [if_neg c8] at H;have c8b0:=decide_eq_false c8;clear c8;obtain rfl:=zI H;go_enter Tryd.func28,Tryd.ntmps28;go_wp2_with (first|((with_reducible refine gate_dst (N:=2) rfl ?_);refine bev 2 26 (cs:=#[.slice A0_0 l0_0.length c0_0,.slice A0_1 l0_1.length c0_1]) ?_;intro gb431 hg w12 hbox hb;have BK431:=AsZ.mk (hbox);have GW431:=gz HB hg;have GE431:=gz HB hg;replace HB:=bp hb;clear hb hbox hg;obtain ⟨hcz13_0,hcz13_1,hfz13_0,hfz13_1⟩:=bx2 BK431)|((with_reducible refine gcl (f:=68) rfl ?_);refine gk (some 8) Tryd.func68 #[.slice A0_0 l0_0.length c0_0,.int .i64 a1] ?_;(with_reducible refine (laws_heldIntS.calls k _ _ l0_0 a1 t432 _ ?side1 ?side2 A3.out).mono ?_);(case side1=>exact cC (Kd.C_below HR0_0.out HB.out));(case side2=>exact HC0_0.out);rintro e w' ⟨rfl,⟨nd,rfl⟩⟩;refine ⟨_,rfl,?_⟩)|((with_reducible refine gcl (f:=69) rfl ?_);refine gk (some 14) Tryd.func69 #[.slice A0_1 l0_1.length c0_1,.int .i64 t432] ?_;(with_reducible refine (laws_heldTowerS.calls k _ _ l0_1 t432 t433 _ ?side1 ?side2 A7.out).mono ?_);(case side1=>exact cC (Kd.C_below HR0_1.out bel));(case side2=>exact HC0_1.out);rintro e w14 ⟨rfl,hb⟩;refine ⟨_,rfl,?_⟩;replace BK431:=bb BK431 hb;replace HB:=bp hb;(try clear hb);(try clear hb2);(try clear hk);(try clear hi)));go_ret;exact ⟨re,bel⟩
end Go.Proofs.YtffjlpphcjfdgaaDoor.MFnExactInsertSkip
