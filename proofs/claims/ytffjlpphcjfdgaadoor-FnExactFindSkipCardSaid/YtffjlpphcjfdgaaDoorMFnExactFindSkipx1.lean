-- Written by a program of this session out of the translation. Not trusted: Lean checks it.
import Derived.Test.YtffjlpphcjfdgaaDoorMFnExactFindSkipx0
namespace Go.Proofs.YtffjlpphcjfdgaaDoor.MFnExactFindSkip
-- short
-- shrunk
-- TAB
-- RD
open Go.Proofs.YtffjlpphcjfdgaaDoor Go.RowKit Go.Proofs.YtffjlpphcjfdgaaDoorW.PrintWords Go.Proofs.YtffjlpphcjfdgaaDoorW.PrintLast Go.Proofs.YtffjlpphcjfdgaaDoorW.PrintMore Go.Proofs.YtffjlpphcjfdgaaDoorX
attribute [local go_sem] max2_int min2_int max_two min_two max_three min_three max_four min_four str_gtr str_leq str_geq cell_twice
set_option linter.unusedVariables false
set_option linter.unusedSimpArgs false
/-! ### laws_szIntS: function 57 -/
def laws_szIntS.f (l0:List Int) (a1:Int):Option (Int):=if (wrap64 (a1 - (l0.length:Int))) < 0 then (some (-1)) else (some (wrap64 (a1 - (l0.length:Int))))
set_option maxHeartbeats 8000000 in
set_option maxRecDepth 100000 in
theorem laws_szIntS.calls (A0:Option Addr) (c0:Nat) (l0:List Int) (a1:Int) (r:Int) (w:World) (hr0:Kd.C (Kd.int .i64) w A0 l0.length l0) (hc0:l0.length≤c0) (h:laws_szIntS.f l0 a1=some r) :
    Calls Tryd.prog 57 #[.slice A0 l0.length c0,.int .i64 a1] w fun e w'=>e = .returned (.int .i64 r)∧Drawn0 w w':=by
 have HR0:=AsZ.mk hr0
 have HC0:=AsZ.mk hc0
 clear hr0 hc0
 have H:(if (wrap64 (a1 - (l0.length:Int))) < 0 then (some (-1)) else (some (wrap64 (a1 - (l0.length:Int)))))=some r:=h
 clear h
 by_cases c3:(wrap64 (a1 - (l0.length:Int))) < 0
 · rw [if_pos c3] at H
   have c3b0:decide ((wrap64 (a1 - (l0.length:Int))) < 0)=true:=zE c3
   clear c3
   obtain rfl:=zI H
   go_enter Tryd.func57,Tryd.ntmps57
   go_wp2
   go_ret
   exact ⟨by first|rfl|(simp;done)|(simp [*];done),by repeat (first|exact Drawn0.refl _|apply Drawn0.step)⟩
 rw [if_neg c3] at H
 have c3b0:decide ((wrap64 (a1 - (l0.length:Int))) < 0)=false:=decide_eq_false c3
 clear c3
 obtain rfl:=zI H
 go_enter Tryd.func57,Tryd.ntmps57
 go_wp2
 go_ret
 exact ⟨by first|rfl|(simp;done)|(simp [*];done),by repeat (first|exact Drawn0.refl _|apply Drawn0.step)⟩
/-! ### laws_szItem: function 26 -/
def laws_szItem.f (a0_0:ByteArray) (a0_1:Int) (a0_2:Int) (a0_3:ByteArray) (a1:Int):Option (Int):=if (wrap64 (a1 - (a0_0.size:Int))) < 0 then (some (-1)) else (if (wrap64 ((wrap64 (a1 - (a0_0.size:Int))) - (a0_3.size:Int))) < 0 then (some (-1)) else (some (wrap64 ((wrap64 (a1 - (a0_0.size:Int))) - (a0_3.size:Int)))))
set_option maxHeartbeats 8000000 in
set_option maxRecDepth 100000 in
theorem laws_szItem.calls (a0_0:ByteArray) (a0_1:Int) (a0_2:Int) (a0_3:ByteArray) (a1:Int) (r:Int) (w:World) (h:laws_szItem.f a0_0 a0_1 a0_2 a0_3 a1=some r) :
    Calls Tryd.prog 26 #[.agg #[.string a0_0,.int .i64 a0_1,.int .i64 a0_2,.string a0_3],.int .i64 a1] w fun e w'=>e = .returned (.int .i64 r)∧Below w.heap.size w w':=by
 have hu51:=Tryd.underlying51
 have HB:=AsZ.mk (Below.refl w.heap.size w)
 have H:(if (wrap64 (a1 - (a0_0.size:Int))) < 0 then (some (-1)) else (if (wrap64 ((wrap64 (a1 - (a0_0.size:Int))) - (a0_3.size:Int))) < 0 then (some (-1)) else (some (wrap64 ((wrap64 (a1 - (a0_0.size:Int))) - (a0_3.size:Int))))))=some r:=h
 clear h
 by_cases c3:(wrap64 (a1 - (a0_0.size:Int))) < 0
 · rw [if_pos c3] at H
   have c3b0:decide ((wrap64 (a1 - (a0_0.size:Int))) < 0)=true:=zE c3
   clear c3
   obtain rfl:=zI H
   go_enter Tryd.func26,Tryd.ntmps26
   go_wp2_with (first|((with_reducible refine gate_dst (N:=2) rfl ?_);refine box_event ?hg (N:=2) ?hd (cs:=#[.string a0_0,.int .i64 a0_1,.int .i64 a0_2,.string a0_3]) (t:=51) ?hr ?_;(case hd=>rfl);(case hg=>rfl);(case hr=>first|(go_simp;done)|(go_simp;rfl));intro gb101 hg w4 hbox hb;have n0_:=AsZ.mk (bwp (by repeat (first|(with_reducible first|exact HB.out|apply bwa|apply pbN|apply bw1)|exact HB.out)) hb);have n1_:=AsZ.mk (hbox);have n2_:=AsZ.mk ((by rw [hg];exact (bwz (by repeat (first|(with_reducible first|exact HB.out|apply bwa|apply pbN|apply bw1)|exact HB.out))):w.heap.size≤gb101));have n3_:=AsZ.mk ((by rw [hg];exact (bwz (by repeat (first|(with_reducible first|exact HB.out|apply bwa|apply pbN|apply bw1)|exact HB.out))):w.heap.size≤gb101));clear HB;have HB:=n0_;have BK101:=n1_;have GW101:=n2_;have GE101:=n3_;clear n0_ n1_ n2_ n3_;clear hb hbox hg;have hcz5_0:w4.cell? ⟨gb101,0,none⟩=some (.string a0_0):=(kc BK101.out 0).trans rfl;have hcz5_1:w4.cell? ⟨gb101,1,none⟩=some (.int .i64 a0_1):=(kc BK101.out 1).trans rfl;have hcz5_2:w4.cell? ⟨gb101,2,none⟩=some (.int .i64 a0_2):=(kc BK101.out 2).trans rfl;have hcz5_3:w4.cell? ⟨gb101,3,none⟩=some (.string a0_3):=(kc BK101.out 3).trans rfl;have hfz5_0:=kf BK101.out 0;have hfz5_1:=kf BK101.out 1;have hfz5_2:=kf BK101.out 2;have hfz5_3:=kf BK101.out 3))
   go_ret
   exact ⟨by first|rfl|(simp [errW_none,errW_some]<;>rfl)|(simp [*,errW_none,errW_some]<;>rfl),by repeat (first|(with_reducible first|exact HB.out|apply bwa|apply pbN|apply bw1|refine bws ?_ GE101.out)|exact HB.out)⟩
 rw [if_neg c3] at H
 have c3b0:decide ((wrap64 (a1 - (a0_0.size:Int))) < 0)=false:=decide_eq_false c3
 clear c3
 by_cases c6:(wrap64 ((wrap64 (a1 - (a0_0.size:Int))) - (a0_3.size:Int))) < 0
 · rw [if_pos c6] at H
   have c6b0:decide ((wrap64 ((wrap64 (a1 - (a0_0.size:Int))) - (a0_3.size:Int))) < 0)=true:=zE c6
   clear c6
   obtain rfl:=zI H
   go_enter Tryd.func26,Tryd.ntmps26
   go_wp2_with (first|((with_reducible refine gate_dst (N:=2) rfl ?_);refine box_event ?hg (N:=2) ?hd (cs:=#[.string a0_0,.int .i64 a0_1,.int .i64 a0_2,.string a0_3]) (t:=51) ?hr ?_;(case hd=>rfl);(case hg=>rfl);(case hr=>first|(go_simp;done)|(go_simp;rfl));intro gb101 hg w7 hbox hb;have n0_:=AsZ.mk (bwp (by repeat (first|(with_reducible first|exact HB.out|apply bwa|apply pbN|apply bw1)|exact HB.out)) hb);have n1_:=AsZ.mk (hbox);have n2_:=AsZ.mk ((by rw [hg];exact (bwz (by repeat (first|(with_reducible first|exact HB.out|apply bwa|apply pbN|apply bw1)|exact HB.out))):w.heap.size≤gb101));have n3_:=AsZ.mk ((by rw [hg];exact (bwz (by repeat (first|(with_reducible first|exact HB.out|apply bwa|apply pbN|apply bw1)|exact HB.out))):w.heap.size≤gb101));clear HB;have HB:=n0_;have BK101:=n1_;have GW101:=n2_;have GE101:=n3_;clear n0_ n1_ n2_ n3_;clear hb hbox hg;have hcz8_0:w7.cell? ⟨gb101,0,none⟩=some (.string a0_0):=(kc BK101.out 0).trans rfl;have hcz8_1:w7.cell? ⟨gb101,1,none⟩=some (.int .i64 a0_1):=(kc BK101.out 1).trans rfl;have hcz8_2:w7.cell? ⟨gb101,2,none⟩=some (.int .i64 a0_2):=(kc BK101.out 2).trans rfl;have hcz8_3:w7.cell? ⟨gb101,3,none⟩=some (.string a0_3):=(kc BK101.out 3).trans rfl;have hfz8_0:=kf BK101.out 0;have hfz8_1:=kf BK101.out 1;have hfz8_2:=kf BK101.out 2;have hfz8_3:=kf BK101.out 3))
   go_ret
   exact ⟨by first|rfl|(simp [errW_none,errW_some]<;>rfl)|(simp [*,errW_none,errW_some]<;>rfl),by repeat (first|(with_reducible first|exact HB.out|apply bwa|apply pbN|apply bw1|refine bws ?_ GE101.out)|exact HB.out)⟩
 rw [if_neg c6] at H
 have c6b0:decide ((wrap64 ((wrap64 (a1 - (a0_0.size:Int))) - (a0_3.size:Int))) < 0)=false:=decide_eq_false c6
 clear c6
 obtain rfl:=zI H
 go_enter Tryd.func26,Tryd.ntmps26
 go_wp2_with (first|((with_reducible refine gate_dst (N:=2) rfl ?_);refine box_event ?hg (N:=2) ?hd (cs:=#[.string a0_0,.int .i64 a0_1,.int .i64 a0_2,.string a0_3]) (t:=51) ?hr ?_;(case hd=>rfl);(case hg=>rfl);(case hr=>first|(go_simp;done)|(go_simp;rfl));intro gb101 hg w9 hbox hb;have n0_:=AsZ.mk (bwp (by repeat (first|(with_reducible first|exact HB.out|apply bwa|apply pbN|apply bw1)|exact HB.out)) hb);have n1_:=AsZ.mk (hbox);have n2_:=AsZ.mk ((by rw [hg];exact (bwz (by repeat (first|(with_reducible first|exact HB.out|apply bwa|apply pbN|apply bw1)|exact HB.out))):w.heap.size≤gb101));have n3_:=AsZ.mk ((by rw [hg];exact (bwz (by repeat (first|(with_reducible first|exact HB.out|apply bwa|apply pbN|apply bw1)|exact HB.out))):w.heap.size≤gb101));clear HB;have HB:=n0_;have BK101:=n1_;have GW101:=n2_;have GE101:=n3_;clear n0_ n1_ n2_ n3_;clear hb hbox hg;have hcz10_0:w9.cell? ⟨gb101,0,none⟩=some (.string a0_0):=(kc BK101.out 0).trans rfl;have hcz10_1:w9.cell? ⟨gb101,1,none⟩=some (.int .i64 a0_1):=(kc BK101.out 1).trans rfl;have hcz10_2:w9.cell? ⟨gb101,2,none⟩=some (.int .i64 a0_2):=(kc BK101.out 2).trans rfl;have hcz10_3:w9.cell? ⟨gb101,3,none⟩=some (.string a0_3):=(kc BK101.out 3).trans rfl;have hfz10_0:=kf BK101.out 0;have hfz10_1:=kf BK101.out 1;have hfz10_2:=kf BK101.out 2;have hfz10_3:=kf BK101.out 3))
 go_ret
 exact ⟨by first|rfl|(simp [errW_none,errW_some]<;>rfl)|(simp [*,errW_none,errW_some]<;>rfl),by repeat (first|(with_reducible first|exact HB.out|apply bwa|apply pbN|apply bw1|refine bws ?_ GE101.out)|exact HB.out)⟩
/-! ### laws_szTower: function 90 -/
def laws_szTower.f (a0_0:ByteArray) (a0_1:Int) (a0_2:Int) (a0_3:ByteArray) (l0_4:List Int) (a1:Int):Option (Int):=(laws_szItem.f a0_0 a0_1 a0_2 a0_3 a1).bind fun t103=>(if t103 < 0 then (some (-1)) else ((laws_szIntS.f l0_4 t103).bind fun t104=>(if t104 < 0 then (some (-1)) else (some t104))))
set_option maxHeartbeats 8000000 in
set_option maxRecDepth 100000 in
theorem laws_szTower.calls (a0_0:ByteArray) (a0_1:Int) (a0_2:Int) (a0_3:ByteArray) (A0_4:Option Addr) (c0_4:Nat) (l0_4:List Int) (a1:Int) (r:Int) (w:World) (hr0_4:Kd.C (Kd.int .i64) w A0_4 l0_4.length l0_4) (hc0_4:l0_4.length≤c0_4) (h:laws_szTower.f a0_0 a0_1 a0_2 a0_3 l0_4 a1=some r) :
    Calls Tryd.prog 90 #[.agg #[.string a0_0,.int .i64 a0_1,.int .i64 a0_2,.string a0_3,.slice A0_4 l0_4.length c0_4],.int .i64 a1] w fun e w'=>e = .returned (.int .i64 r)∧Below w.heap.size w w':=by
 have hu113:=Tryd.underlying113
 have hu51:=Tryd.underlying51
 have HR0_4:=AsZ.mk hr0_4
 have HC0_4:=AsZ.mk hc0_4
 clear hr0_4 hc0_4
 have HB:=AsZ.mk (Below.refl w.heap.size w)
 have H:((laws_szItem.f a0_0 a0_1 a0_2 a0_3 a1).bind fun t103=>(if t103 < 0 then (some (-1)) else ((laws_szIntS.f l0_4 t103).bind fun t104=>(if t104 < 0 then (some (-1)) else (some t104)))))=some r:=h
 clear h
 replace H:=Option.bind_eq_some_iff.mp H
 obtain ⟨t103,A30,H⟩:=H
 replace H:(if t103 < 0 then (some (-1)) else ((laws_szIntS.f l0_4 t103).bind fun t104=>(if t104 < 0 then (some (-1)) else (some t104))))=some r:=H
 have A3:=AsZ.mk A30
 clear A30
 by_cases c4:t103 < 0
 · rw [if_pos c4] at H
   have c4b0:decide (t103 < 0)=true:=zE c4
   clear c4
   obtain rfl:=zI H
   go_enter Tryd.func90,Tryd.ntmps90
   go_wp2_with (first|((with_reducible refine gate_dst (N:=2) rfl ?_);refine box_event ?hg (N:=2) ?hd (cs:=#[.string a0_0,.int .i64 a0_1,.int .i64 a0_2,.string a0_3,.slice A0_4 l0_4.length c0_4]) (t:=113) ?hr ?_;(case hd=>rfl);(case hg=>rfl);(case hr=>first|(go_simp;done)|(go_simp;rfl));intro gb102 hg w5 hbox hb;have n0_:=AsZ.mk (bwp (by repeat (first|(with_reducible first|exact HB.out|apply bwa|apply pbN|apply bw1)|exact HB.out)) hb);have n1_:=AsZ.mk (hbox);have n2_:=AsZ.mk ((by rw [hg];exact (bwz (by repeat (first|(with_reducible first|exact HB.out|apply bwa|apply pbN|apply bw1)|exact HB.out))):w.heap.size≤gb102));have n3_:=AsZ.mk ((by rw [hg];exact (bwz (by repeat (first|(with_reducible first|exact HB.out|apply bwa|apply pbN|apply bw1)|exact HB.out))):w.heap.size≤gb102));clear HB;have HB:=n0_;have BK102:=n1_;have GW102:=n2_;have GE102:=n3_;clear n0_ n1_ n2_ n3_;clear hb hbox hg;have hcz6_0:w5.cell? ⟨gb102,0,none⟩=some (.string a0_0):=(kc BK102.out 0).trans rfl;have hcz6_1:w5.cell? ⟨gb102,1,none⟩=some (.int .i64 a0_1):=(kc BK102.out 1).trans rfl;have hcz6_2:w5.cell? ⟨gb102,2,none⟩=some (.int .i64 a0_2):=(kc BK102.out 2).trans rfl;have hcz6_3:w5.cell? ⟨gb102,3,none⟩=some (.string a0_3):=(kc BK102.out 3).trans rfl;have hcz6_4:w5.cell? ⟨gb102,4,none⟩=some (.slice A0_4 l0_4.length c0_4):=(kc BK102.out 4).trans rfl;have hfz6_0:=kf BK102.out 0;have hfz6_1:=kf BK102.out 1;have hfz6_2:=kf BK102.out 2;have hfz6_3:=kf BK102.out 3;have hfz6_4:=kf BK102.out 4)|((with_reducible refine gcl (f:=26) rfl ?_);refine goesL_ (some 8) rfl rfl Tryd.func26 (by kernel_rfl) rfl #[.agg #[.string a0_0,.int .i64 a0_1,.int .i64 a0_2,.string a0_3],.int .i64 a1] rfl (by (try simp only [zA,zC,zN]);first|done|rfl|(simp only [zM,zL];rfl)) ?_;(with_reducible refine (laws_szItem.calls a0_0 a0_1 a0_2 a0_3 a1 t103 _ A3.out).mono ?_);rintro e w7 ⟨rfl,hb⟩;refine ⟨_,rfl,?_⟩;have n0_:=AsZ.mk (kb (g:=gb102) (o := .cells #[.string a0_0,.int .i64 a0_1,.int .i64 a0_2,.string a0_3,.slice A0_4 l0_4.length c0_4] 113 (0,0)) (by (with_reducible repeat (first|refine kdN ?_ _|refine kd ?_|refine ka ?_ _));exact BK102.out) hb);have n1_:=AsZ.mk (bwp (by repeat (first|(with_reducible first|exact HB.out|apply bwa|apply pbN|apply bw1|refine bws ?_ GE102.out)|exact HB.out)) hb);clear BK102;clear HB;have BK102:=n0_;have HB:=n1_;clear n0_ n1_;(try clear hb);(try clear hb2);(try clear hk);(try clear hi)))
   go_ret
   exact ⟨by first|rfl|(simp [errW_none,errW_some]<;>rfl)|(simp [*,errW_none,errW_some]<;>rfl),by repeat (first|(with_reducible first|exact HB.out|apply bwa|apply pbN|apply bw1|refine bws ?_ GE102.out)|exact HB.out)⟩
 rw [if_neg c4] at H
 have c4b0:decide (t103 < 0)=false:=decide_eq_false c4
 clear c4
 replace H:=Option.bind_eq_some_iff.mp H
 obtain ⟨t104,A80,H⟩:=H
 replace H:(if t104 < 0 then (some (-1)) else (some t104))=some r:=H
 have A8:=AsZ.mk A80
 clear A80
 by_cases c9:t104 < 0
 · rw [if_pos c9] at H
   have c9b0:decide (t104 < 0)=true:=zE c9
   clear c9
   obtain rfl:=zI H
   go_enter Tryd.func90,Tryd.ntmps90
   go_wp2_with (first|((with_reducible refine gate_dst (N:=2) rfl ?_);refine box_event ?hg (N:=2) ?hd (cs:=#[.string a0_0,.int .i64 a0_1,.int .i64 a0_2,.string a0_3,.slice A0_4 l0_4.length c0_4]) (t:=113) ?hr ?_;(case hd=>rfl);(case hg=>rfl);(case hr=>first|(go_simp;done)|(go_simp;rfl));intro gb102 hg w10 hbox hb;have n0_:=AsZ.mk (bwp (by repeat (first|(with_reducible first|exact HB.out|apply bwa|apply pbN|apply bw1)|exact HB.out)) hb);have n1_:=AsZ.mk (hbox);have n2_:=AsZ.mk ((by rw [hg];exact (bwz (by repeat (first|(with_reducible first|exact HB.out|apply bwa|apply pbN|apply bw1)|exact HB.out))):w.heap.size≤gb102));have n3_:=AsZ.mk ((by rw [hg];exact (bwz (by repeat (first|(with_reducible first|exact HB.out|apply bwa|apply pbN|apply bw1)|exact HB.out))):w.heap.size≤gb102));clear HB;have HB:=n0_;have BK102:=n1_;have GW102:=n2_;have GE102:=n3_;clear n0_ n1_ n2_ n3_;clear hb hbox hg;have hcz11_0:w10.cell? ⟨gb102,0,none⟩=some (.string a0_0):=(kc BK102.out 0).trans rfl;have hcz11_1:w10.cell? ⟨gb102,1,none⟩=some (.int .i64 a0_1):=(kc BK102.out 1).trans rfl;have hcz11_2:w10.cell? ⟨gb102,2,none⟩=some (.int .i64 a0_2):=(kc BK102.out 2).trans rfl;have hcz11_3:w10.cell? ⟨gb102,3,none⟩=some (.string a0_3):=(kc BK102.out 3).trans rfl;have hcz11_4:w10.cell? ⟨gb102,4,none⟩=some (.slice A0_4 l0_4.length c0_4):=(kc BK102.out 4).trans rfl;have hfz11_0:=kf BK102.out 0;have hfz11_1:=kf BK102.out 1;have hfz11_2:=kf BK102.out 2;have hfz11_3:=kf BK102.out 3;have hfz11_4:=kf BK102.out 4)|((with_reducible refine gcl (f:=26) rfl ?_);refine goesL_ (some 8) rfl rfl Tryd.func26 (by kernel_rfl) rfl #[.agg #[.string a0_0,.int .i64 a0_1,.int .i64 a0_2,.string a0_3],.int .i64 a1] rfl (by (try simp only [zA,zC,zN]);first|done|rfl|(simp only [zM,zL];rfl)) ?_;(with_reducible refine (laws_szItem.calls a0_0 a0_1 a0_2 a0_3 a1 t103 _ A3.out).mono ?_);rintro e w12 ⟨rfl,hb⟩;refine ⟨_,rfl,?_⟩;have n0_:=AsZ.mk (kb (g:=gb102) (o := .cells #[.string a0_0,.int .i64 a0_1,.int .i64 a0_2,.string a0_3,.slice A0_4 l0_4.length c0_4] 113 (0,0)) (by (with_reducible repeat (first|refine kdN ?_ _|refine kd ?_|refine ka ?_ _));exact BK102.out) hb);have n1_:=AsZ.mk (bwp (by repeat (first|(with_reducible first|exact HB.out|apply bwa|apply pbN|apply bw1|refine bws ?_ GE102.out)|exact HB.out)) hb);clear BK102;clear HB;have BK102:=n0_;have HB:=n1_;clear n0_ n1_;(try clear hb);(try clear hb2);(try clear hk);(try clear hi);have hcz13_0:w12.cell? ⟨gb102,0,none⟩=some (.string a0_0):=(kc BK102.out 0).trans rfl;have hcz13_1:w12.cell? ⟨gb102,1,none⟩=some (.int .i64 a0_1):=(kc BK102.out 1).trans rfl;have hcz13_2:w12.cell? ⟨gb102,2,none⟩=some (.int .i64 a0_2):=(kc BK102.out 2).trans rfl;have hcz13_3:w12.cell? ⟨gb102,3,none⟩=some (.string a0_3):=(kc BK102.out 3).trans rfl;have hcz13_4:w12.cell? ⟨gb102,4,none⟩=some (.slice A0_4 l0_4.length c0_4):=(kc BK102.out 4).trans rfl;have hfz13_0:=kf BK102.out 0;have hfz13_1:=kf BK102.out 1;have hfz13_2:=kf BK102.out 2;have hfz13_3:=kf BK102.out 3;have hfz13_4:=kf BK102.out 4)|((with_reducible refine gcl (f:=57) rfl ?_);refine goesL_ (some 14) rfl rfl Tryd.func57 (by kernel_rfl) rfl #[.slice A0_4 l0_4.length c0_4,.int .i64 t103] rfl (by (try simp only [zA,zC,zN]);first|done|rfl|(simp only [zM,zL];rfl)) ?_;(with_reducible refine (laws_szIntS.calls _ _ l0_4 t103 t104 _ ?side1 ?side2 A8.out).mono ?_);(case side1=>repeat (first|exact (Kd.C_below HR0_4.out HB.out)|(with_reducible refine Kd.C_alloc ?_ _)|(with_reducible refine Kd.C_drewN ?_ _)|(with_reducible refine Kd.C_drew ?_)));(case side2=>exact HC0_4.out);rintro e w' ⟨rfl,⟨nd,rfl⟩⟩;refine ⟨_,rfl,?_⟩))
   go_ret
   exact ⟨by first|rfl|(simp [errW_none,errW_some]<;>rfl)|(simp [*,errW_none,errW_some]<;>rfl),by repeat (first|(with_reducible first|exact HB.out|apply bwa|apply pbN|apply bw1|refine bws ?_ GE102.out)|exact HB.out)⟩
 rw [if_neg c9] at H
 have c9b0:decide (t104 < 0)=false:=decide_eq_false c9
 clear c9
 obtain rfl:=zI H
 go_enter Tryd.func90,Tryd.ntmps90
 go_wp2_with (first|((with_reducible refine gate_dst (N:=2) rfl ?_);refine box_event ?hg (N:=2) ?hd (cs:=#[.string a0_0,.int .i64 a0_1,.int .i64 a0_2,.string a0_3,.slice A0_4 l0_4.length c0_4]) (t:=113) ?hr ?_;(case hd=>rfl);(case hg=>rfl);(case hr=>first|(go_simp;done)|(go_simp;rfl));intro gb102 hg w14 hbox hb;have n0_:=AsZ.mk (bwp (by repeat (first|(with_reducible first|exact HB.out|apply bwa|apply pbN|apply bw1)|exact HB.out)) hb);have n1_:=AsZ.mk (hbox);have n2_:=AsZ.mk ((by rw [hg];exact (bwz (by repeat (first|(with_reducible first|exact HB.out|apply bwa|apply pbN|apply bw1)|exact HB.out))):w.heap.size≤gb102));have n3_:=AsZ.mk ((by rw [hg];exact (bwz (by repeat (first|(with_reducible first|exact HB.out|apply bwa|apply pbN|apply bw1)|exact HB.out))):w.heap.size≤gb102));clear HB;have HB:=n0_;have BK102:=n1_;have GW102:=n2_;have GE102:=n3_;clear n0_ n1_ n2_ n3_;clear hb hbox hg;have hcz15_0:w14.cell? ⟨gb102,0,none⟩=some (.string a0_0):=(kc BK102.out 0).trans rfl;have hcz15_1:w14.cell? ⟨gb102,1,none⟩=some (.int .i64 a0_1):=(kc BK102.out 1).trans rfl;have hcz15_2:w14.cell? ⟨gb102,2,none⟩=some (.int .i64 a0_2):=(kc BK102.out 2).trans rfl;have hcz15_3:w14.cell? ⟨gb102,3,none⟩=some (.string a0_3):=(kc BK102.out 3).trans rfl;have hcz15_4:w14.cell? ⟨gb102,4,none⟩=some (.slice A0_4 l0_4.length c0_4):=(kc BK102.out 4).trans rfl;have hfz15_0:=kf BK102.out 0;have hfz15_1:=kf BK102.out 1;have hfz15_2:=kf BK102.out 2;have hfz15_3:=kf BK102.out 3;have hfz15_4:=kf BK102.out 4)|((with_reducible refine gcl (f:=26) rfl ?_);refine goesL_ (some 8) rfl rfl Tryd.func26 (by kernel_rfl) rfl #[.agg #[.string a0_0,.int .i64 a0_1,.int .i64 a0_2,.string a0_3],.int .i64 a1] rfl (by (try simp only [zA,zC,zN]);first|done|rfl|(simp only [zM,zL];rfl)) ?_;(with_reducible refine (laws_szItem.calls a0_0 a0_1 a0_2 a0_3 a1 t103 _ A3.out).mono ?_);rintro e w16 ⟨rfl,hb⟩;refine ⟨_,rfl,?_⟩;have n0_:=AsZ.mk (kb (g:=gb102) (o := .cells #[.string a0_0,.int .i64 a0_1,.int .i64 a0_2,.string a0_3,.slice A0_4 l0_4.length c0_4] 113 (0,0)) (by (with_reducible repeat (first|refine kdN ?_ _|refine kd ?_|refine ka ?_ _));exact BK102.out) hb);have n1_:=AsZ.mk (bwp (by repeat (first|(with_reducible first|exact HB.out|apply bwa|apply pbN|apply bw1|refine bws ?_ GE102.out)|exact HB.out)) hb);clear BK102;clear HB;have BK102:=n0_;have HB:=n1_;clear n0_ n1_;(try clear hb);(try clear hb2);(try clear hk);(try clear hi);have hcz17_0:w16.cell? ⟨gb102,0,none⟩=some (.string a0_0):=(kc BK102.out 0).trans rfl;have hcz17_1:w16.cell? ⟨gb102,1,none⟩=some (.int .i64 a0_1):=(kc BK102.out 1).trans rfl;have hcz17_2:w16.cell? ⟨gb102,2,none⟩=some (.int .i64 a0_2):=(kc BK102.out 2).trans rfl;have hcz17_3:w16.cell? ⟨gb102,3,none⟩=some (.string a0_3):=(kc BK102.out 3).trans rfl;have hcz17_4:w16.cell? ⟨gb102,4,none⟩=some (.slice A0_4 l0_4.length c0_4):=(kc BK102.out 4).trans rfl;have hfz17_0:=kf BK102.out 0;have hfz17_1:=kf BK102.out 1;have hfz17_2:=kf BK102.out 2;have hfz17_3:=kf BK102.out 3;have hfz17_4:=kf BK102.out 4)|((with_reducible refine gcl (f:=57) rfl ?_);refine goesL_ (some 14) rfl rfl Tryd.func57 (by kernel_rfl) rfl #[.slice A0_4 l0_4.length c0_4,.int .i64 t103] rfl (by (try simp only [zA,zC,zN]);first|done|rfl|(simp only [zM,zL];rfl)) ?_;(with_reducible refine (laws_szIntS.calls _ _ l0_4 t103 t104 _ ?side1 ?side2 A8.out).mono ?_);(case side1=>repeat (first|exact (Kd.C_below HR0_4.out HB.out)|(with_reducible refine Kd.C_alloc ?_ _)|(with_reducible refine Kd.C_drewN ?_ _)|(with_reducible refine Kd.C_drew ?_)));(case side2=>exact HC0_4.out);rintro e w' ⟨rfl,⟨nd,rfl⟩⟩;refine ⟨_,rfl,?_⟩))
 go_ret
 exact ⟨by first|rfl|(simp [errW_none,errW_some]<;>rfl)|(simp [*,errW_none,errW_some]<;>rfl),by repeat (first|(with_reducible first|exact HB.out|apply bwa|apply pbN|apply bw1|refine bws ?_ GE102.out)|exact HB.out)⟩
/-! ### laws_szTowerS: function 58 -/
def laws_szTowerS.l0:Nat→List (S113)→Int→Int→Option (Int)
  |0,_,_,_=>none
  |k + 1,x0,x1,x5=>if x5 < (x0.length:Int) then (if 0≤x5 then ((laws_szTower.f ((rd_T113 x0 x5).f0.f0) ((rd_T113 x0 x5).f0.f1) ((rd_T113 x0 x5).f0.f2) ((rd_T113 x0 x5).f0.f3) ((rd_T113 x0 x5).f1) x1).bind fun t106=>(if t106 < 0 then (some (-1)) else (laws_szTowerS.l0 k x0 t106 (wrap64 (x5 + 1))))) else (none)) else (some x1)
def laws_szTowerS.f (k:Nat) (l0:List (S113)) (a1:Int):Option (Int):=if (wrap64 (a1 - (l0.length:Int))) < 0 then (some (-1)) else (laws_szTowerS.l0 k l0 (wrap64 (a1 - (l0.length:Int))) 0)
theorem laws_szTowerS.mono_l:∀ k,(∀ y0 y1 y2,LeO (laws_szTowerS.l0 k y0 y1 y2) (laws_szTowerS.l0 (k + 1) y0 y1 y2))
  |0=>fun _ _ _ r h=>by simp [laws_szTowerS.l0] at h
  |k + 1=>by
    have ih0:=laws_szTowerS.mono_l k
    · intro y0 y1 y2
      unfold laws_szTowerS.l0
      repeat' first
      |(with_reducible exact ih0 _ _ _)
      |(with_reducible exact LeO.refl _)
      |(with_reducible exact LeO.none _)
      |(with_reducible refine LeO.ite ?_ ?_)
      |(with_reducible refine LeO.bind ?_ (fun _=>?_))
      |exact ih0 _ _ _
      |exact LeO.none _
      |refine LeO.ite ?_ ?_
      |refine LeO.bind ?_ (fun _=>?_)
theorem laws_szTowerS.mono:∀ a0 a1 k,LeO (laws_szTowerS.f k a0 a1) (laws_szTowerS.f (k + 1) a0 a1):=by
  intro a0 a1 k
  have ih0:=laws_szTowerS.mono_l k
  unfold laws_szTowerS.f
  repeat' first
      |(with_reducible exact ih0 _ _ _)
      |(with_reducible exact LeO.refl _)
      |(with_reducible exact LeO.none _)
      |(with_reducible refine LeO.ite ?_ ?_)
      |(with_reducible refine LeO.bind ?_ (fun _=>?_))
      |exact ih0 _ _ _
      |exact LeO.none _
      |refine LeO.ite ?_ ?_
      |refine LeO.bind ?_ (fun _=>?_)
set_option maxHeartbeats 8000000 in
set_option maxRecDepth 100000 in
theorem laws_szTowerS.calls (k:Nat) (A0:Option Addr) (c0:Nat) (l0:List (S113)) (a1:Int) (r:Int) (w:World) (hr0:Kd.C k113 w A0 l0.length l0) (hc0:l0.length≤c0) (h:laws_szTowerS.f k l0 a1=some r) :
    Calls Tryd.prog 58 #[.slice A0 l0.length c0,.int .i64 a1] w fun e w'=>e = .returned (.int .i64 r)∧Below w.heap.size w w':=by
 have hu113:=Tryd.underlying113
 have HR0:=AsZ.mk hr0
 have HC0:=AsZ.mk hc0
 clear hr0 hc0
 have HB:=AsZ.mk (Below.refl w.heap.size w)
 have H:(if (wrap64 (a1 - (l0.length:Int))) < 0 then (some (-1)) else (laws_szTowerS.l0 k l0 (wrap64 (a1 - (l0.length:Int))) 0))=some r:=h
 clear h
 by_cases c3:(wrap64 (a1 - (l0.length:Int))) < 0
 · rw [if_pos c3] at H
   have c3b0:decide ((wrap64 (a1 - (l0.length:Int))) < 0)=true:=zE c3
   clear c3
   obtain rfl:=zI H
   go_enter Tryd.func58,Tryd.ntmps58
   go_wp2
   go_ret
   exact ⟨by first|rfl|(simp [errW_none,errW_some]<;>rfl)|(simp [*,errW_none,errW_some]<;>rfl),by repeat (first|(with_reducible first|exact HB.out|apply bwa|apply pbN|apply bw1)|exact HB.out)⟩
 rw [if_neg c3] at H
 have c3b0:decide ((wrap64 (a1 - (l0.length:Int))) < 0)=false:=decide_eq_false c3
 clear c3
 have H':=AsZ.mk H
 clear H
 go_enter Tryd.func58,Tryd.ntmps58
 go_wp2
 go_loopg [1,5] k (fun kq v1 v5 w' => ∃ (x1_1:Int) (x5_1:Int),v1 = .int .i64 x1_1∧v5 = .int .i64 x5_1∧AsZ (laws_szTowerS.l0 kq l0 x1_1 x5_1=some r)∧AsZ (kq≤k)∧AsZ (Below w.heap.size w w'))
 case atStart=>exact ⟨(wrap64 (a1 - (l0.length:Int))),(0),(by first|rfl|(simp;done)|(simp [*];done)),(by first|rfl|(simp;done)|(simp [*];done)),H',⟨Nat.le_refl _⟩,⟨by repeat (first|(with_reducible first|exact HB.out|apply bwa|apply pbN|apply bw1)|exact HB.out)⟩⟩
 case round =>
  clear H'
  try clear p2
  try clear c3
  try clear c3b0
  obtain ⟨x1_1,x5_1,rfl,rfl,HA,HK1,HB⟩:=hrel
  cases gk with
  |zero=>exact absurd HA.out (by simp [laws_szTowerS.l0])
  |succ k1 =>
   have H:=HA.out
   clear HA
   simp only [laws_szTowerS.l0] at H
   by_cases c4:x5_1 < (l0.length:Int)
   rotate_left
   · rw [if_neg c4] at H
     have c4b0:decide (x5_1 < (l0.length:Int))=false:=decide_eq_false c4
     clear c4
     obtain rfl:=zI H
     go_wp2
     go_ret
     exact ⟨by first|rfl|(simp [errW_none,errW_some]<;>rfl)|(simp [*,errW_none,errW_some]<;>rfl),by repeat (first|(with_reducible first|exact HB.out|apply bwa|apply pbN|apply bw1)|exact HB.out)⟩
   rw [if_pos c4] at H
   have c4b0:decide (x5_1 < (l0.length:Int))=true:=zE c4
   clear c4
   by_cases c5:0≤x5_1
   rotate_left
   · rw [if_neg c5] at H
     exact absurd H (by simp)
   rw [if_pos c5] at H
   have c5b0:decide (0≤x5_1)=true:=zE c5
   clear c5
   replace H:=Option.bind_eq_some_iff.mp H
   obtain ⟨t106,A60,H⟩:=H
   replace H:(if t106 < 0 then (some (-1)) else (laws_szTowerS.l0 k1 l0 t106 (wrap64 (x5_1 + 1))))=some r:=H
   have A6:=AsZ.mk A60
   clear A60
   by_cases c7:t106 < 0
   · rw [if_pos c7] at H
     have c7b0:decide (t106 < 0)=true:=zE c7
     clear c7
     obtain rfl:=zI H
     have p105:0≤(x5_1:Int):=zD (by first|(with_reducible assumption)|assumption)
     have q105:x5_1 < (l0.length:Int):=zD (by first|(with_reducible assumption)|assumption)
     obtain ⟨ad105,A105_4,c105_4,e105,hx105_0,hx105_1,hx105_2,hx105_3,hx105_4,hl105_4,hi105_4⟩:=at_T113 HR0.out x5_1 p105 q105
     cases e105
     replace hx105_0:=(HB.out.cell (zB w _ hx105_0)).trans hx105_0
     replace hx105_1:=(HB.out.cell (zB w _ hx105_1)).trans hx105_1
     replace hx105_2:=(HB.out.cell (zB w _ hx105_2)).trans hx105_2
     replace hx105_3:=(HB.out.cell (zB w _ hx105_3)).trans hx105_3
     replace hx105_4:=(HB.out.cell (zB w _ hx105_4)).trans hx105_4
     have HR105_4:=AsZ.mk hi105_4
     have HC105_4:=AsZ.mk hl105_4
     clear hi105_4 hl105_4
     replace p105:=eq_true p105
     replace q105:=eq_true q105
     go_wp2_with (first|((with_reducible refine gcl (f:=90) rfl ?_);refine goesL_ (some 23) rfl rfl Tryd.func90 (by kernel_rfl) rfl #[.agg #[.string ((rd_T113 l0 x5_1).f0.f0),.int .i64 ((rd_T113 l0 x5_1).f0.f1),.int .i64 ((rd_T113 l0 x5_1).f0.f2),.string ((rd_T113 l0 x5_1).f0.f3),.slice A105_4 ((rd_T113 l0 x5_1).f1).length c105_4],.int .i64 x1_1] rfl (by (try simp only [zA,zC,zN]);first|done|rfl|(simp only [zM,zL];rfl)) ?_;(with_reducible refine (laws_szTower.calls ((rd_T113 l0 x5_1).f0.f0) ((rd_T113 l0 x5_1).f0.f1) ((rd_T113 l0 x5_1).f0.f2) ((rd_T113 l0 x5_1).f0.f3) _ _ ((rd_T113 l0 x5_1).f1) x1_1 t106 _ ?side1 ?side2 A6.out).mono ?_);(case side1=>repeat (first|exact (Kd.C_below HR105_4.out HB.out)|(with_reducible refine Kd.C_alloc ?_ _)|(with_reducible refine Kd.C_drewN ?_ _)|(with_reducible refine Kd.C_drew ?_)));(case side2=>exact HC105_4.out);rintro e w8 ⟨rfl,hb⟩;refine ⟨_,rfl,?_⟩;have n0_:=AsZ.mk (bwp (by repeat (first|(with_reducible first|exact HB.out|apply bwa|apply pbN|apply bw1)|exact HB.out)) hb);clear HB;have HB:=n0_;clear n0_;(try clear hb);(try clear hb2);(try clear hk);(try clear hi)))
     go_ret
     exact ⟨by first|rfl|(simp [errW_none,errW_some]<;>rfl)|(simp [*,errW_none,errW_some]<;>rfl),by repeat (first|(with_reducible first|exact HB.out|apply bwa|apply pbN|apply bw1)|exact HB.out)⟩
   rw [if_neg c7] at H
   have c7b0:decide (t106 < 0)=false:=decide_eq_false c7
   clear c7
   have H':=AsZ.mk H
   clear H
   have p105:0≤(x5_1:Int):=zD (by first|(with_reducible assumption)|assumption)
   have q105:x5_1 < (l0.length:Int):=zD (by first|(with_reducible assumption)|assumption)
   obtain ⟨ad105,A105_4,c105_4,e105,hx105_0,hx105_1,hx105_2,hx105_3,hx105_4,hl105_4,hi105_4⟩:=at_T113 HR0.out x5_1 p105 q105
   cases e105
   replace hx105_0:=(HB.out.cell (zB w _ hx105_0)).trans hx105_0
   replace hx105_1:=(HB.out.cell (zB w _ hx105_1)).trans hx105_1
   replace hx105_2:=(HB.out.cell (zB w _ hx105_2)).trans hx105_2
   replace hx105_3:=(HB.out.cell (zB w _ hx105_3)).trans hx105_3
   replace hx105_4:=(HB.out.cell (zB w _ hx105_4)).trans hx105_4
   have HR105_4:=AsZ.mk hi105_4
   have HC105_4:=AsZ.mk hl105_4
   clear hi105_4 hl105_4
   replace p105:=eq_true p105
   replace q105:=eq_true q105
   go_wp2_with (first|((with_reducible refine gcl (f:=90) rfl ?_);refine goesL_ (some 23) rfl rfl Tryd.func90 (by kernel_rfl) rfl #[.agg #[.string ((rd_T113 l0 x5_1).f0.f0),.int .i64 ((rd_T113 l0 x5_1).f0.f1),.int .i64 ((rd_T113 l0 x5_1).f0.f2),.string ((rd_T113 l0 x5_1).f0.f3),.slice A105_4 ((rd_T113 l0 x5_1).f1).length c105_4],.int .i64 x1_1] rfl (by (try simp only [zA,zC,zN]);first|done|rfl|(simp only [zM,zL];rfl)) ?_;(with_reducible refine (laws_szTower.calls ((rd_T113 l0 x5_1).f0.f0) ((rd_T113 l0 x5_1).f0.f1) ((rd_T113 l0 x5_1).f0.f2) ((rd_T113 l0 x5_1).f0.f3) _ _ ((rd_T113 l0 x5_1).f1) x1_1 t106 _ ?side1 ?side2 A6.out).mono ?_);(case side1=>repeat (first|exact (Kd.C_below HR105_4.out HB.out)|(with_reducible refine Kd.C_alloc ?_ _)|(with_reducible refine Kd.C_drewN ?_ _)|(with_reducible refine Kd.C_drew ?_)));(case side2=>exact HC105_4.out);rintro e w9 ⟨rfl,hb⟩;refine ⟨_,rfl,?_⟩;have n0_:=AsZ.mk (bwp (by repeat (first|(with_reducible first|exact HB.out|apply bwa|apply pbN|apply bw1)|exact HB.out)) hb);clear HB;have HB:=n0_;clear n0_;(try clear hb);(try clear hb2);(try clear hk);(try clear hi)))
   go_roundg k1
   case measure=>have:=HK1.out;omega
   case rel=>exact ⟨(t106),(wrap64 (x5_1 + 1)),(by first|rfl|(simp;done)|(simp [*];done)),(by first|rfl|(simp;done)|(simp [*];done)),H',⟨by have:=HK1.out;omega⟩,⟨by repeat (first|(with_reducible first|exact HB.out|apply bwa|apply pbN|apply bw1)|exact HB.out)⟩⟩
/-! ### laws_szSkip: function 18 -/
def laws_szSkip.f (k:Nat) (l0_0:List Int) (l0_1:List (S113)) (a1:Int):Option (Int):=(laws_szIntS.f l0_0 a1).bind fun t108=>(if t108 < 0 then (some (-1)) else ((laws_szTowerS.f k l0_1 t108).bind fun t109=>(if t109 < 0 then (some (-1)) else (some t109))))
theorem laws_szSkip.mono:∀ a0 a1 a2 k,LeO (laws_szSkip.f k a0 a1 a2) (laws_szSkip.f (k + 1) a0 a1 a2):=by
  intro a0 a1 a2 k
  unfold laws_szSkip.f
  repeat' first
      |(with_reducible exact laws_szTowerS.mono _ _ _)
      |(with_reducible exact LeO.refl _)
      |(with_reducible exact LeO.none _)
      |(with_reducible refine LeO.ite ?_ ?_)
      |(with_reducible refine LeO.bind ?_ (fun _=>?_))
      |exact laws_szTowerS.mono _ _ _
      |exact LeO.none _
      |refine LeO.ite ?_ ?_
      |refine LeO.bind ?_ (fun _=>?_)
set_option maxHeartbeats 8000000 in
set_option maxRecDepth 100000 in
theorem laws_szSkip.calls (k:Nat) (A0_0:Option Addr) (c0_0:Nat) (l0_0:List Int) (A0_1:Option Addr) (c0_1:Nat) (l0_1:List (S113)) (a1:Int) (r:Int) (w:World) (hr0_0:Kd.C (Kd.int .i64) w A0_0 l0_0.length l0_0) (hc0_0:l0_0.length≤c0_0) (hr0_1:Kd.C k113 w A0_1 l0_1.length l0_1) (hc0_1:l0_1.length≤c0_1) (h:laws_szSkip.f k l0_0 l0_1 a1=some r) :
    Calls Tryd.prog 18 #[.agg #[.slice A0_0 l0_0.length c0_0,.slice A0_1 l0_1.length c0_1],.int .i64 a1] w fun e w'=>e = .returned (.int .i64 r)∧Below w.heap.size w w':=by
 have hu43:=Tryd.underlying43
 have HR0_0:=AsZ.mk hr0_0
 have HC0_0:=AsZ.mk hc0_0
 clear hr0_0 hc0_0
 have HR0_1:=AsZ.mk hr0_1
 have HC0_1:=AsZ.mk hc0_1
 clear hr0_1 hc0_1
 have HB:=AsZ.mk (Below.refl w.heap.size w)
 have H:((laws_szIntS.f l0_0 a1).bind fun t108=>(if t108 < 0 then (some (-1)) else ((laws_szTowerS.f k l0_1 t108).bind fun t109=>(if t109 < 0 then (some (-1)) else (some t109)))))=some r:=h
 clear h
 replace H:=Option.bind_eq_some_iff.mp H
 obtain ⟨t108,A30,H⟩:=H
 replace H:(if t108 < 0 then (some (-1)) else ((laws_szTowerS.f k l0_1 t108).bind fun t109=>(if t109 < 0 then (some (-1)) else (some t109))))=some r:=H
 have A3:=AsZ.mk A30
 clear A30
 by_cases c4:t108 < 0
 · rw [if_pos c4] at H
   have c4b0:decide (t108 < 0)=true:=zE c4
   clear c4
   obtain rfl:=zI H
   go_enter Tryd.func18,Tryd.ntmps18
   go_wp2_with (first|((with_reducible refine gate_dst (N:=2) rfl ?_);refine box_event ?hg (N:=2) ?hd (cs:=#[.slice A0_0 l0_0.length c0_0,.slice A0_1 l0_1.length c0_1]) (t:=43) ?hr ?_;(case hd=>rfl);(case hg=>rfl);(case hr=>first|(go_simp;done)|(go_simp;rfl));intro gb107 hg w5 hbox hb;have n0_:=AsZ.mk (bwp (by repeat (first|(with_reducible first|exact HB.out|apply bwa|apply pbN|apply bw1)|exact HB.out)) hb);have n1_:=AsZ.mk (hbox);have n2_:=AsZ.mk ((by rw [hg];exact (bwz (by repeat (first|(with_reducible first|exact HB.out|apply bwa|apply pbN|apply bw1)|exact HB.out))):w.heap.size≤gb107));have n3_:=AsZ.mk ((by rw [hg];exact (bwz (by repeat (first|(with_reducible first|exact HB.out|apply bwa|apply pbN|apply bw1)|exact HB.out))):w.heap.size≤gb107));clear HB;have HB:=n0_;have BK107:=n1_;have GW107:=n2_;have GE107:=n3_;clear n0_ n1_ n2_ n3_;clear hb hbox hg;have hcz6_0:w5.cell? ⟨gb107,0,none⟩=some (.slice A0_0 l0_0.length c0_0):=(kc BK107.out 0).trans rfl;have hcz6_1:w5.cell? ⟨gb107,1,none⟩=some (.slice A0_1 l0_1.length c0_1):=(kc BK107.out 1).trans rfl;have hfz6_0:=kf BK107.out 0;have hfz6_1:=kf BK107.out 1)|((with_reducible refine gcl (f:=57) rfl ?_);refine goesL_ (some 8) rfl rfl Tryd.func57 (by kernel_rfl) rfl #[.slice A0_0 l0_0.length c0_0,.int .i64 a1] rfl (by (try simp only [zA,zC,zN]);first|done|rfl|(simp only [zM,zL];rfl)) ?_;(with_reducible refine (laws_szIntS.calls _ _ l0_0 a1 t108 _ ?side1 ?side2 A3.out).mono ?_);(case side1=>repeat (first|exact (Kd.C_below HR0_0.out HB.out)|(with_reducible refine Kd.C_alloc ?_ _)|(with_reducible refine Kd.C_drewN ?_ _)|(with_reducible refine Kd.C_drew ?_)));(case side2=>exact HC0_0.out);rintro e w' ⟨rfl,⟨nd,rfl⟩⟩;refine ⟨_,rfl,?_⟩))
   go_ret
   exact ⟨by first|rfl|(simp [errW_none,errW_some]<;>rfl)|(simp [*,errW_none,errW_some]<;>rfl),by repeat (first|(with_reducible first|exact HB.out|apply bwa|apply pbN|apply bw1|refine bws ?_ GE107.out)|exact HB.out)⟩
 rw [if_neg c4] at H
 have c4b0:decide (t108 < 0)=false:=decide_eq_false c4
 clear c4
 replace H:=Option.bind_eq_some_iff.mp H
 obtain ⟨t109,A70,H⟩:=H
 replace H:(if t109 < 0 then (some (-1)) else (some t109))=some r:=H
 have A7:=AsZ.mk A70
 clear A70
 by_cases c8:t109 < 0
 · rw [if_pos c8] at H
   have c8b0:decide (t109 < 0)=true:=zE c8
   clear c8
   obtain rfl:=zI H
   go_enter Tryd.func18,Tryd.ntmps18
   go_wp2_with (first|((with_reducible refine gate_dst (N:=2) rfl ?_);refine box_event ?hg (N:=2) ?hd (cs:=#[.slice A0_0 l0_0.length c0_0,.slice A0_1 l0_1.length c0_1]) (t:=43) ?hr ?_;(case hd=>rfl);(case hg=>rfl);(case hr=>first|(go_simp;done)|(go_simp;rfl));intro gb107 hg w9 hbox hb;have n0_:=AsZ.mk (bwp (by repeat (first|(with_reducible first|exact HB.out|apply bwa|apply pbN|apply bw1)|exact HB.out)) hb);have n1_:=AsZ.mk (hbox);have n2_:=AsZ.mk ((by rw [hg];exact (bwz (by repeat (first|(with_reducible first|exact HB.out|apply bwa|apply pbN|apply bw1)|exact HB.out))):w.heap.size≤gb107));have n3_:=AsZ.mk ((by rw [hg];exact (bwz (by repeat (first|(with_reducible first|exact HB.out|apply bwa|apply pbN|apply bw1)|exact HB.out))):w.heap.size≤gb107));clear HB;have HB:=n0_;have BK107:=n1_;have GW107:=n2_;have GE107:=n3_;clear n0_ n1_ n2_ n3_;clear hb hbox hg;have hcz10_0:w9.cell? ⟨gb107,0,none⟩=some (.slice A0_0 l0_0.length c0_0):=(kc BK107.out 0).trans rfl;have hcz10_1:w9.cell? ⟨gb107,1,none⟩=some (.slice A0_1 l0_1.length c0_1):=(kc BK107.out 1).trans rfl;have hfz10_0:=kf BK107.out 0;have hfz10_1:=kf BK107.out 1)|((with_reducible refine gcl (f:=57) rfl ?_);refine goesL_ (some 8) rfl rfl Tryd.func57 (by kernel_rfl) rfl #[.slice A0_0 l0_0.length c0_0,.int .i64 a1] rfl (by (try simp only [zA,zC,zN]);first|done|rfl|(simp only [zM,zL];rfl)) ?_;(with_reducible refine (laws_szIntS.calls _ _ l0_0 a1 t108 _ ?side1 ?side2 A3.out).mono ?_);(case side1=>repeat (first|exact (Kd.C_below HR0_0.out HB.out)|(with_reducible refine Kd.C_alloc ?_ _)|(with_reducible refine Kd.C_drewN ?_ _)|(with_reducible refine Kd.C_drew ?_)));(case side2=>exact HC0_0.out);rintro e w' ⟨rfl,⟨nd,rfl⟩⟩;refine ⟨_,rfl,?_⟩)|((with_reducible refine gcl (f:=58) rfl ?_);refine goesL_ (some 14) rfl rfl Tryd.func58 (by kernel_rfl) rfl #[.slice A0_1 l0_1.length c0_1,.int .i64 t108] rfl (by (try simp only [zA,zC,zN]);first|done|rfl|(simp only [zM,zL];rfl)) ?_;(with_reducible refine (laws_szTowerS.calls k _ _ l0_1 t108 t109 _ ?side1 ?side2 A7.out).mono ?_);(case side1=>repeat (first|exact (Kd.C_below HR0_1.out (by repeat (first|(with_reducible first|exact HB.out|apply bwa|apply pbN|apply bw1|refine bws ?_ GE107.out)|exact HB.out)))|(with_reducible refine Kd.C_alloc ?_ _)|(with_reducible refine Kd.C_drewN ?_ _)|(with_reducible refine Kd.C_drew ?_)));(case side2=>exact HC0_1.out);rintro e w11 ⟨rfl,hb⟩;refine ⟨_,rfl,?_⟩;have n0_:=AsZ.mk (kb (g:=gb107) (o := .cells #[.slice A0_0 l0_0.length c0_0,.slice A0_1 l0_1.length c0_1] 43 (0,0)) (by (with_reducible repeat (first|refine kdN ?_ _|refine kd ?_|refine ka ?_ _));exact BK107.out) hb);have n1_:=AsZ.mk (bwp (by repeat (first|(with_reducible first|exact HB.out|apply bwa|apply pbN|apply bw1|refine bws ?_ GE107.out)|exact HB.out)) hb);clear BK107;clear HB;have BK107:=n0_;have HB:=n1_;clear n0_ n1_;(try clear hb);(try clear hb2);(try clear hk);(try clear hi)))
   go_ret
   exact ⟨by first|rfl|(simp [errW_none,errW_some]<;>rfl)|(simp [*,errW_none,errW_some]<;>rfl),by repeat (first|(with_reducible first|exact HB.out|apply bwa|apply pbN|apply bw1|refine bws ?_ GE107.out)|exact HB.out)⟩
 rw [if_neg c8] at H
 have c8b0:decide (t109 < 0)=false:=decide_eq_false c8
 clear c8
 obtain rfl:=zI H
 go_enter Tryd.func18,Tryd.ntmps18
 go_wp2_with (first|((with_reducible refine gate_dst (N:=2) rfl ?_);refine box_event ?hg (N:=2) ?hd (cs:=#[.slice A0_0 l0_0.length c0_0,.slice A0_1 l0_1.length c0_1]) (t:=43) ?hr ?_;(case hd=>rfl);(case hg=>rfl);(case hr=>first|(go_simp;done)|(go_simp;rfl));intro gb107 hg w12 hbox hb;have n0_:=AsZ.mk (bwp (by repeat (first|(with_reducible first|exact HB.out|apply bwa|apply pbN|apply bw1)|exact HB.out)) hb);have n1_:=AsZ.mk (hbox);have n2_:=AsZ.mk ((by rw [hg];exact (bwz (by repeat (first|(with_reducible first|exact HB.out|apply bwa|apply pbN|apply bw1)|exact HB.out))):w.heap.size≤gb107));have n3_:=AsZ.mk ((by rw [hg];exact (bwz (by repeat (first|(with_reducible first|exact HB.out|apply bwa|apply pbN|apply bw1)|exact HB.out))):w.heap.size≤gb107));clear HB;have HB:=n0_;have BK107:=n1_;have GW107:=n2_;have GE107:=n3_;clear n0_ n1_ n2_ n3_;clear hb hbox hg;have hcz13_0:w12.cell? ⟨gb107,0,none⟩=some (.slice A0_0 l0_0.length c0_0):=(kc BK107.out 0).trans rfl;have hcz13_1:w12.cell? ⟨gb107,1,none⟩=some (.slice A0_1 l0_1.length c0_1):=(kc BK107.out 1).trans rfl;have hfz13_0:=kf BK107.out 0;have hfz13_1:=kf BK107.out 1)|((with_reducible refine gcl (f:=57) rfl ?_);refine goesL_ (some 8) rfl rfl Tryd.func57 (by kernel_rfl) rfl #[.slice A0_0 l0_0.length c0_0,.int .i64 a1] rfl (by (try simp only [zA,zC,zN]);first|done|rfl|(simp only [zM,zL];rfl)) ?_;(with_reducible refine (laws_szIntS.calls _ _ l0_0 a1 t108 _ ?side1 ?side2 A3.out).mono ?_);(case side1=>repeat (first|exact (Kd.C_below HR0_0.out HB.out)|(with_reducible refine Kd.C_alloc ?_ _)|(with_reducible refine Kd.C_drewN ?_ _)|(with_reducible refine Kd.C_drew ?_)));(case side2=>exact HC0_0.out);rintro e w' ⟨rfl,⟨nd,rfl⟩⟩;refine ⟨_,rfl,?_⟩)|((with_reducible refine gcl (f:=58) rfl ?_);refine goesL_ (some 14) rfl rfl Tryd.func58 (by kernel_rfl) rfl #[.slice A0_1 l0_1.length c0_1,.int .i64 t108] rfl (by (try simp only [zA,zC,zN]);first|done|rfl|(simp only [zM,zL];rfl)) ?_;(with_reducible refine (laws_szTowerS.calls k _ _ l0_1 t108 t109 _ ?side1 ?side2 A7.out).mono ?_);(case side1=>repeat (first|exact (Kd.C_below HR0_1.out (by repeat (first|(with_reducible first|exact HB.out|apply bwa|apply pbN|apply bw1|refine bws ?_ GE107.out)|exact HB.out)))|(with_reducible refine Kd.C_alloc ?_ _)|(with_reducible refine Kd.C_drewN ?_ _)|(with_reducible refine Kd.C_drew ?_)));(case side2=>exact HC0_1.out);rintro e w14 ⟨rfl,hb⟩;refine ⟨_,rfl,?_⟩;have n0_:=AsZ.mk (kb (g:=gb107) (o := .cells #[.slice A0_0 l0_0.length c0_0,.slice A0_1 l0_1.length c0_1] 43 (0,0)) (by (with_reducible repeat (first|refine kdN ?_ _|refine kd ?_|refine ka ?_ _));exact BK107.out) hb);have n1_:=AsZ.mk (bwp (by repeat (first|(with_reducible first|exact HB.out|apply bwa|apply pbN|apply bw1|refine bws ?_ GE107.out)|exact HB.out)) hb);clear BK107;clear HB;have BK107:=n0_;have HB:=n1_;clear n0_ n1_;(try clear hb);(try clear hb2);(try clear hk);(try clear hi)))
 go_ret
 exact ⟨by first|rfl|(simp [errW_none,errW_some]<;>rfl)|(simp [*,errW_none,errW_some]<;>rfl),by repeat (first|(with_reducible first|exact HB.out|apply bwa|apply pbN|apply bw1|refine bws ?_ GE107.out)|exact HB.out)⟩
/-! ### laws_toIntS: function 61 -/
def laws_toIntS.l0:Nat→List Int→List Int→Int→Option (List Int)
  |0,_,_,_=>none
  |k + 1,x0,x3,x4=>if x4 < (x0.length:Int) then (if 0≤x4 then (if x4 < (x3.length:Int) then (laws_toIntS.l0 k x0 (x3.set (x4:Int).toNat (rd x0 x4)) (wrap64 (x4 + 1))) else (none)) else (none)) else (some x3)
def laws_toIntS.f (k:Nat) (l0:List Int):Option (List Int):=if 0≤(l0.length:Int) then (if ((l0.length:Int):Int).toNat≤35184372088832 then (laws_toIntS.l0 k l0 (List.replicate ((l0.length:Int):Int).toNat 0) 0) else (none)) else (none)
theorem laws_toIntS.mono_l:∀ k,(∀ y0 y1 y2,LeO (laws_toIntS.l0 k y0 y1 y2) (laws_toIntS.l0 (k + 1) y0 y1 y2))
  |0=>fun _ _ _ r h=>by simp [laws_toIntS.l0] at h
  |k + 1=>by
    have ih0:=laws_toIntS.mono_l k
    · intro y0 y1 y2
      unfold laws_toIntS.l0
      repeat' first
      |(with_reducible exact ih0 _ _ _)
      |(with_reducible exact LeO.refl _)
      |(with_reducible exact LeO.none _)
      |(with_reducible refine LeO.ite ?_ ?_)
      |(with_reducible refine LeO.bind ?_ (fun _=>?_))
      |exact ih0 _ _ _
      |exact LeO.none _
      |refine LeO.ite ?_ ?_
      |refine LeO.bind ?_ (fun _=>?_)
theorem laws_toIntS.mono:∀ a0 k,LeO (laws_toIntS.f k a0) (laws_toIntS.f (k + 1) a0):=by
  intro a0 k
  have ih0:=laws_toIntS.mono_l k
  unfold laws_toIntS.f
  repeat' first
      |(with_reducible exact ih0 _ _ _)
      |(with_reducible exact LeO.refl _)
      |(with_reducible exact LeO.none _)
      |(with_reducible refine LeO.ite ?_ ?_)
      |(with_reducible refine LeO.bind ?_ (fun _=>?_))
      |exact ih0 _ _ _
      |exact LeO.none _
      |refine LeO.ite ?_ ?_
      |refine LeO.bind ?_ (fun _=>?_)
set_option maxHeartbeats 8000000 in
set_option maxRecDepth 100000 in
theorem laws_toIntS.calls (k:Nat) (A0:Option Addr) (c0:Nat) (l0:List Int) (r:List Int) (w:World) (hr0:Kd.C (Kd.int .i64) w A0 l0.length l0) (hc0:l0.length≤c0) (h:laws_toIntS.f k l0=some r) :
    Calls Tryd.prog 61 #[.slice A0 l0.length c0] w fun e w' => ∃ v0_:Value,e = .returned (v0_)∧Kd.R (Kd.int .i64) 3 w' w.heap.size (fun _=>True) v0_ r∧Below w.heap.size w w':=by
 have HR0:=AsZ.mk hr0
 have HC0:=AsZ.mk hc0
 clear hr0 hc0
 have HB:=AsZ.mk (Below.refl w.heap.size w)
 have H:(if 0≤(l0.length:Int) then (if ((l0.length:Int):Int).toNat≤35184372088832 then (laws_toIntS.l0 k l0 (List.replicate ((l0.length:Int):Int).toNat 0) 0) else (none)) else (none))=some r:=h
 clear h
 by_cases c2:0≤(l0.length:Int)
 rotate_left
 · rw [if_neg c2] at H
   exact absurd H (by simp)
 rw [if_pos c2] at H
 have c2b0:=eq_true c2
 have c2b1:decide (0≤(l0.length:Int))=true:=zE c2
 clear c2
 by_cases c3:((l0.length:Int):Int).toNat≤35184372088832
 rotate_left
 · rw [if_neg c3] at H
   exact absurd H (by simp)
 rw [if_pos c3] at H
 have c3b0:=eq_true c3
 have c3b1:decide (((l0.length:Int):Int).toNat≤35184372088832)=true:=zE c3
 clear c3
 obtain ⟨y110,hy110⟩:∃ y_:List Int,y_=(List.replicate ((l0.length:Int):Int).toNat 0):=⟨_,rfl⟩
 replace H:(laws_toIntS.l0 k l0 y110 0)=some r:=by first|(rw [hy110];with_reducible exact H)|(have H2_:=(Option.bind_some _ _).symm.trans H;rw [hy110];with_reducible exact H2_)|(have H2_:=(Option.bind_some _ _).symm.trans H;with_reducible exact H2_)|with_reducible exact H|(rw [hy110];exact H)|exact H
 have Ny110:=AsZ.mk hy110
 clear hy110
 have H':=AsZ.mk H
 clear H
 go_enter Tryd.func61,Tryd.ntmps61
 go_wp2_with (first|((with_reducible refine gate_dst (N:=7) rfl ?_);refine Kd.R_make (Kd.int .i64) _ 3 rfl (N:=7) rfl 23 _ _ rfl (l0.length:Int) rfl rfl Tryd.underlying23 (.int .i64 0) 8 info3 rfl (by decide) (by omega) 0 (ok:=fun _=>True) (okp:=fun _=>True) rfl (fun _ hk=>hk) trivial (zD (by first|(with_reducible assumption)|assumption)) (Nat.le_trans (Nat.mul_le_mul_right _ (zD (by first|(with_reducible assumption)|assumption):(l0.length:Int).toNat≤35184372088832)) (by omega)) (Below.refl _ _) (Nat.le_refl _) ?_;intro v111 w4 ho5 hb hg_ hnew_;clear hg_ hnew_;(first|rw [← Ny110.out] at ho5|(simp only [Int.reduceToNat] at ho5;rw [← Ny110.out] at ho5));have n0_:=AsZ.mk (Kd.R_lower ho5 (bwz (by repeat (first|(with_reducible first|exact HB.out|apply bwa|apply pbN|apply bw1)|exact HB.out))));have n1_:=AsZ.mk (bwp (by repeat (first|(with_reducible first|exact HB.out|apply bwa|apply pbN|apply bw1)|exact HB.out)) hb);clear HB;have HO112:=n0_;have HB:=n1_;clear n0_ n1_;clear hb ho5))
 go_loopg [4] k (fun kq v4 w' => ∃ (x3_1:List Int) (x4_1:Int),v4 = .int .i64 x4_1∧AsZ (laws_toIntS.l0 kq l0 x3_1 x4_1=some r)∧AsZ (kq≤k)∧AsZ (Kd.R (Kd.int .i64) 3 w' w.heap.size (fun _=>True) v111 x3_1)∧AsZ (Below w.heap.size w w'))
 case atStart=>exact ⟨(y110),(0),(by first|rfl|(simp;done)|(simp [*];done)),H',⟨Nat.le_refl _⟩,⟨by (with_reducible repeat (first|apply Kd.R_alloc|apply Kd.R_drewN|apply Kd.R_drew));exact HO112.out⟩,⟨by repeat (first|(with_reducible first|exact HB.out|apply bwa|apply pbN|apply bw1)|exact HB.out)⟩⟩
 case round =>
  clear H'
  try clear c2
  try clear c2b0
  try clear c2b1
  try clear p2
  try clear c3
  try clear c3b0
  try clear c3b1
  obtain ⟨x3_1,x4_1,rfl,HA,HK1,HO_3,HB⟩:=hrel
  cases gk with
  |zero=>exact absurd HA.out (by simp [laws_toIntS.l0])
  |succ k1 =>
   have H:=HA.out
   clear HA
   simp only [laws_toIntS.l0] at H
   by_cases c6:x4_1 < (l0.length:Int)
   rotate_left
   · rw [if_neg c6] at H
     have c6b0:decide (x4_1 < (l0.length:Int))=false:=decide_eq_false c6
     clear c6
     obtain rfl:=zI H
     go_wp2
     go_ret
     exact ⟨_,by first|rfl|(simp [errW_none,errW_some]<;>rfl)|(simp [*,errW_none,errW_some]<;>rfl),by (with_reducible repeat (first|apply Kd.R_alloc|apply Kd.R_drewN|apply Kd.R_drew));exact HO_3.out,by repeat (first|(with_reducible first|exact HB.out|apply bwa|apply pbN|apply bw1)|exact HB.out)⟩
   rw [if_pos c6] at H
   have c6b0:decide (x4_1 < (l0.length:Int))=true:=zE c6
   clear c6
   by_cases c7:0≤x4_1
   rotate_left
   · rw [if_neg c7] at H
     exact absurd H (by simp)
   rw [if_pos c7] at H
   have c7b0:decide (0≤x4_1)=true:=zE c7
   clear c7
   by_cases c8:x4_1 < (x3_1.length:Int)
   rotate_left
   · rw [if_neg c8] at H
     exact absurd H (by simp)
   rw [if_pos c8] at H
   have c8b0:decide (x4_1 < (x3_1.length:Int))=true:=zE c8
   clear c8
   obtain ⟨y114,hy114⟩:∃ y_:List Int,y_=(x3_1.set (x4_1:Int).toNat (rd l0 x4_1)):=⟨_,rfl⟩
   replace H:(laws_toIntS.l0 k1 l0 y114 (wrap64 (x4_1 + 1)))=some r:=by first|(rw [hy114];with_reducible exact H)|(have H2_:=(Option.bind_some _ _).symm.trans H;rw [hy114];with_reducible exact H2_)|(have H2_:=(Option.bind_some _ _).symm.trans H;with_reducible exact H2_)|with_reducible exact H|(rw [hy114];exact H)|exact H
   have Ny114:=AsZ.mk hy114
   clear hy114
   have H':=AsZ.mk H
   clear H
   have p113:0≤(x4_1:Int):=zD (by first|(with_reducible assumption)|assumption)
   have q113:x4_1 < (l0.length:Int):=zD (by first|(with_reducible assumption)|assumption)
   obtain ⟨ad113,e113,hx113_0⟩:=Kd.at_int HR0.out x4_1 p113 q113
   cases e113
   replace hx113_0:=(HB.out.cell (zB w _ hx113_0)).trans hx113_0
   replace p113:=eq_true p113
   replace q113:=eq_true q113
   have p9:0≤(x4_1:Int):=zD (by first|(with_reducible assumption)|assumption)
   have q9:(x4_1:Int) < ((x3_1.length:Int):Int):=zD (by first|(with_reducible assumption)|assumption)
   obtain ⟨go9,co9,eo9,gb9,gl9,cl9,HG9⟩:=Kd.R_form HO_3.out (by omega)
   (first|cases eo9|(injection eo9 with ea_ en_ ec_;(first|subst ea_|(injection ea_ with ea_;subst ea_));subst ec_;clear en_))
   have GB9:=AsZ.mk gb9
   have GG9:=AsZ.mk HG9
   clear gb9 gl9 HG9
   obtain ⟨hx9_0,hf9_0⟩:=Kd.R_celln 0 HO_3.out (x4_1:Int) p9 q9
   replace p9:=eq_true p9
   replace q9:=eq_true q9
   have HP10:=Kd.R_putg HO_3.out (x4_1:Int) (rd l0 x4_1)
   go_wp2_with (first|((with_reducible refine gate_store (t:=3) (p:=20) rfl ?_);refine store_event (t:=3) (p:=20) (v:=?vo_w11) (w1:=(wr.setCell ⟨go9,(x4_1:Int).toNat,none⟩ (.int .i64 (rd l0 x4_1)))) ?hg ?ho ?hn ?hr ?_;(case ho=>rfl);(case hg=>rfl);(case hn=>rfl);(case hr=>first|(go_simp;done)|(go_simp;rfl));intro w11 hw;have hg:wr.grownBy w11 (some go9):=(by rw [hw];exact HP10.2);have hp_:Kd.R (Kd.int .i64) 3 w11 w.heap.size (fun _=>True) (.slice (some ⟨go9,0,none⟩) x3_1.length co9) y114:=(by rw [hw,Ny114.out];exact HP10.1);clear HP10;have n0_:=AsZ.mk (hp_);have n1_:=AsZ.mk ((by rw [hw];exact bws (HB.out) GB9.out:Below w.heap.size w w11));clear HO_3;clear HB;have HO_3:=n0_;have HB:=n1_;clear n0_ n1_;clear hg hw hp_))
   go_roundg k1
   case measure=>have:=HK1.out;omega
   case rel=>exact ⟨(y114),(wrap64 (x4_1 + 1)),(by first|rfl|(simp;done)|(simp [*];done)),H',⟨by have:=HK1.out;omega⟩,⟨by (with_reducible repeat (first|apply Kd.R_alloc|apply Kd.R_drewN|apply Kd.R_drew));exact HO_3.out⟩,⟨by repeat (first|(with_reducible first|exact HB.out|apply bwa|apply pbN|apply bw1)|exact HB.out)⟩⟩
/-! ### laws_toItem: function 27 -/
def laws_toItem.f (a0_0:ByteArray) (a0_1:Int) (a0_2:Int) (a0_3:ByteArray):Option (ByteArray × Int × Int × ByteArray):=some (a0_0,a0_1,a0_2,a0_3)
set_option maxHeartbeats 8000000 in
set_option maxRecDepth 100000 in
theorem laws_toItem.calls (a0_0:ByteArray) (a0_1:Int) (a0_2:Int) (a0_3:ByteArray) (r1:ByteArray) (r2:Int) (r3:Int) (r4:ByteArray) (w:World) (h:laws_toItem.f a0_0 a0_1 a0_2 a0_3=some (r1,r2,r3,r4)) :
    Calls Tryd.prog 27 #[.agg #[.string a0_0,.int .i64 a0_1,.int .i64 a0_2,.string a0_3]] w fun e w'=>e = .returned (.agg #[.string r1,.int .i64 r2,.int .i64 r3,.string r4])∧Below w.heap.size w w':=by
 have hu51:=Tryd.underlying51
 have hu28:=Tryd.underlying28
 have HB:=AsZ.mk (Below.refl w.heap.size w)
 have H:(some (a0_0,a0_1,a0_2,a0_3))=some (r1,r2,r3,r4):=h
 clear h
 simp only [Option.some.injEq,Prod.mk.injEq] at H
 obtain ⟨rfl,rfl,rfl,rfl⟩:=H
 go_enter Tryd.func27,Tryd.ntmps27
 go_wp2_with (first|((with_reducible refine gate_dst (N:=1) rfl ?_);refine box_event ?hg (N:=1) ?hd (cs:=#[.string a0_0,.int .i64 a0_1,.int .i64 a0_2,.string a0_3]) (t:=51) ?hr ?_;(case hd=>rfl);(case hg=>rfl);(case hr=>first|(go_simp;done)|(go_simp;rfl));intro gb115 hg w2 hbox hb;have n0_:=AsZ.mk (bwp (by repeat (first|(with_reducible first|exact HB.out|apply bwa|apply pbN|apply bw1)|exact HB.out)) hb);have n1_:=AsZ.mk (hbox);have n2_:=AsZ.mk ((by rw [hg];exact (bwz (by repeat (first|(with_reducible first|exact HB.out|apply bwa|apply pbN|apply bw1)|exact HB.out))):w.heap.size≤gb115));have n3_:=AsZ.mk ((by rw [hg];exact (bwz (by repeat (first|(with_reducible first|exact HB.out|apply bwa|apply pbN|apply bw1)|exact HB.out))):w.heap.size≤gb115));clear HB;have HB:=n0_;have BK115:=n1_;have GW115:=n2_;have GE115:=n3_;clear n0_ n1_ n2_ n3_;clear hb hbox hg)|((with_reducible refine gate_dst (N:=2) rfl ?_);refine box_event ?hg (N:=2) ?hd (cs:=#[.string (⟨#[]⟩:ByteArray),.int .i64 0,.int .i64 0,.string (⟨#[]⟩:ByteArray)]) (t:=28) ?hr ?_;(case hd=>rfl);(case hg=>rfl);(case hr=>first|(go_simp;done)|(go_simp;rfl));intro gb116 hg w3 hbox hb;have n0_:=AsZ.mk (kb (g:=gb115) (o := .cells #[.string a0_0,.int .i64 a0_1,.int .i64 a0_2,.string a0_3] 51 (0,0)) (by (with_reducible repeat (first|refine kdN ?_ _|refine kd ?_|refine ka ?_ _));exact BK115.out) hb);have n1_:=AsZ.mk (bwp (by repeat (first|(with_reducible first|exact HB.out|apply bwa|apply pbN|apply bw1|refine bws ?_ GE115.out)|exact HB.out)) hb);have n2_:=AsZ.mk (hbox);have n3_:=AsZ.mk ((by rw [hg];exact (bwz (by repeat (first|(with_reducible first|exact HB.out|apply bwa|apply pbN|apply bw1|refine bws ?_ GE115.out)|exact HB.out))):w.heap.size≤gb116));have n4_:=AsZ.mk ((by rw [hg];exact (bwz (by repeat (first|(with_reducible first|exact HB.out|apply bwa|apply pbN|apply bw1|refine bws ?_ GE115.out)|exact HB.out))):w.heap.size≤gb116));have n5_:=AsZ.mk ((by rw [hg];exact Nat.ne_of_lt (blk_lt (g:=gb115) (o := .cells #[.string a0_0,.int .i64 a0_1,.int .i64 a0_2,.string a0_3] 51 (0,0)) (by (with_reducible repeat (first|refine kdN ?_ _|refine kd ?_|refine ka ?_ _));exact BK115.out)):gb115 ≠ gb116));have n6_:=AsZ.mk ((by rw [hg];exact Nat.ne_of_gt (blk_lt (g:=gb115) (o := .cells #[.string a0_0,.int .i64 a0_1,.int .i64 a0_2,.string a0_3] 51 (0,0)) (by (with_reducible repeat (first|refine kdN ?_ _|refine kd ?_|refine ka ?_ _));exact BK115.out)):gb116 ≠ gb115));clear BK115;clear HB;have BK115:=n0_;have HB:=n1_;have BK116:=n2_;have GW116:=n3_;have GE116:=n4_;have NB115_116:=n5_;have NB116_115:=n6_;clear n0_ n1_ n2_ n3_ n4_ n5_ n6_;clear hb hbox hg)|((with_reducible refine gate_dst (N:=3) rfl ?_);refine box_event ?hg (N:=3) ?hd (cs:=#[.string (⟨#[]⟩:ByteArray),.int .i64 0,.int .i64 0,.string (⟨#[]⟩:ByteArray)]) (t:=28) ?hr ?_;(case hd=>rfl);(case hg=>rfl);(case hr=>first|(go_simp;done)|(go_simp;rfl));intro gb117 hg w4 hbox hb;have n0_:=AsZ.mk (kb (g:=gb115) (o := .cells #[.string a0_0,.int .i64 a0_1,.int .i64 a0_2,.string a0_3] 51 (0,0)) (by (with_reducible repeat (first|refine kdN ?_ _|refine kd ?_|refine ka ?_ _));exact BK115.out) hb);have n1_:=AsZ.mk (kb (g:=gb116) (o := .cells #[.string (⟨#[]⟩:ByteArray),.int .i64 0,.int .i64 0,.string (⟨#[]⟩:ByteArray)] 28 (0,0)) (by (with_reducible repeat (first|refine kdN ?_ _|refine kd ?_|refine ka ?_ _));exact BK116.out) hb);have n2_:=AsZ.mk (bwp (by repeat (first|(with_reducible first|exact HB.out|apply bwa|apply pbN|apply bw1|refine bws ?_ GE115.out|refine bws ?_ GE116.out)|exact HB.out)) hb);have n3_:=AsZ.mk (hbox);have n4_:=AsZ.mk ((by rw [hg];exact (bwz (by repeat (first|(with_reducible first|exact HB.out|apply bwa|apply pbN|apply bw1|refine bws ?_ GE115.out|refine bws ?_ GE116.out)|exact HB.out))):w.heap.size≤gb117));have n5_:=AsZ.mk ((by rw [hg];exact (bwz (by repeat (first|(with_reducible first|exact HB.out|apply bwa|apply pbN|apply bw1|refine bws ?_ GE115.out|refine bws ?_ GE116.out)|exact HB.out))):w.heap.size≤gb117));have n6_:=AsZ.mk ((by rw [hg];exact Nat.ne_of_lt (blk_lt (g:=gb115) (o := .cells #[.string a0_0,.int .i64 a0_1,.int .i64 a0_2,.string a0_3] 51 (0,0)) (by (with_reducible repeat (first|refine kdN ?_ _|refine kd ?_|refine ka ?_ _));exact BK115.out)):gb115 ≠ gb117));have n7_:=AsZ.mk ((by rw [hg];exact Nat.ne_of_gt (blk_lt (g:=gb115) (o := .cells #[.string a0_0,.int .i64 a0_1,.int .i64 a0_2,.string a0_3] 51 (0,0)) (by (with_reducible repeat (first|refine kdN ?_ _|refine kd ?_|refine ka ?_ _));exact BK115.out)):gb117 ≠ gb115));have n8_:=AsZ.mk ((by rw [hg];exact Nat.ne_of_lt (blk_lt (g:=gb116) (o := .cells #[.string (⟨#[]⟩:ByteArray),.int .i64 0,.int .i64 0,.string (⟨#[]⟩:ByteArray)] 28 (0,0)) (by (with_reducible repeat (first|refine kdN ?_ _|refine kd ?_|refine ka ?_ _));exact BK116.out)):gb116 ≠ gb117));have n9_:=AsZ.mk ((by rw [hg];exact Nat.ne_of_gt (blk_lt (g:=gb116) (o := .cells #[.string (⟨#[]⟩:ByteArray),.int .i64 0,.int .i64 0,.string (⟨#[]⟩:ByteArray)] 28 (0,0)) (by (with_reducible repeat (first|refine kdN ?_ _|refine kd ?_|refine ka ?_ _));exact BK116.out)):gb117 ≠ gb116));clear BK115;clear BK116;clear HB;have BK115:=n0_;have BK116:=n1_;have HB:=n2_;have BK117:=n3_;have GW117:=n4_;have GE117:=n5_;have NB115_117:=n6_;have NB117_115:=n7_;have NB116_117:=n8_;have NB117_116:=n9_;clear n0_ n1_ n2_ n3_ n4_ n5_ n6_ n7_ n8_ n9_;clear hb hbox hg;have hnb5:=NB115_116.out;have hnc5:=NB116_115.out;have hnb6:=NB115_117.out;have hnc6:=NB117_115.out;have hcz7_0:w4.cell? ⟨gb115,0,none⟩=some (.string a0_0):=(kc BK115.out 0).trans rfl;have hcz7_1:w4.cell? ⟨gb115,1,none⟩=some (.int .i64 a0_1):=(kc BK115.out 1).trans rfl;have hcz7_2:w4.cell? ⟨gb115,2,none⟩=some (.int .i64 a0_2):=(kc BK115.out 2).trans rfl;have hcz7_3:w4.cell? ⟨gb115,3,none⟩=some (.string a0_3):=(kc BK115.out 3).trans rfl;have hfz7_0:=kf BK115.out 0;have hfz7_1:=kf BK115.out 1;have hfz7_2:=kf BK115.out 2;have hfz7_3:=kf BK115.out 3;have hnb8:=NB117_116.out;have hnc8:=NB116_117.out;have hcz9_0:w4.cell? ⟨gb117,0,none⟩=some (.string (⟨#[]⟩:ByteArray)):=(kc BK117.out 0).trans rfl;have hcz9_1:w4.cell? ⟨gb117,1,none⟩=some (.int .i64 0):=(kc BK117.out 1).trans rfl;have hcz9_2:w4.cell? ⟨gb117,2,none⟩=some (.int .i64 0):=(kc BK117.out 2).trans rfl;have hcz9_3:w4.cell? ⟨gb117,3,none⟩=some (.string (⟨#[]⟩:ByteArray)):=(kc BK117.out 3).trans rfl;have hfz9_0:=kf BK117.out 0;have hfz9_1:=kf BK117.out 1;have hfz9_2:=kf BK117.out 2;have hfz9_3:=kf BK117.out 3;have hcz10_0:w4.cell? ⟨gb116,0,none⟩=some (.string (⟨#[]⟩:ByteArray)):=(kc BK116.out 0).trans rfl;have hcz10_1:w4.cell? ⟨gb116,1,none⟩=some (.int .i64 0):=(kc BK116.out 1).trans rfl;have hcz10_2:w4.cell? ⟨gb116,2,none⟩=some (.int .i64 0):=(kc BK116.out 2).trans rfl;have hcz10_3:w4.cell? ⟨gb116,3,none⟩=some (.string (⟨#[]⟩:ByteArray)):=(kc BK116.out 3).trans rfl;have hfz10_0:=kf BK116.out 0;have hfz10_1:=kf BK116.out 1;have hfz10_2:=kf BK116.out 2;have hfz10_3:=kf BK116.out 3))
 refine bodyPost_ret (results_cell_row rfl _ _ gb116 28 #[.string a0_0,.int .i64 a0_1,.int .i64 a0_2,.string a0_3] (0,0) _ rfl (by (with_reducible repeat (first|refine kdN ?_ _|refine kd ?_|refine ka ?_ _));refine blk_put (cs:=#[.string a0_0,.int .i64 a0_1,.int .i64 a0_2,.string (⟨#[]⟩:ByteArray)]) ?_ 3 _ rfl;(with_reducible repeat (first|refine kdN ?_ _|refine kd ?_|refine ka ?_ _));refine blk_put (cs:=#[.string a0_0,.int .i64 a0_1,.int .i64 0,.string (⟨#[]⟩:ByteArray)]) ?_ 2 _ rfl;(with_reducible repeat (first|refine kdN ?_ _|refine kd ?_|refine ka ?_ _));refine blk_put (cs:=#[.string a0_0,.int .i64 0,.int .i64 0,.string (⟨#[]⟩:ByteArray)]) ?_ 1 _ rfl;(with_reducible repeat (first|refine kdN ?_ _|refine kd ?_|refine ka ?_ _));refine blk_put (cs:=#[.string (⟨#[]⟩:ByteArray),.int .i64 0,.int .i64 0,.string (⟨#[]⟩:ByteArray)]) ?_ 0 _ rfl;(with_reducible repeat (first|refine kdN ?_ _|refine kd ?_|refine ka ?_ _));refine blk_far ?_ NB116_117.out _;(with_reducible repeat (first|refine kdN ?_ _|refine kd ?_|refine ka ?_ _));refine blk_far ?_ NB116_117.out _;(with_reducible repeat (first|refine kdN ?_ _|refine kd ?_|refine ka ?_ _));refine blk_far ?_ NB116_117.out _;(with_reducible repeat (first|refine kdN ?_ _|refine kd ?_|refine ka ?_ _));refine blk_far ?_ NB116_117.out _;(with_reducible repeat (first|refine kdN ?_ _|refine kd ?_|refine ka ?_ _));exact BK116.out) Tryd.underlying28 rfl (by kernel_rfl)) rfl ?_
 exact ⟨by first|rfl|(simp [errW_none,errW_some]<;>rfl)|(simp [*,errW_none,errW_some]<;>rfl),by repeat (first|(with_reducible first|exact HB.out|apply bwa|apply pbN|apply bw1|refine bws ?_ GE115.out|refine bws ?_ GE116.out|refine bws ?_ GE117.out)|exact HB.out)⟩
/-! ### laws_toTower: function 91 -/
def laws_toTower.f (k:Nat) (a0_0:ByteArray) (a0_1:Int) (a0_2:Int) (a0_3:ByteArray) (l0_4:List Int):Option (ByteArray × Int × Int × ByteArray × List Int):=(laws_toItem.f a0_0 a0_1 a0_2 a0_3).bind fun bt121=>((laws_toIntS.f k l0_4).bind fun t125=>(some (bt121.1,bt121.2.1,bt121.2.2.1,bt121.2.2.2,t125)))
theorem laws_toTower.mono:∀ a0 a1 a2 a3 a4 k,LeO (laws_toTower.f k a0 a1 a2 a3 a4) (laws_toTower.f (k + 1) a0 a1 a2 a3 a4):=by
  intro a0 a1 a2 a3 a4 k
  unfold laws_toTower.f
  repeat' first
      |(with_reducible exact laws_toIntS.mono _ _)
      |(with_reducible exact LeO.refl _)
      |(with_reducible exact LeO.none _)
      |(with_reducible refine LeO.ite ?_ ?_)
      |(with_reducible refine LeO.bind ?_ (fun _=>?_))
      |exact laws_toIntS.mono _ _
      |exact LeO.none _
      |refine LeO.ite ?_ ?_
      |refine LeO.bind ?_ (fun _=>?_)
set_option maxHeartbeats 8000000 in
set_option maxRecDepth 100000 in
theorem laws_toTower.calls (k:Nat) (a0_0:ByteArray) (a0_1:Int) (a0_2:Int) (a0_3:ByteArray) (A0_4:Option Addr) (c0_4:Nat) (l0_4:List Int) (r1:ByteArray) (r2:Int) (r3:Int) (r4:ByteArray) (r5:List Int) (w:World) (hr0_4:Kd.C (Kd.int .i64) w A0_4 l0_4.length l0_4) (hc0_4:l0_4.length≤c0_4) (h:laws_toTower.f k a0_0 a0_1 a0_2 a0_3 l0_4=some (r1,r2,r3,r4,r5)) :
    Calls Tryd.prog 91 #[.agg #[.string a0_0,.int .i64 a0_1,.int .i64 a0_2,.string a0_3,.slice A0_4 l0_4.length c0_4]] w fun e w' => ∃ v4_:Value,e = .returned (.agg #[.string r1,.int .i64 r2,.int .i64 r3,.string r4,v4_])∧Kd.R (Kd.int .i64) 3 w' w.heap.size (fun _=>True) v4_ r5∧Below w.heap.size w w':=by
 have hu113:=Tryd.underlying113
 have hu77:=Tryd.underlying77
 have hu51:=Tryd.underlying51
 have hu28:=Tryd.underlying28
 have HR0_4:=AsZ.mk hr0_4
 have HC0_4:=AsZ.mk hc0_4
 clear hr0_4 hc0_4
 have HB:=AsZ.mk (Below.refl w.heap.size w)
 have H:((laws_toItem.f a0_0 a0_1 a0_2 a0_3).bind fun bt121=>((laws_toIntS.f k l0_4).bind fun t125=>(some (bt121.1,bt121.2.1,bt121.2.2.1,bt121.2.2.2,t125))))=some (r1,r2,r3,r4,r5):=h
 clear h
 replace H:=Option.bind_eq_some_iff.mp H
 obtain ⟨⟨t121,t122,t123,t124⟩,A20,H⟩:=H
 replace H:((laws_toIntS.f k l0_4).bind fun t125=>(some (t121,t122,t123,t124,t125)))=some (r1,r2,r3,r4,r5):=H
 have A2:=AsZ.mk A20
 clear A20
 replace H:=Option.bind_eq_some_iff.mp H
 obtain ⟨t125,A30,H⟩:=H
 replace H:(some (t121,t122,t123,t124,t125))=some (r1,r2,r3,r4,r5):=H
 have A3:=AsZ.mk A30
 clear A30
 simp only [Option.some.injEq,Prod.mk.injEq] at H
 obtain ⟨rfl,rfl,rfl,rfl,rfl⟩:=H
 go_enter Tryd.func91,Tryd.ntmps91
 go_wp2_with (first|((with_reducible refine gate_dst (N:=1) rfl ?_);refine box_event ?hg (N:=1) ?hd (cs:=#[.string a0_0,.int .i64 a0_1,.int .i64 a0_2,.string a0_3,.slice A0_4 l0_4.length c0_4]) (t:=113) ?hr ?_;(case hd=>rfl);(case hg=>rfl);(case hr=>first|(go_simp;done)|(go_simp;rfl));intro gb118 hg w4 hbox hb;have n0_:=AsZ.mk (bwp (by repeat (first|(with_reducible first|exact HB.out|apply bwa|apply pbN|apply bw1)|exact HB.out)) hb);have n1_:=AsZ.mk (hbox);have n2_:=AsZ.mk ((by rw [hg];exact (bwz (by repeat (first|(with_reducible first|exact HB.out|apply bwa|apply pbN|apply bw1)|exact HB.out))):w.heap.size≤gb118));have n3_:=AsZ.mk ((by rw [hg];exact (bwz (by repeat (first|(with_reducible first|exact HB.out|apply bwa|apply pbN|apply bw1)|exact HB.out))):w.heap.size≤gb118));clear HB;have HB:=n0_;have BK118:=n1_;have GW118:=n2_;have GE118:=n3_;clear n0_ n1_ n2_ n3_;clear hb hbox hg)|((with_reducible refine gate_dst (N:=2) rfl ?_);refine box_event ?hg (N:=2) ?hd (cs:=#[.string (⟨#[]⟩:ByteArray),.int .i64 0,.int .i64 0,.string (⟨#[]⟩:ByteArray),.slice none 0 0]) (t:=77) ?hr ?_;(case hd=>rfl);(case hg=>rfl);(case hr=>first|(go_simp;done)|(go_simp;rfl));intro gb119 hg w5 hbox hb;have n0_:=AsZ.mk (kb (g:=gb118) (o := .cells #[.string a0_0,.int .i64 a0_1,.int .i64 a0_2,.string a0_3,.slice A0_4 l0_4.length c0_4] 113 (0,0)) (by (with_reducible repeat (first|refine kdN ?_ _|refine kd ?_|refine ka ?_ _));exact BK118.out) hb);have n1_:=AsZ.mk (bwp (by repeat (first|(with_reducible first|exact HB.out|apply bwa|apply pbN|apply bw1|refine bws ?_ GE118.out)|exact HB.out)) hb);have n2_:=AsZ.mk (hbox);have n3_:=AsZ.mk ((by rw [hg];exact (bwz (by repeat (first|(with_reducible first|exact HB.out|apply bwa|apply pbN|apply bw1|refine bws ?_ GE118.out)|exact HB.out))):w.heap.size≤gb119));have n4_:=AsZ.mk ((by rw [hg];exact (bwz (by repeat (first|(with_reducible first|exact HB.out|apply bwa|apply pbN|apply bw1|refine bws ?_ GE118.out)|exact HB.out))):w.heap.size≤gb119));have n5_:=AsZ.mk ((by rw [hg];exact Nat.ne_of_lt (blk_lt (g:=gb118) (o := .cells #[.string a0_0,.int .i64 a0_1,.int .i64 a0_2,.string a0_3,.slice A0_4 l0_4.length c0_4] 113 (0,0)) (by (with_reducible repeat (first|refine kdN ?_ _|refine kd ?_|refine ka ?_ _));exact BK118.out)):gb118 ≠ gb119));have n6_:=AsZ.mk ((by rw [hg];exact Nat.ne_of_gt (blk_lt (g:=gb118) (o := .cells #[.string a0_0,.int .i64 a0_1,.int .i64 a0_2,.string a0_3,.slice A0_4 l0_4.length c0_4] 113 (0,0)) (by (with_reducible repeat (first|refine kdN ?_ _|refine kd ?_|refine ka ?_ _));exact BK118.out)):gb119 ≠ gb118));clear BK118;clear HB;have BK118:=n0_;have HB:=n1_;have BK119:=n2_;have GW119:=n3_;have GE119:=n4_;have NB118_119:=n5_;have NB119_118:=n6_;clear n0_ n1_ n2_ n3_ n4_ n5_ n6_;clear hb hbox hg)|((with_reducible refine gate_dst (N:=3) rfl ?_);refine box_event ?hg (N:=3) ?hd (cs:=#[.string (⟨#[]⟩:ByteArray),.int .i64 0,.int .i64 0,.string (⟨#[]⟩:ByteArray),.slice none 0 0]) (t:=77) ?hr ?_;(case hd=>rfl);(case hg=>rfl);(case hr=>first|(go_simp;done)|(go_simp;rfl));intro gb120 hg w6 hbox hb;have n0_:=AsZ.mk (kb (g:=gb118) (o := .cells #[.string a0_0,.int .i64 a0_1,.int .i64 a0_2,.string a0_3,.slice A0_4 l0_4.length c0_4] 113 (0,0)) (by (with_reducible repeat (first|refine kdN ?_ _|refine kd ?_|refine ka ?_ _));exact BK118.out) hb);have n1_:=AsZ.mk (kb (g:=gb119) (o := .cells #[.string (⟨#[]⟩:ByteArray),.int .i64 0,.int .i64 0,.string (⟨#[]⟩:ByteArray),.slice none 0 0] 77 (0,0)) (by (with_reducible repeat (first|refine kdN ?_ _|refine kd ?_|refine ka ?_ _));exact BK119.out) hb);have n2_:=AsZ.mk (bwp (by repeat (first|(with_reducible first|exact HB.out|apply bwa|apply pbN|apply bw1|refine bws ?_ GE118.out|refine bws ?_ GE119.out)|exact HB.out)) hb);have n3_:=AsZ.mk (hbox);have n4_:=AsZ.mk ((by rw [hg];exact (bwz (by repeat (first|(with_reducible first|exact HB.out|apply bwa|apply pbN|apply bw1|refine bws ?_ GE118.out|refine bws ?_ GE119.out)|exact HB.out))):w.heap.size≤gb120));have n5_:=AsZ.mk ((by rw [hg];exact (bwz (by repeat (first|(with_reducible first|exact HB.out|apply bwa|apply pbN|apply bw1|refine bws ?_ GE118.out|refine bws ?_ GE119.out)|exact HB.out))):w.heap.size≤gb120));have n6_:=AsZ.mk ((by rw [hg];exact Nat.ne_of_lt (blk_lt (g:=gb118) (o := .cells #[.string a0_0,.int .i64 a0_1,.int .i64 a0_2,.string a0_3,.slice A0_4 l0_4.length c0_4] 113 (0,0)) (by (with_reducible repeat (first|refine kdN ?_ _|refine kd ?_|refine ka ?_ _));exact BK118.out)):gb118 ≠ gb120));have n7_:=AsZ.mk ((by rw [hg];exact Nat.ne_of_gt (blk_lt (g:=gb118) (o := .cells #[.string a0_0,.int .i64 a0_1,.int .i64 a0_2,.string a0_3,.slice A0_4 l0_4.length c0_4] 113 (0,0)) (by (with_reducible repeat (first|refine kdN ?_ _|refine kd ?_|refine ka ?_ _));exact BK118.out)):gb120 ≠ gb118));have n8_:=AsZ.mk ((by rw [hg];exact Nat.ne_of_lt (blk_lt (g:=gb119) (o := .cells #[.string (⟨#[]⟩:ByteArray),.int .i64 0,.int .i64 0,.string (⟨#[]⟩:ByteArray),.slice none 0 0] 77 (0,0)) (by (with_reducible repeat (first|refine kdN ?_ _|refine kd ?_|refine ka ?_ _));exact BK119.out)):gb119 ≠ gb120));have n9_:=AsZ.mk ((by rw [hg];exact Nat.ne_of_gt (blk_lt (g:=gb119) (o := .cells #[.string (⟨#[]⟩:ByteArray),.int .i64 0,.int .i64 0,.string (⟨#[]⟩:ByteArray),.slice none 0 0] 77 (0,0)) (by (with_reducible repeat (first|refine kdN ?_ _|refine kd ?_|refine ka ?_ _));exact BK119.out)):gb120 ≠ gb119));clear BK118;clear BK119;clear HB;have BK118:=n0_;have BK119:=n1_;have HB:=n2_;have BK120:=n3_;have GW120:=n4_;have GE120:=n5_;have NB118_120:=n6_;have NB120_118:=n7_;have NB119_120:=n8_;have NB120_119:=n9_;clear n0_ n1_ n2_ n3_ n4_ n5_ n6_ n7_ n8_ n9_;clear hb hbox hg;have hnb7:=NB118_119.out;have hnc7:=NB119_118.out;have hnb8:=NB118_120.out;have hnc8:=NB120_118.out;have hcz9_0:w6.cell? ⟨gb118,0,none⟩=some (.string a0_0):=(kc BK118.out 0).trans rfl;have hcz9_1:w6.cell? ⟨gb118,1,none⟩=some (.int .i64 a0_1):=(kc BK118.out 1).trans rfl;have hcz9_2:w6.cell? ⟨gb118,2,none⟩=some (.int .i64 a0_2):=(kc BK118.out 2).trans rfl;have hcz9_3:w6.cell? ⟨gb118,3,none⟩=some (.string a0_3):=(kc BK118.out 3).trans rfl;have hcz9_4:w6.cell? ⟨gb118,4,none⟩=some (.slice A0_4 l0_4.length c0_4):=(kc BK118.out 4).trans rfl;have hfz9_0:=kf BK118.out 0;have hfz9_1:=kf BK118.out 1;have hfz9_2:=kf BK118.out 2;have hfz9_3:=kf BK118.out 3;have hfz9_4:=kf BK118.out 4)|((with_reducible refine gcl (f:=27) rfl ?_);refine goesL_ (some 6) rfl rfl Tryd.func27 (by kernel_rfl) rfl #[.agg #[.string a0_0,.int .i64 a0_1,.int .i64 a0_2,.string a0_3]] rfl (by (try simp only [zA,zC,zN]);first|done|rfl|(simp only [zM,zL];rfl)) ?_;(with_reducible refine (laws_toItem.calls a0_0 a0_1 a0_2 a0_3 t121 t122 t123 t124 _ A2.out).mono ?_);rintro e w10 ⟨rfl,hb⟩;refine ⟨_,rfl,?_⟩;have n0_:=AsZ.mk (kb (g:=gb118) (o := .cells #[.string a0_0,.int .i64 a0_1,.int .i64 a0_2,.string a0_3,.slice A0_4 l0_4.length c0_4] 113 (0,0)) (by (with_reducible repeat (first|refine kdN ?_ _|refine kd ?_|refine ka ?_ _));exact BK118.out) hb);have n1_:=AsZ.mk (kb (g:=gb119) (o := .cells #[.string (⟨#[]⟩:ByteArray),.int .i64 0,.int .i64 0,.string (⟨#[]⟩:ByteArray),.slice none 0 0] 77 (0,0)) (by (with_reducible repeat (first|refine kdN ?_ _|refine kd ?_|refine ka ?_ _));exact BK119.out) hb);have n2_:=AsZ.mk (kb (g:=gb120) (o := .cells #[.string (⟨#[]⟩:ByteArray),.int .i64 0,.int .i64 0,.string (⟨#[]⟩:ByteArray),.slice none 0 0] 77 (0,0)) (by (with_reducible repeat (first|refine kdN ?_ _|refine kd ?_|refine ka ?_ _));exact BK120.out) hb);have n3_:=AsZ.mk (bwp (by repeat (first|(with_reducible first|exact HB.out|apply bwa|apply pbN|apply bw1|refine bws ?_ GE118.out|refine bws ?_ GE119.out|refine bws ?_ GE120.out)|exact HB.out)) hb);clear BK118;clear BK119;clear BK120;clear HB;have BK118:=n0_;have BK119:=n1_;have BK120:=n2_;have HB:=n3_;clear n0_ n1_ n2_ n3_;(try clear hb);(try clear hb2);(try clear hk);(try clear hi);have hnb11:=NB120_119.out;have hnc11:=NB119_120.out;have hcz12_0:w10.cell? ⟨gb120,0,none⟩=some (.string (⟨#[]⟩:ByteArray)):=(kc BK120.out 0).trans rfl;have hcz12_1:w10.cell? ⟨gb120,1,none⟩=some (.int .i64 0):=(kc BK120.out 1).trans rfl;have hcz12_2:w10.cell? ⟨gb120,2,none⟩=some (.int .i64 0):=(kc BK120.out 2).trans rfl;have hcz12_3:w10.cell? ⟨gb120,3,none⟩=some (.string (⟨#[]⟩:ByteArray)):=(kc BK120.out 3).trans rfl;have hcz12_4:w10.cell? ⟨gb120,4,none⟩=some (.slice none 0 0):=(kc BK120.out 4).trans rfl;have hfz12_0:=kf BK120.out 0;have hfz12_1:=kf BK120.out 1;have hfz12_2:=kf BK120.out 2;have hfz12_3:=kf BK120.out 3;have hfz12_4:=kf BK120.out 4;have hcz13_0:w10.cell? ⟨gb118,0,none⟩=some (.string a0_0):=(kc BK118.out 0).trans rfl;have hcz13_1:w10.cell? ⟨gb118,1,none⟩=some (.int .i64 a0_1):=(kc BK118.out 1).trans rfl;have hcz13_2:w10.cell? ⟨gb118,2,none⟩=some (.int .i64 a0_2):=(kc BK118.out 2).trans rfl;have hcz13_3:w10.cell? ⟨gb118,3,none⟩=some (.string a0_3):=(kc BK118.out 3).trans rfl;have hcz13_4:w10.cell? ⟨gb118,4,none⟩=some (.slice A0_4 l0_4.length c0_4):=(kc BK118.out 4).trans rfl;have hfz13_0:=kf BK118.out 0;have hfz13_1:=kf BK118.out 1;have hfz13_2:=kf BK118.out 2;have hfz13_3:=kf BK118.out 3;have hfz13_4:=kf BK118.out 4)|((with_reducible refine gcl (f:=61) rfl ?_);refine goesL_ (some 10) rfl rfl Tryd.func61 (by kernel_rfl) rfl #[.slice A0_4 l0_4.length c0_4] rfl (by (try simp only [zA,zC,zN]);first|done|rfl|(simp only [zM,zL];rfl)) ?_;(with_reducible refine (laws_toIntS.calls k _ _ l0_4 t125 _ ?side1 ?side2 A3.out).mono ?_);(case side1=>exact Kd.C_below HR0_4.out (by repeat (first|(with_reducible first|exact HB.out|apply bwa|apply pbN|apply bw1|refine bws ?_ GE118.out|refine bws ?_ GE119.out|refine bws ?_ GE120.out)|exact HB.out)));(case side2=>exact HC0_4.out);rintro e w14 ⟨v126,rfl,ho0,hb⟩;refine ⟨_,rfl,?_⟩;have n0_:=AsZ.mk (Kd.R_lower ho0 (bwz (by repeat (first|(with_reducible first|exact HB.out|apply bwa|apply pbN|apply bw1|refine bws ?_ GE118.out|refine bws ?_ GE119.out|refine bws ?_ GE120.out)|exact HB.out))));have n1_:=AsZ.mk (kb (g:=gb118) (o := .cells #[.string a0_0,.int .i64 a0_1,.int .i64 a0_2,.string a0_3,.slice A0_4 l0_4.length c0_4] 113 (0,0)) (by (with_reducible repeat (first|refine kdN ?_ _|refine kd ?_|refine ka ?_ _));refine blk_far ?_ NB118_120.out _;(with_reducible repeat (first|refine kdN ?_ _|refine kd ?_|refine ka ?_ _));refine blk_far ?_ NB118_120.out _;(with_reducible repeat (first|refine kdN ?_ _|refine kd ?_|refine ka ?_ _));refine blk_far ?_ NB118_120.out _;(with_reducible repeat (first|refine kdN ?_ _|refine kd ?_|refine ka ?_ _));refine blk_far ?_ NB118_120.out _;(with_reducible repeat (first|refine kdN ?_ _|refine kd ?_|refine ka ?_ _));exact BK118.out) hb);have n2_:=AsZ.mk (kb (g:=gb119) (o := .cells #[.string (⟨#[]⟩:ByteArray),.int .i64 0,.int .i64 0,.string (⟨#[]⟩:ByteArray),.slice none 0 0] 77 (0,0)) (by (with_reducible repeat (first|refine kdN ?_ _|refine kd ?_|refine ka ?_ _));refine blk_far ?_ NB119_120.out _;(with_reducible repeat (first|refine kdN ?_ _|refine kd ?_|refine ka ?_ _));refine blk_far ?_ NB119_120.out _;(with_reducible repeat (first|refine kdN ?_ _|refine kd ?_|refine ka ?_ _));refine blk_far ?_ NB119_120.out _;(with_reducible repeat (first|refine kdN ?_ _|refine kd ?_|refine ka ?_ _));refine blk_far ?_ NB119_120.out _;(with_reducible repeat (first|refine kdN ?_ _|refine kd ?_|refine ka ?_ _));exact BK119.out) hb);have n3_:=AsZ.mk (kb (g:=gb120) (o := .cells #[.string t121,.int .i64 t122,.int .i64 t123,.string t124,.slice none 0 0] 77 (0,0)) (by (with_reducible repeat (first|refine kdN ?_ _|refine kd ?_|refine ka ?_ _));refine blk_put (cs:=#[.string t121,.int .i64 t122,.int .i64 t123,.string (⟨#[]⟩:ByteArray),.slice none 0 0]) ?_ 3 _ rfl;(with_reducible repeat (first|refine kdN ?_ _|refine kd ?_|refine ka ?_ _));refine blk_put (cs:=#[.string t121,.int .i64 t122,.int .i64 0,.string (⟨#[]⟩:ByteArray),.slice none 0 0]) ?_ 2 _ rfl;(with_reducible repeat (first|refine kdN ?_ _|refine kd ?_|refine ka ?_ _));refine blk_put (cs:=#[.string t121,.int .i64 0,.int .i64 0,.string (⟨#[]⟩:ByteArray),.slice none 0 0]) ?_ 1 _ rfl;(with_reducible repeat (first|refine kdN ?_ _|refine kd ?_|refine ka ?_ _));refine blk_put (cs:=#[.string (⟨#[]⟩:ByteArray),.int .i64 0,.int .i64 0,.string (⟨#[]⟩:ByteArray),.slice none 0 0]) ?_ 0 _ rfl;(with_reducible repeat (first|refine kdN ?_ _|refine kd ?_|refine ka ?_ _));exact BK120.out) hb);have n4_:=AsZ.mk (bwp (by repeat (first|(with_reducible first|exact HB.out|apply bwa|apply pbN|apply bw1|refine bws ?_ GE118.out|refine bws ?_ GE119.out|refine bws ?_ GE120.out)|exact HB.out)) hb);clear BK118;clear BK119;clear BK120;clear HB;have HO127:=n0_;have BK118:=n1_;have BK119:=n2_;have BK120:=n3_;have HB:=n4_;clear n0_ n1_ n2_ n3_ n4_;(try clear hb);(try clear hb2);(try clear hk);(try clear hi);(try clear ho0);obtain ⟨Ao15,co15,eo15⟩:=Kd.R_slice HO127.out;subst eo15;have hcz16_0:w14.cell? ⟨gb120,0,none⟩=some (.string t121):=(kc BK120.out 0).trans rfl;have hcz16_1:w14.cell? ⟨gb120,1,none⟩=some (.int .i64 t122):=(kc BK120.out 1).trans rfl;have hcz16_2:w14.cell? ⟨gb120,2,none⟩=some (.int .i64 t123):=(kc BK120.out 2).trans rfl;have hcz16_3:w14.cell? ⟨gb120,3,none⟩=some (.string t124):=(kc BK120.out 3).trans rfl;have hcz16_4:w14.cell? ⟨gb120,4,none⟩=some (.slice none 0 0):=(kc BK120.out 4).trans rfl;have hfz16_0:=kf BK120.out 0;have hfz16_1:=kf BK120.out 1;have hfz16_2:=kf BK120.out 2;have hfz16_3:=kf BK120.out 3;have hfz16_4:=kf BK120.out 4;have hcz17_0:w14.cell? ⟨gb119,0,none⟩=some (.string (⟨#[]⟩:ByteArray)):=(kc BK119.out 0).trans rfl;have hcz17_1:w14.cell? ⟨gb119,1,none⟩=some (.int .i64 0):=(kc BK119.out 1).trans rfl;have hcz17_2:w14.cell? ⟨gb119,2,none⟩=some (.int .i64 0):=(kc BK119.out 2).trans rfl;have hcz17_3:w14.cell? ⟨gb119,3,none⟩=some (.string (⟨#[]⟩:ByteArray)):=(kc BK119.out 3).trans rfl;have hcz17_4:w14.cell? ⟨gb119,4,none⟩=some (.slice none 0 0):=(kc BK119.out 4).trans rfl;have hfz17_0:=kf BK119.out 0;have hfz17_1:=kf BK119.out 1;have hfz17_2:=kf BK119.out 2;have hfz17_3:=kf BK119.out 3;have hfz17_4:=kf BK119.out 4))
 refine bodyPost_ret (results_cell_row rfl _ _ gb119 77 #[.string t121,.int .i64 t122,.int .i64 t123,.string t124,.slice Ao15 t125.length co15] (0,0) _ rfl (by (with_reducible repeat (first|refine kdN ?_ _|refine kd ?_|refine ka ?_ _));refine blk_put (cs:=#[.string t121,.int .i64 t122,.int .i64 t123,.string t124,.slice none 0 0]) ?_ 4 _ rfl;(with_reducible repeat (first|refine kdN ?_ _|refine kd ?_|refine ka ?_ _));refine blk_put (cs:=#[.string t121,.int .i64 t122,.int .i64 t123,.string (⟨#[]⟩:ByteArray),.slice none 0 0]) ?_ 3 _ rfl;(with_reducible repeat (first|refine kdN ?_ _|refine kd ?_|refine ka ?_ _));refine blk_put (cs:=#[.string t121,.int .i64 t122,.int .i64 0,.string (⟨#[]⟩:ByteArray),.slice none 0 0]) ?_ 2 _ rfl;(with_reducible repeat (first|refine kdN ?_ _|refine kd ?_|refine ka ?_ _));refine blk_put (cs:=#[.string t121,.int .i64 0,.int .i64 0,.string (⟨#[]⟩:ByteArray),.slice none 0 0]) ?_ 1 _ rfl;(with_reducible repeat (first|refine kdN ?_ _|refine kd ?_|refine ka ?_ _));refine blk_put (cs:=#[.string (⟨#[]⟩:ByteArray),.int .i64 0,.int .i64 0,.string (⟨#[]⟩:ByteArray),.slice none 0 0]) ?_ 0 _ rfl;(with_reducible repeat (first|refine kdN ?_ _|refine kd ?_|refine ka ?_ _));refine blk_far ?_ NB119_120.out _;(with_reducible repeat (first|refine kdN ?_ _|refine kd ?_|refine ka ?_ _));exact BK119.out) Tryd.underlying77 rfl (by kernel_rfl)) rfl ?_
 exact ⟨_,by first|rfl|(simp [errW_none,errW_some]<;>rfl)|(simp [*,errW_none,errW_some]<;>rfl),by (with_reducible repeat (first|apply Kd.R_alloc|apply Kd.R_drewN|apply Kd.R_drew));exact Kd.R_mono (Kd.R_far (p:=⟨gb119,4,none⟩) (Kd.R_far (p:=⟨gb119,3,none⟩) (Kd.R_far (p:=⟨gb119,2,none⟩) (Kd.R_far (p:=⟨gb119,1,none⟩) (Kd.R_far (p:=⟨gb119,0,none⟩) (Kd.R_far (p:=⟨gb120,4,none⟩) (Kd.R_types (Kd.R_types HO127.out BK120.out (by decide)) BK119.out (by decide)) (fun _ hk=>hk.1.2) (.slice Ao15 t125.length co15)) (fun _ hk=>hk.2) (.string t121)) (fun _ hk=>hk.2) (.int .i64 t122)) (fun _ hk=>hk.2) (.int .i64 t123)) (fun _ hk=>hk.2) (.string t124)) (fun _ hk=>hk.2) (.slice Ao15 t125.length co15)) (fun _ hk=>trivial),by repeat (first|(with_reducible first|exact HB.out|apply bwa|apply pbN|apply bw1|refine bws ?_ GE118.out|refine bws ?_ GE119.out|refine bws ?_ GE120.out)|exact HB.out)⟩
/-! ### laws_toTowerS: function 62 -/
def laws_toTowerS.l0:Nat→List (S113)→List (S77)→Int→Option ((List (S77)))
  |0,_,_,_=>none
  |k + 1,x0,x3,x4=>if x4 < (x0.length:Int) then (if 0≤x4 then ((laws_toTower.f k ((rd_T113 x0 x4).f0.f0) ((rd_T113 x0 x4).f0.f1) ((rd_T113 x0 x4).f0.f2) ((rd_T113 x0 x4).f0.f3) ((rd_T113 x0 x4).f1)).bind fun bt132=>(if x4 < (x3.length:Int) then (laws_toTowerS.l0 k x0 (x3.set (x4:Int).toNat (⟨(⟨bt132.1,bt132.2.1,bt132.2.2.1,bt132.2.2.2.1⟩:S28),bt132.2.2.2.2⟩:S77)) (wrap64 (x4 + 1))) else (none))) else (none)) else (some x3)
def laws_toTowerS.f (k:Nat) (l0:List (S113)):Option ((List (S77))):=if 0≤(l0.length:Int) then (if ((l0.length:Int):Int).toNat≤3909374676536 then (laws_toTowerS.l0 k l0 (List.replicate ((l0.length:Int):Int).toNat z77) 0) else (none)) else (none)
theorem laws_toTowerS.mono_l:∀ k,(∀ y0 y1 y2,LeO (laws_toTowerS.l0 k y0 y1 y2) (laws_toTowerS.l0 (k + 1) y0 y1 y2))
  |0=>fun _ _ _ r h=>by simp [laws_toTowerS.l0] at h
  |k + 1=>by
    have ih0:=laws_toTowerS.mono_l k
    · intro y0 y1 y2
      unfold laws_toTowerS.l0
      repeat' first
      |(with_reducible exact ih0 _ _ _)
      |(with_reducible exact laws_toTower.mono _ _ _ _ _ _)
      |(with_reducible exact LeO.refl _)
      |(with_reducible exact LeO.none _)
      |(with_reducible refine LeO.ite ?_ ?_)
      |(with_reducible refine LeO.bind ?_ (fun _=>?_))
      |exact ih0 _ _ _
      |exact laws_toTower.mono _ _ _ _ _ _
      |exact LeO.none _
      |refine LeO.ite ?_ ?_
      |refine LeO.bind ?_ (fun _=>?_)
theorem laws_toTowerS.mono:∀ a0 k,LeO (laws_toTowerS.f k a0) (laws_toTowerS.f (k + 1) a0):=by
  intro a0 k
  have ih0:=laws_toTowerS.mono_l k
  unfold laws_toTowerS.f
  repeat' first
      |(with_reducible exact ih0 _ _ _)
      |(with_reducible exact laws_toTower.mono _ _ _ _ _ _)
      |(with_reducible exact LeO.refl _)
      |(with_reducible exact LeO.none _)
      |(with_reducible refine LeO.ite ?_ ?_)
      |(with_reducible refine LeO.bind ?_ (fun _=>?_))
      |exact ih0 _ _ _
      |exact laws_toTower.mono _ _ _ _ _ _
      |exact LeO.none _
      |refine LeO.ite ?_ ?_
      |refine LeO.bind ?_ (fun _=>?_)
set_option maxHeartbeats 8000000 in
set_option maxRecDepth 100000 in
theorem laws_toTowerS.calls (k:Nat) (A0:Option Addr) (c0:Nat) (l0:List (S113)) (r:List (S77)) (w:World) (hr0:Kd.C k113 w A0 l0.length l0) (hc0:l0.length≤c0) (h:laws_toTowerS.f k l0=some r) :
    Calls Tryd.prog 62 #[.slice A0 l0.length c0] w fun e w' => ∃ v0_:Value,e = .returned (v0_)∧Kd.S k77 77 w' w.heap.size (fun _=>True) v0_ r∧Below w.heap.size w w':=by
 have hu113:=Tryd.underlying113
 have hu77:=Tryd.underlying77
 have HR0:=AsZ.mk hr0
 have HC0:=AsZ.mk hc0
 clear hr0 hc0
 have HB:=AsZ.mk (Below.refl w.heap.size w)
 have H:(if 0≤(l0.length:Int) then (if ((l0.length:Int):Int).toNat≤3909374676536 then (laws_toTowerS.l0 k l0 (List.replicate ((l0.length:Int):Int).toNat z77) 0) else (none)) else (none))=some r:=h
 clear h
 by_cases c2:0≤(l0.length:Int)
 rotate_left
 · rw [if_neg c2] at H
   exact absurd H (by simp)
 rw [if_pos c2] at H
 have c2b0:=eq_true c2
 have c2b1:decide (0≤(l0.length:Int))=true:=zE c2
 clear c2
 by_cases c3:((l0.length:Int):Int).toNat≤3909374676536
 rotate_left
 · rw [if_neg c3] at H
   exact absurd H (by simp)
 rw [if_pos c3] at H
 have c3b0:=eq_true c3
 have c3b1:decide (((l0.length:Int):Int).toNat≤3909374676536)=true:=zE c3
 clear c3
 obtain ⟨y128,hy128⟩:∃ y_:List (S77),y_=(List.replicate ((l0.length:Int):Int).toNat z77):=⟨_,rfl⟩
 replace H:(laws_toTowerS.l0 k l0 y128 0)=some r:=by first|(rw [hy128];with_reducible exact H)|(have H2_:=(Option.bind_some _ _).symm.trans H;rw [hy128];with_reducible exact H2_)|(have H2_:=(Option.bind_some _ _).symm.trans H;with_reducible exact H2_)|with_reducible exact H|(rw [hy128];exact H)|exact H
 have Ny128:=AsZ.mk hy128
 clear hy128
 have H':=AsZ.mk H
 clear H
 go_enter Tryd.func62,Tryd.ntmps62
 go_wp2_with (first|((with_reducible refine gate_dst (N:=7) rfl ?_);refine Kd.S_make k77 _ 77 rfl (N:=7) rfl 24 _ _ rfl (l0.length:Int) rfl rfl Tryd.underlying24 (.agg #[(.string ⟨#[]⟩),(.int .i64 0),(.int .i64 0),(.string ⟨#[]⟩),(.slice none 0 0)]) 72 info77 rfl (by decide) (by omega) z77 (ok:=fun _=>True) (okp:=fun _=>True) (k77_mkM _ _ _ z77 (Kd.R_nil _ _ _ _ _)) (fun _ hk=>hk) trivial (zD (by first|(with_reducible assumption)|assumption)) (Nat.le_trans (Nat.mul_le_mul_right _ (zD (by first|(with_reducible assumption)|assumption):(l0.length:Int).toNat≤3909374676536)) (by omega)) (Below.refl _ _) (Nat.le_refl _) ?_;intro v129 w4 ho5 hb hg_ hnew_;clear hg_ hnew_;(first|rw [← Ny128.out] at ho5|(simp only [Int.reduceToNat] at ho5;rw [← Ny128.out] at ho5));have n0_:=AsZ.mk (Kd.S_lower ho5 (bwz (by repeat (first|(with_reducible first|exact HB.out|apply bwa|apply pbN|apply bw1)|exact HB.out))));have n1_:=AsZ.mk (bwp (by repeat (first|(with_reducible first|exact HB.out|apply bwa|apply pbN|apply bw1)|exact HB.out)) hb);clear HB;have HO130:=n0_;have HB:=n1_;clear n0_ n1_;clear hb ho5))
 go_loopg [4] k (fun kq v4 w' => ∃ (x3_1:List (S77)) (x4_1:Int),v4 = .int .i64 x4_1∧AsZ (laws_toTowerS.l0 kq l0 x3_1 x4_1=some r)∧AsZ (kq≤k)∧AsZ (Kd.S k77 77 w' w.heap.size (fun _=>True) v129 x3_1)∧AsZ (Below w.heap.size w w'))
 case atStart=>exact ⟨(y128),(0),(by first|rfl|(simp;done)|(simp [*];done)),H',⟨Nat.le_refl _⟩,⟨by (with_reducible repeat (first|apply Kd.S_alloc|apply Kd.S_drewN|apply Kd.S_drew));exact HO130.out⟩,⟨by repeat (first|(with_reducible first|exact HB.out|apply bwa|apply pbN|apply bw1)|exact HB.out)⟩⟩
 case round =>
  clear H'
  try clear c2
  try clear c2b0
  try clear c2b1
  try clear p2
  try clear c3
  try clear c3b0
  try clear c3b1
  obtain ⟨x3_1,x4_1,rfl,HA,HK1,HO_3,HB⟩:=hrel
  cases gk with
  |zero=>exact absurd HA.out (by simp [laws_toTowerS.l0])
  |succ k1 =>
   have H:=HA.out
   clear HA
   simp only [laws_toTowerS.l0] at H
   by_cases c6:x4_1 < (l0.length:Int)
   rotate_left
   · rw [if_neg c6] at H
     have c6b0:decide (x4_1 < (l0.length:Int))=false:=decide_eq_false c6
     clear c6
     obtain rfl:=zI H
     go_wp2
     go_ret
     exact ⟨_,by first|rfl|(simp [errW_none,errW_some]<;>rfl)|(simp [*,errW_none,errW_some]<;>rfl),by (with_reducible repeat (first|apply Kd.S_alloc|apply Kd.S_drewN|apply Kd.S_drew));exact HO_3.out,by repeat (first|(with_reducible first|exact HB.out|apply bwa|apply pbN|apply bw1)|exact HB.out)⟩
   rw [if_pos c6] at H
   have c6b0:decide (x4_1 < (l0.length:Int))=true:=zE c6
   clear c6
   by_cases c7:0≤x4_1
   rotate_left
   · rw [if_neg c7] at H
     exact absurd H (by simp)
   rw [if_pos c7] at H
   have c7b0:decide (0≤x4_1)=true:=zE c7
   clear c7
   replace H:=Option.bind_eq_some_iff.mp H
   obtain ⟨⟨t132,t133,t134,t135,t136⟩,A80,H⟩:=H
   replace H:(if x4_1 < (x3_1.length:Int) then (laws_toTowerS.l0 k1 l0 (x3_1.set (x4_1:Int).toNat (⟨(⟨t132,t133,t134,t135⟩:S28),t136⟩:S77)) (wrap64 (x4_1 + 1))) else (none))=some r:=H
   have A8:=AsZ.mk A80
   clear A80
   by_cases c9:x4_1 < (x3_1.length:Int)
   rotate_left
   · rw [if_neg c9] at H
     exact absurd H (by simp)
   rw [if_pos c9] at H
   have c9b0:decide (x4_1 < (x3_1.length:Int))=true:=zE c9
   clear c9
   obtain ⟨y139,hy139⟩:∃ y_:List (S77),y_=(x3_1.set (x4_1:Int).toNat (⟨(⟨t132,t133,t134,t135⟩:S28),t136⟩:S77)):=⟨_,rfl⟩
   replace H:(laws_toTowerS.l0 k1 l0 y139 (wrap64 (x4_1 + 1)))=some r:=by first|(rw [hy139];with_reducible exact H)|(have H2_:=(Option.bind_some _ _).symm.trans H;rw [hy139];with_reducible exact H2_)|(have H2_:=(Option.bind_some _ _).symm.trans H;with_reducible exact H2_)|with_reducible exact H|(rw [hy139];exact H)|exact H
   have Ny139:=AsZ.mk hy139
   clear hy139
   have H':=AsZ.mk H
   clear H
   have p131:0≤(x4_1:Int):=zD (by first|(with_reducible assumption)|assumption)
   have q131:x4_1 < (l0.length:Int):=zD (by first|(with_reducible assumption)|assumption)
   obtain ⟨ad131,A131_4,c131_4,e131,hx131_0,hx131_1,hx131_2,hx131_3,hx131_4,hl131_4,hi131_4⟩:=at_T113 HR0.out x4_1 p131 q131
   cases e131
   replace hx131_0:=(HB.out.cell (zB w _ hx131_0)).trans hx131_0
   replace hx131_1:=(HB.out.cell (zB w _ hx131_1)).trans hx131_1
   replace hx131_2:=(HB.out.cell (zB w _ hx131_2)).trans hx131_2
   replace hx131_3:=(HB.out.cell (zB w _ hx131_3)).trans hx131_3
   replace hx131_4:=(HB.out.cell (zB w _ hx131_4)).trans hx131_4
   have HR131_4:=AsZ.mk hi131_4
   have HC131_4:=AsZ.mk hl131_4
   clear hi131_4 hl131_4
   replace p131:=eq_true p131
   replace q131:=eq_true q131
   go_wp2_with (first|((with_reducible refine gcl (f:=91) rfl ?_);refine goesL_ (some 20) rfl rfl Tryd.func91 (by kernel_rfl) rfl #[.agg #[.string ((rd_T113 l0 x4_1).f0.f0),.int .i64 ((rd_T113 l0 x4_1).f0.f1),.int .i64 ((rd_T113 l0 x4_1).f0.f2),.string ((rd_T113 l0 x4_1).f0.f3),.slice A131_4 ((rd_T113 l0 x4_1).f1).length c131_4]] rfl (by (try simp only [zA,zC,zN]);first|done|rfl|(simp only [zM,zL];rfl)) ?_;(with_reducible refine (laws_toTower.calls k1 ((rd_T113 l0 x4_1).f0.f0) ((rd_T113 l0 x4_1).f0.f1) ((rd_T113 l0 x4_1).f0.f2) ((rd_T113 l0 x4_1).f0.f3) _ _ ((rd_T113 l0 x4_1).f1) t132 t133 t134 t135 t136 _ ?side1 ?side2 A8.out).mono ?_);(case side1=>repeat (first|exact (Kd.C_below HR131_4.out HB.out)|(with_reducible refine Kd.C_alloc ?_ _)|(with_reducible refine Kd.C_drewN ?_ _)|(with_reducible refine Kd.C_drew ?_)));(case side2=>exact HC131_4.out);rintro e w11 ⟨v137,rfl,ho0,hb⟩;refine ⟨_,rfl,?_⟩;have n0_:=AsZ.mk (Kd.S_elder' (by (with_reducible repeat (first|apply Kd.S_alloc|apply Kd.S_drewN|apply Kd.S_drew));exact HO_3.out) (Kd.R_base ho0) hb);have n1_:=AsZ.mk (Kd.R_lower ho0 (bwz (by repeat (first|(with_reducible first|exact HB.out|apply bwa|apply pbN|apply bw1)|exact HB.out))));have n2_:=AsZ.mk (bwp (by repeat (first|(with_reducible first|exact HB.out|apply bwa|apply pbN|apply bw1)|exact HB.out)) hb);clear HO_3;clear HB;have HO_3:=n0_;have HO138:=n1_;have HB:=n2_;clear n0_ n1_ n2_;(try clear hb);(try clear hb2);(try clear hk);(try clear hi);(try clear ho0);have p10:0≤(x4_1:Int):=zD (by first|(with_reducible assumption)|assumption);have q10:(x4_1:Int) < ((x3_1.length:Int):Int):=zD (by first|(with_reducible assumption)|assumption);obtain ⟨go10,co10,eo10,gb10,gl10,cl10,HG10⟩:=Kd.S_form HO_3.out (by omega);(first|cases eo10|(injection eo10 with ea_ en_ ec_;(first|subst ea_|(injection ea_ with ea_;subst ea_));subst ec_;clear en_));have GB10:=AsZ.mk gb10;have GG10:=AsZ.mk HG10;clear gb10 gl10 HG10;obtain ⟨_,ce10,hcl10,hM10,hcc10,hfr10,_,_⟩:=Kd.S_elem HO_3.out z77 (x4_1:Int) p10 q10;obtain ⟨ve10_4,rfl,ge10_4⟩:=k77_openM hM10;have hx10_0:w11.cell? ⟨go10,(x4_1:Int).toNat * 5,none⟩=some (.string ((rd_T77 x3_1 x4_1).f0.f0)):=hcc10 0 _ rfl;have hx10_1:w11.cell? ⟨go10,(x4_1:Int).toNat * 5 + 1,none⟩=some (.int .i64 ((rd_T77 x3_1 x4_1).f0.f1)):=hcc10 1 _ rfl;have hx10_2:w11.cell? ⟨go10,(x4_1:Int).toNat * 5 + 2,none⟩=some (.int .i64 ((rd_T77 x3_1 x4_1).f0.f2)):=hcc10 2 _ rfl;have hx10_3:w11.cell? ⟨go10,(x4_1:Int).toNat * 5 + 3,none⟩=some (.string ((rd_T77 x3_1 x4_1).f0.f3)):=hcc10 3 _ rfl;have hx10_4:w11.cell? ⟨go10,(x4_1:Int).toNat * 5 + 4,none⟩=some (ve10_4):=hcc10 4 _ rfl;have hf10_0:w11.frozen? ⟨go10,(x4_1:Int).toNat * 5,none⟩=false:=hfr10 0;have hf10_1:w11.frozen? ⟨go10,(x4_1:Int).toNat * 5 + 1,none⟩=false:=hfr10 1;have hf10_2:w11.frozen? ⟨go10,(x4_1:Int).toNat * 5 + 2,none⟩=false:=hfr10 2;have hf10_3:w11.frozen? ⟨go10,(x4_1:Int).toNat * 5 + 3,none⟩=false:=hfr10 3;have hf10_4:w11.frozen? ⟨go10,(x4_1:Int).toNat * 5 + 4,none⟩=false:=hfr10 4;clear hcl10 hcc10 hfr10 hM10;replace p10:=eq_true p10;replace q10:=eq_true q10;obtain ⟨Ao14,co14,eo14⟩:=Kd.R_slice HO138.out;subst eo14;have n_:=AsZ.mk (Kd.S_mono (ok':=(fun k_=>some k_ ≠ (.slice Ao14 t136.length co14:Value).ownBlock)) HO_3.out (fun k_ hk=>hk.2));clear HO_3;have HO_3:=n_;clear n_;have HX12:=AsZ.mk (show Kd.S k77 77 w11 w.heap.size (fun k_=>((fun _=>True)) k_ ∧ ¬ ((fun k_=>some k_=(.slice Ao14 t136.length co14:Value).ownBlock)) k_) (.slice (some ⟨go10,0,none⟩) x3_1.length co10) x3_1 from (by (with_reducible repeat (first|apply Kd.S_alloc|apply Kd.S_drewN|apply Kd.S_drew));exact Kd.S_mono HO_3.out (fun k_ hk=>⟨trivial,fun e_=>hk e_⟩)));obtain ⟨oki12,ce12,hcl12,hM12,hcc12,hfr12,hoki12,hH12⟩:=Kd.S_elem HX12.out z77 (x4_1:Int) (zD (by first|(with_reducible assumption)|assumption)) (by have h_:(x4_1:Int) < ((x3_1.length:Int):Int):=zD (by first|(with_reducible assumption)|assumption);first|exact h_|(have e_:=(Kd.S_reads' HO_3.out).1;omega)|simpa using h_);obtain ⟨ve12_4,rfl,ge12_4⟩:=k77_openM hM12;have HP12:=Kd.S_seg hH12 (zD (by first|(with_reducible assumption)|assumption)) (by have h_:(x4_1:Int) < ((x3_1.length:Int):Int):=zD (by first|(with_reducible assumption)|assumption);first|exact h_|(have e_:=(Kd.S_reads' HO_3.out).1;omega)|simpa using h_) (seg:=[.string t132,.int .i64 t133,.int .i64 t134,.string t135,.slice Ao14 t136.length co14]) (j:=0) (show 5≤5 from by decide) (x':=(⟨(⟨t132,t133,t134,t135⟩:S28),t136⟩:S77)) (k77_mkM _ _ _ (⟨(⟨t132,t133,t134,t135⟩:S28),t136⟩:S77) (Kd.R_mono (Kd.R_tight rfl (Kd.R_mono (ok':=fun k_=>((fun _=>True)) k_∧k_ ≠ go10) (Kd.R_apart' (HO138.out) (Kd.S_typed HO_3.out) (by decide)) (fun k_ hk=>⟨trivial,fun e_=>(hk.2) (by rw [e_];rfl)⟩))) (fun _ h_=>Or.inr (h_)))) (fun _ hk=>hk) (fun k_ hk_=>((Kd.R_mono (ok':=fun k_=>((fun _=>True)) k_∧k_ ≠ go10) (Kd.R_apart' (HO138.out) (Kd.S_typed HO_3.out) (by decide)) (fun k_ hk=>⟨trivial,fun e_=>(hk.2) (by rw [e_];rfl)⟩))).1 k_ hk_.symm);have hx12_0:=hcc12 0 _ rfl;(try simp only [show (k77).sz=5 from rfl,Nat.mul_one,Nat.add_zero] at hx12_0);have hf12_0:=hfr12 0;(try simp only [show (k77).sz=5 from rfl,Nat.mul_one,Nat.add_zero] at hf12_0);have hx12_1:=hcc12 1 _ rfl;(try simp only [show (k77).sz=5 from rfl,Nat.mul_one,Nat.add_zero] at hx12_1);have hf12_1:=hfr12 1;(try simp only [show (k77).sz=5 from rfl,Nat.mul_one,Nat.add_zero] at hf12_1);have hx12_2:=hcc12 2 _ rfl;(try simp only [show (k77).sz=5 from rfl,Nat.mul_one,Nat.add_zero] at hx12_2);have hf12_2:=hfr12 2;(try simp only [show (k77).sz=5 from rfl,Nat.mul_one,Nat.add_zero] at hf12_2);have hx12_3:=hcc12 3 _ rfl;(try simp only [show (k77).sz=5 from rfl,Nat.mul_one,Nat.add_zero] at hx12_3);have hf12_3:=hfr12 3;(try simp only [show (k77).sz=5 from rfl,Nat.mul_one,Nat.add_zero] at hf12_3);have hx12_4:=hcc12 4 _ rfl;(try simp only [show (k77).sz=5 from rfl,Nat.mul_one,Nat.add_zero] at hx12_4);have hf12_4:=hfr12 4;(try simp only [show (k77).sz=5 from rfl,Nat.mul_one,Nat.add_zero] at hf12_4);clear hcl12 hcc12 hfr12 hM12 hoki12 hH12)|((with_reducible refine gate_store (t:=77) (p:=21) rfl ?_);refine store_event (t:=77) (p:=21) (v:=?vo_w13) (w1:=(((((w11.setCell ⟨go10,(x4_1:Int).toNat * 5,none⟩ (.string t132)).setCell ⟨go10,(x4_1:Int).toNat * 5 + 1,none⟩ (.int .i64 t133)).setCell ⟨go10,(x4_1:Int).toNat * 5 + 2,none⟩ (.int .i64 t134)).setCell ⟨go10,(x4_1:Int).toNat * 5 + 3,none⟩ (.string t135)).setCell ⟨go10,(x4_1:Int).toNat * 5 + 4,none⟩ (.slice Ao14 t136.length co14))) ?hg ?ho ?hn ?hr ?_;(case ho=>rfl);(case hg=>rfl);(case hn=>rfl);(case hr=>first|(go_simp;done)|(go_simp;rfl));intro w13 hw;have hg:w11.grownBy w13 (some go10):=(by rw [hw];exact HP12.2);have hp_:Kd.S k77 77 w13 w.heap.size (fun _=>True) (.slice (some ⟨go10,0,none⟩) x3_1.length co10) y139:=(by rw [hw,Ny139.out];exact HP12.1);clear HP12;have n0_:=AsZ.mk (hp_);have n1_:=AsZ.mk ((by rw [hw];exact bws (bws (bws (bws (bws (HB.out) GB10.out) GB10.out) GB10.out) GB10.out) GB10.out:Below w.heap.size w w13));clear HO_3;clear HB;clear HO138;have HO_3:=n0_;have HB:=n1_;clear n0_ n1_;clear hg hw hp_))
   go_roundg k1
   case measure=>have:=HK1.out;omega
   case rel=>exact ⟨(y139),(wrap64 (x4_1 + 1)),(by first|rfl|(simp;done)|(simp [*];done)),H',⟨by have:=HK1.out;omega⟩,⟨by (with_reducible repeat (first|apply Kd.S_alloc|apply Kd.S_drewN|apply Kd.S_drew));exact HO_3.out⟩,⟨by repeat (first|(with_reducible first|exact HB.out|apply bwa|apply pbN|apply bw1)|exact HB.out)⟩⟩
/-! ### laws_toSkip: function 20 -/
def laws_toSkip.f (k:Nat) (l0_0:List Int) (l0_1:List (S113)):Option (List Int × (List (S77))):=(laws_toIntS.f k l0_0).bind fun t143=>((laws_toTowerS.f k l0_1).bind fun t146=>(some (t143,t146)))
theorem laws_toSkip.mono:∀ a0 a1 k,LeO (laws_toSkip.f k a0 a1) (laws_toSkip.f (k + 1) a0 a1):=by
  intro a0 a1 k
  unfold laws_toSkip.f
  repeat' first
      |(with_reducible exact laws_toIntS.mono _ _)
      |(with_reducible exact laws_toTowerS.mono _ _)
      |(with_reducible exact LeO.refl _)
      |(with_reducible exact LeO.none _)
      |(with_reducible refine LeO.ite ?_ ?_)
      |(with_reducible refine LeO.bind ?_ (fun _=>?_))
      |exact laws_toIntS.mono _ _
      |exact laws_toTowerS.mono _ _
      |exact LeO.none _
      |refine LeO.ite ?_ ?_
      |refine LeO.bind ?_ (fun _=>?_)
set_option maxHeartbeats 8000000 in
set_option maxRecDepth 100000 in
theorem laws_toSkip.calls (k:Nat) (A0_0:Option Addr) (c0_0:Nat) (l0_0:List Int) (A0_1:Option Addr) (c0_1:Nat) (l0_1:List (S113)) (r1:List Int) (r2:List (S77)) (w:World) (hr0_0:Kd.C (Kd.int .i64) w A0_0 l0_0.length l0_0) (hc0_0:l0_0.length≤c0_0) (hr0_1:Kd.C k113 w A0_1 l0_1.length l0_1) (hc0_1:l0_1.length≤c0_1) (h:laws_toSkip.f k l0_0 l0_1=some (r1,r2)) :
    Calls Tryd.prog 20 #[.agg #[.slice A0_0 l0_0.length c0_0,.slice A0_1 l0_1.length c0_1]] w fun e w' => ∃ v0_ v1_:Value,e = .returned (.agg #[v0_,v1_])∧Kd.R (Kd.int .i64) 3 w' w.heap.size (fun _=>True) v0_ r1∧Kd.S k77 77 w' w.heap.size (fun k_=>some k_ ≠ (v0_:Value).ownBlock) v1_ r2∧Below w.heap.size w w':=by
 have hu43:=Tryd.underlying43
 have hu26:=Tryd.underlying26
 have HR0_0:=AsZ.mk hr0_0
 have HC0_0:=AsZ.mk hc0_0
 clear hr0_0 hc0_0
 have HR0_1:=AsZ.mk hr0_1
 have HC0_1:=AsZ.mk hc0_1
 clear hr0_1 hc0_1
 have HB:=AsZ.mk (Below.refl w.heap.size w)
 have H:((laws_toIntS.f k l0_0).bind fun t143=>((laws_toTowerS.f k l0_1).bind fun t146=>(some (t143,t146))))=some (r1,r2):=h
 clear h
 replace H:=Option.bind_eq_some_iff.mp H
 obtain ⟨t143,A20,H⟩:=H
 replace H:((laws_toTowerS.f k l0_1).bind fun t146=>(some (t143,t146)))=some (r1,r2):=H
 have A2:=AsZ.mk A20
 clear A20
 replace H:=Option.bind_eq_some_iff.mp H
 obtain ⟨t146,A30,H⟩:=H
 replace H:(some (t143,t146))=some (r1,r2):=H
 have A3:=AsZ.mk A30
 clear A30
 simp only [Option.some.injEq,Prod.mk.injEq] at H
 obtain ⟨rfl,rfl⟩:=H
 go_enter Tryd.func20,Tryd.ntmps20
 go_wp2_with (first|((with_reducible refine gate_dst (N:=1) rfl ?_);refine box_event ?hg (N:=1) ?hd (cs:=#[.slice A0_0 l0_0.length c0_0,.slice A0_1 l0_1.length c0_1]) (t:=43) ?hr ?_;(case hd=>rfl);(case hg=>rfl);(case hr=>first|(go_simp;done)|(go_simp;rfl));intro gb140 hg w4 hbox hb;have n0_:=AsZ.mk (bwp (by repeat (first|(with_reducible first|exact HB.out|apply bwa|apply pbN|apply bw1)|exact HB.out)) hb);have n1_:=AsZ.mk (hbox);have n2_:=AsZ.mk ((by rw [hg];exact (bwz (by repeat (first|(with_reducible first|exact HB.out|apply bwa|apply pbN|apply bw1)|exact HB.out))):w.heap.size≤gb140));have n3_:=AsZ.mk ((by rw [hg];exact (bwz (by repeat (first|(with_reducible first|exact HB.out|apply bwa|apply pbN|apply bw1)|exact HB.out))):w.heap.size≤gb140));clear HB;have HB:=n0_;have BK140:=n1_;have GW140:=n2_;have GE140:=n3_;clear n0_ n1_ n2_ n3_;clear hb hbox hg)|((with_reducible refine gate_dst (N:=2) rfl ?_);refine box_event ?hg (N:=2) ?hd (cs:=#[.slice none 0 0,.slice none 0 0]) (t:=26) ?hr ?_;(case hd=>rfl);(case hg=>rfl);(case hr=>first|(go_simp;done)|(go_simp;rfl));intro gb141 hg w5 hbox hb;have n0_:=AsZ.mk (kb (g:=gb140) (o := .cells #[.slice A0_0 l0_0.length c0_0,.slice A0_1 l0_1.length c0_1] 43 (0,0)) (by (with_reducible repeat (first|refine kdN ?_ _|refine kd ?_|refine ka ?_ _));exact BK140.out) hb);have n1_:=AsZ.mk (bwp (by repeat (first|(with_reducible first|exact HB.out|apply bwa|apply pbN|apply bw1|refine bws ?_ GE140.out)|exact HB.out)) hb);have n2_:=AsZ.mk (hbox);have n3_:=AsZ.mk ((by rw [hg];exact (bwz (by repeat (first|(with_reducible first|exact HB.out|apply bwa|apply pbN|apply bw1|refine bws ?_ GE140.out)|exact HB.out))):w.heap.size≤gb141));have n4_:=AsZ.mk ((by rw [hg];exact (bwz (by repeat (first|(with_reducible first|exact HB.out|apply bwa|apply pbN|apply bw1|refine bws ?_ GE140.out)|exact HB.out))):w.heap.size≤gb141));have n5_:=AsZ.mk ((by rw [hg];exact Nat.ne_of_lt (blk_lt (g:=gb140) (o := .cells #[.slice A0_0 l0_0.length c0_0,.slice A0_1 l0_1.length c0_1] 43 (0,0)) (by (with_reducible repeat (first|refine kdN ?_ _|refine kd ?_|refine ka ?_ _));exact BK140.out)):gb140 ≠ gb141));have n6_:=AsZ.mk ((by rw [hg];exact Nat.ne_of_gt (blk_lt (g:=gb140) (o := .cells #[.slice A0_0 l0_0.length c0_0,.slice A0_1 l0_1.length c0_1] 43 (0,0)) (by (with_reducible repeat (first|refine kdN ?_ _|refine kd ?_|refine ka ?_ _));exact BK140.out)):gb141 ≠ gb140));clear BK140;clear HB;have BK140:=n0_;have HB:=n1_;have BK141:=n2_;have GW141:=n3_;have GE141:=n4_;have NB140_141:=n5_;have NB141_140:=n6_;clear n0_ n1_ n2_ n3_ n4_ n5_ n6_;clear hb hbox hg)|((with_reducible refine gate_dst (N:=3) rfl ?_);refine box_event ?hg (N:=3) ?hd (cs:=#[.slice none 0 0,.slice none 0 0]) (t:=26) ?hr ?_;(case hd=>rfl);(case hg=>rfl);(case hr=>first|(go_simp;done)|(go_simp;rfl));intro gb142 hg w6 hbox hb;have n0_:=AsZ.mk (kb (g:=gb140) (o := .cells #[.slice A0_0 l0_0.length c0_0,.slice A0_1 l0_1.length c0_1] 43 (0,0)) (by (with_reducible repeat (first|refine kdN ?_ _|refine kd ?_|refine ka ?_ _));exact BK140.out) hb);have n1_:=AsZ.mk (kb (g:=gb141) (o := .cells #[.slice none 0 0,.slice none 0 0] 26 (0,0)) (by (with_reducible repeat (first|refine kdN ?_ _|refine kd ?_|refine ka ?_ _));exact BK141.out) hb);have n2_:=AsZ.mk (bwp (by repeat (first|(with_reducible first|exact HB.out|apply bwa|apply pbN|apply bw1|refine bws ?_ GE140.out|refine bws ?_ GE141.out)|exact HB.out)) hb);have n3_:=AsZ.mk (hbox);have n4_:=AsZ.mk ((by rw [hg];exact (bwz (by repeat (first|(with_reducible first|exact HB.out|apply bwa|apply pbN|apply bw1|refine bws ?_ GE140.out|refine bws ?_ GE141.out)|exact HB.out))):w.heap.size≤gb142));have n5_:=AsZ.mk ((by rw [hg];exact (bwz (by repeat (first|(with_reducible first|exact HB.out|apply bwa|apply pbN|apply bw1|refine bws ?_ GE140.out|refine bws ?_ GE141.out)|exact HB.out))):w.heap.size≤gb142));have n6_:=AsZ.mk ((by rw [hg];exact Nat.ne_of_lt (blk_lt (g:=gb140) (o := .cells #[.slice A0_0 l0_0.length c0_0,.slice A0_1 l0_1.length c0_1] 43 (0,0)) (by (with_reducible repeat (first|refine kdN ?_ _|refine kd ?_|refine ka ?_ _));exact BK140.out)):gb140 ≠ gb142));have n7_:=AsZ.mk ((by rw [hg];exact Nat.ne_of_gt (blk_lt (g:=gb140) (o := .cells #[.slice A0_0 l0_0.length c0_0,.slice A0_1 l0_1.length c0_1] 43 (0,0)) (by (with_reducible repeat (first|refine kdN ?_ _|refine kd ?_|refine ka ?_ _));exact BK140.out)):gb142 ≠ gb140));have n8_:=AsZ.mk ((by rw [hg];exact Nat.ne_of_lt (blk_lt (g:=gb141) (o := .cells #[.slice none 0 0,.slice none 0 0] 26 (0,0)) (by (with_reducible repeat (first|refine kdN ?_ _|refine kd ?_|refine ka ?_ _));exact BK141.out)):gb141 ≠ gb142));have n9_:=AsZ.mk ((by rw [hg];exact Nat.ne_of_gt (blk_lt (g:=gb141) (o := .cells #[.slice none 0 0,.slice none 0 0] 26 (0,0)) (by (with_reducible repeat (first|refine kdN ?_ _|refine kd ?_|refine ka ?_ _));exact BK141.out)):gb142 ≠ gb141));clear BK140;clear BK141;clear HB;have BK140:=n0_;have BK141:=n1_;have HB:=n2_;have BK142:=n3_;have GW142:=n4_;have GE142:=n5_;have NB140_142:=n6_;have NB142_140:=n7_;have NB141_142:=n8_;have NB142_141:=n9_;clear n0_ n1_ n2_ n3_ n4_ n5_ n6_ n7_ n8_ n9_;clear hb hbox hg;have hnb7:=NB140_141.out;have hnc7:=NB141_140.out;have hnb8:=NB140_142.out;have hnc8:=NB142_140.out;have hcz9_0:w6.cell? ⟨gb140,0,none⟩=some (.slice A0_0 l0_0.length c0_0):=(kc BK140.out 0).trans rfl;have hcz9_1:w6.cell? ⟨gb140,1,none⟩=some (.slice A0_1 l0_1.length c0_1):=(kc BK140.out 1).trans rfl;have hfz9_0:=kf BK140.out 0;have hfz9_1:=kf BK140.out 1)|((with_reducible refine gcl (f:=61) rfl ?_);refine goesL_ (some 6) rfl rfl Tryd.func61 (by kernel_rfl) rfl #[.slice A0_0 l0_0.length c0_0] rfl (by (try simp only [zA,zC,zN]);first|done|rfl|(simp only [zM,zL];rfl)) ?_;(with_reducible refine (laws_toIntS.calls k _ _ l0_0 t143 _ ?side1 ?side2 A2.out).mono ?_);(case side1=>repeat (first|exact (Kd.C_below HR0_0.out HB.out)|(with_reducible refine Kd.C_alloc ?_ _)|(with_reducible refine Kd.C_drewN ?_ _)|(with_reducible refine Kd.C_drew ?_)));(case side2=>exact HC0_0.out);rintro e w10 ⟨v144,rfl,ho0,hb⟩;refine ⟨_,rfl,?_⟩;have n0_:=AsZ.mk (Kd.R_lower ho0 (bwz (by repeat (first|(with_reducible first|exact HB.out|apply bwa|apply pbN|apply bw1|refine bws ?_ GE140.out|refine bws ?_ GE141.out|refine bws ?_ GE142.out)|exact HB.out))));have n1_:=AsZ.mk (kb (g:=gb140) (o := .cells #[.slice A0_0 l0_0.length c0_0,.slice A0_1 l0_1.length c0_1] 43 (0,0)) (by (with_reducible repeat (first|refine kdN ?_ _|refine kd ?_|refine ka ?_ _));exact BK140.out) hb);have n2_:=AsZ.mk (kb (g:=gb141) (o := .cells #[.slice none 0 0,.slice none 0 0] 26 (0,0)) (by (with_reducible repeat (first|refine kdN ?_ _|refine kd ?_|refine ka ?_ _));exact BK141.out) hb);have n3_:=AsZ.mk (kb (g:=gb142) (o := .cells #[.slice none 0 0,.slice none 0 0] 26 (0,0)) (by (with_reducible repeat (first|refine kdN ?_ _|refine kd ?_|refine ka ?_ _));exact BK142.out) hb);have n4_:=AsZ.mk (bwp (by repeat (first|(with_reducible first|exact HB.out|apply bwa|apply pbN|apply bw1|refine bws ?_ GE140.out|refine bws ?_ GE141.out|refine bws ?_ GE142.out)|exact HB.out)) hb);clear BK140;clear BK141;clear BK142;clear HB;have HO145:=n0_;have BK140:=n1_;have BK141:=n2_;have BK142:=n3_;have HB:=n4_;clear n0_ n1_ n2_ n3_ n4_;(try clear hb);(try clear hb2);(try clear hk);(try clear hi);(try clear ho0);obtain ⟨Ao11,co11,eo11⟩:=Kd.R_slice HO145.out;subst eo11;have hnb12:=NB142_141.out;have hnc12:=NB141_142.out;have hcz13_0:w10.cell? ⟨gb142,0,none⟩=some (.slice none 0 0):=(kc BK142.out 0).trans rfl;have hcz13_1:w10.cell? ⟨gb142,1,none⟩=some (.slice none 0 0):=(kc BK142.out 1).trans rfl;have hfz13_0:=kf BK142.out 0;have hfz13_1:=kf BK142.out 1;have hcz14_0:w10.cell? ⟨gb140,0,none⟩=some (.slice A0_0 l0_0.length c0_0):=(kc BK140.out 0).trans rfl;have hcz14_1:w10.cell? ⟨gb140,1,none⟩=some (.slice A0_1 l0_1.length c0_1):=(kc BK140.out 1).trans rfl;have hfz14_0:=kf BK140.out 0;have hfz14_1:=kf BK140.out 1)|((with_reducible refine gcl (f:=62) rfl ?_);refine goesL_ (some 10) rfl rfl Tryd.func62 (by kernel_rfl) rfl #[.slice A0_1 l0_1.length c0_1] rfl (by (try simp only [zA,zC,zN]);first|done|rfl|(simp only [zM,zL];rfl)) ?_;(with_reducible refine (laws_toTowerS.calls k _ _ l0_1 t146 _ ?side1 ?side2 A3.out).mono ?_);(case side1=>exact Kd.C_below HR0_1.out (by repeat (first|(with_reducible first|exact HB.out|apply bwa|apply pbN|apply bw1|refine bws ?_ GE140.out|refine bws ?_ GE141.out|refine bws ?_ GE142.out)|exact HB.out)));(case side2=>exact HC0_1.out);rintro e w15 ⟨v147,rfl,ho0,hb⟩;refine ⟨_,rfl,?_⟩;have n0_:=AsZ.mk (Kd.R_below (by (with_reducible repeat (first|apply Kd.R_alloc|apply Kd.R_drewN|apply Kd.R_drew));exact (Kd.R_mono (Kd.R_far (p:=⟨gb142,0,none⟩) (Kd.R_types HO145.out BK142.out (by decide)) (fun _ hk=>hk.2) (.slice Ao11 t143.length co11)) (fun _ h_=>h_.1))) hb);have n1_:=AsZ.mk (Kd.S_lower (Kd.S_new' ho0 (Kd.R_lt (by (with_reducible repeat (first|apply Kd.R_alloc|apply Kd.R_drewN|apply Kd.R_drew));exact (Kd.R_mono (Kd.R_far (p:=⟨gb142,0,none⟩) (Kd.R_types HO145.out BK142.out (by decide)) (fun _ hk=>hk.2) (.slice Ao11 t143.length co11)) (fun _ h_=>h_.1))))) (bwz (by repeat (first|(with_reducible first|exact HB.out|apply bwa|apply pbN|apply bw1|refine bws ?_ GE140.out|refine bws ?_ GE141.out|refine bws ?_ GE142.out)|exact HB.out))));have n2_:=AsZ.mk (kb (g:=gb140) (o := .cells #[.slice A0_0 l0_0.length c0_0,.slice A0_1 l0_1.length c0_1] 43 (0,0)) (by (with_reducible repeat (first|refine kdN ?_ _|refine kd ?_|refine ka ?_ _));refine blk_far ?_ NB140_142.out _;(with_reducible repeat (first|refine kdN ?_ _|refine kd ?_|refine ka ?_ _));exact BK140.out) hb);have n3_:=AsZ.mk (kb (g:=gb141) (o := .cells #[.slice none 0 0,.slice none 0 0] 26 (0,0)) (by (with_reducible repeat (first|refine kdN ?_ _|refine kd ?_|refine ka ?_ _));refine blk_far ?_ NB141_142.out _;(with_reducible repeat (first|refine kdN ?_ _|refine kd ?_|refine ka ?_ _));exact BK141.out) hb);have n4_:=AsZ.mk (kb (g:=gb142) (o := .cells #[.slice Ao11 t143.length co11,.slice none 0 0] 26 (0,0)) (by (with_reducible repeat (first|refine kdN ?_ _|refine kd ?_|refine ka ?_ _));refine blk_put (cs:=#[.slice none 0 0,.slice none 0 0]) ?_ 0 _ rfl;(with_reducible repeat (first|refine kdN ?_ _|refine kd ?_|refine ka ?_ _));exact BK142.out) hb);have n5_:=AsZ.mk (bwp (by repeat (first|(with_reducible first|exact HB.out|apply bwa|apply pbN|apply bw1|refine bws ?_ GE140.out|refine bws ?_ GE141.out|refine bws ?_ GE142.out)|exact HB.out)) hb);clear HO145;clear BK140;clear BK141;clear BK142;clear HB;have HO145:=n0_;have HO148:=n1_;have BK140:=n2_;have BK141:=n3_;have BK142:=n4_;have HB:=n5_;clear n0_ n1_ n2_ n3_ n4_ n5_;(try clear hb);(try clear hb2);(try clear hk);(try clear hi);(try clear ho0);obtain ⟨Ao16,co16,eo16⟩:=Kd.S_slice HO148.out;subst eo16;have hcz17_0:w15.cell? ⟨gb142,0,none⟩=some (.slice Ao11 t143.length co11):=(kc BK142.out 0).trans rfl;have hcz17_1:w15.cell? ⟨gb142,1,none⟩=some (.slice none 0 0):=(kc BK142.out 1).trans rfl;have hfz17_0:=kf BK142.out 0;have hfz17_1:=kf BK142.out 1;have hcz18_0:w15.cell? ⟨gb141,0,none⟩=some (.slice none 0 0):=(kc BK141.out 0).trans rfl;have hcz18_1:w15.cell? ⟨gb141,1,none⟩=some (.slice none 0 0):=(kc BK141.out 1).trans rfl;have hfz18_0:=kf BK141.out 0;have hfz18_1:=kf BK141.out 1))
 refine bodyPost_ret (results_cell_row rfl _ _ gb141 26 #[.slice Ao11 t143.length co11,.slice Ao16 t146.length co16] (0,0) _ rfl (by (with_reducible repeat (first|refine kdN ?_ _|refine kd ?_|refine ka ?_ _));refine blk_put (cs:=#[.slice Ao11 t143.length co11,.slice none 0 0]) ?_ 1 _ rfl;(with_reducible repeat (first|refine kdN ?_ _|refine kd ?_|refine ka ?_ _));refine blk_put (cs:=#[.slice none 0 0,.slice none 0 0]) ?_ 0 _ rfl;(with_reducible repeat (first|refine kdN ?_ _|refine kd ?_|refine ka ?_ _));refine blk_far ?_ NB141_142.out _;(with_reducible repeat (first|refine kdN ?_ _|refine kd ?_|refine ka ?_ _));exact BK141.out) Tryd.underlying26 rfl (by kernel_rfl)) rfl ?_
 exact ⟨_,_,by first|rfl|(simp [errW_none,errW_some]<;>rfl)|(simp [*,errW_none,errW_some]<;>rfl),by (with_reducible repeat (first|apply Kd.R_alloc|apply Kd.R_drewN|apply Kd.R_drew));exact Kd.R_mono (Kd.R_far (p:=⟨gb141,1,none⟩) (Kd.R_far (p:=⟨gb141,0,none⟩) (Kd.R_far (p:=⟨gb142,1,none⟩) (Kd.R_types (Kd.R_types HO145.out BK142.out (by decide)) BK141.out (by decide)) (fun _ hk=>hk.1.2) (.slice Ao16 t146.length co16)) (fun _ hk=>hk.2) (.slice Ao11 t143.length co11)) (fun _ hk=>hk.2) (.slice Ao16 t146.length co16)) (fun _ hk=>trivial),by (with_reducible repeat (first|apply Kd.S_alloc|apply Kd.S_drewN|apply Kd.S_drew));exact Kd.S_mono (Kd.S_far (p:=⟨gb141,1,none⟩) (Kd.S_far (p:=⟨gb141,0,none⟩) (Kd.S_far (p:=⟨gb142,1,none⟩) (Kd.S_types (Kd.S_types HO148.out BK142.out (by decide)) BK141.out (by decide)) (fun _ hk=>hk.1.2) (.slice Ao16 t146.length co16)) (fun _ hk=>hk.2) (.slice Ao11 t143.length co11)) (fun _ hk=>hk.2) (.slice Ao16 t146.length co16)) (fun _ hk=>hk.1.1.2),by repeat (first|(with_reducible first|exact HB.out|apply bwa|apply pbN|apply bw1|refine bws ?_ GE140.out|refine bws ?_ GE141.out|refine bws ?_ GE142.out)|exact HB.out)⟩
/-! ### laws_eqIntS: function 63 -/
def laws_eqIntS.l0:Nat→List Int→List Int→Int→Option (Bool)
  |0,_,_,_=>none
  |k + 1,x0,x1,x5=>if x5 < (x0.length:Int) then (if 0≤x5 then (if x5 < (x1.length:Int) then (if (rd x0 x5)=(rd x1 x5) then (laws_eqIntS.l0 k x0 x1 (wrap64 (x5 + 1))) else (some false)) else (none)) else (none)) else (some true)
def laws_eqIntS.f (k:Nat) (l0:List Int) (l1:List Int):Option (Bool):=if (l0.length:Int)=(l1.length:Int) then (laws_eqIntS.l0 k l0 l1 0) else (some false)
theorem laws_eqIntS.mono_l:∀ k,(∀ y0 y1 y2,LeO (laws_eqIntS.l0 k y0 y1 y2) (laws_eqIntS.l0 (k + 1) y0 y1 y2))
  |0=>fun _ _ _ r h=>by simp [laws_eqIntS.l0] at h
  |k + 1=>by
    have ih0:=laws_eqIntS.mono_l k
    · intro y0 y1 y2
      unfold laws_eqIntS.l0
      repeat' first
      |(with_reducible exact ih0 _ _ _)
      |(with_reducible exact LeO.refl _)
      |(with_reducible exact LeO.none _)
      |(with_reducible refine LeO.ite ?_ ?_)
      |(with_reducible refine LeO.bind ?_ (fun _=>?_))
      |exact ih0 _ _ _
      |exact LeO.none _
      |refine LeO.ite ?_ ?_
      |refine LeO.bind ?_ (fun _=>?_)
theorem laws_eqIntS.mono:∀ a0 a1 k,LeO (laws_eqIntS.f k a0 a1) (laws_eqIntS.f (k + 1) a0 a1):=by
  intro a0 a1 k
  have ih0:=laws_eqIntS.mono_l k
  unfold laws_eqIntS.f
  repeat' first
      |(with_reducible exact ih0 _ _ _)
      |(with_reducible exact LeO.refl _)
      |(with_reducible exact LeO.none _)
      |(with_reducible refine LeO.ite ?_ ?_)
      |(with_reducible refine LeO.bind ?_ (fun _=>?_))
      |exact ih0 _ _ _
      |exact LeO.none _
      |refine LeO.ite ?_ ?_
      |refine LeO.bind ?_ (fun _=>?_)
set_option maxHeartbeats 8000000 in
set_option maxRecDepth 100000 in
theorem laws_eqIntS.calls (k:Nat) (A0:Option Addr) (c0:Nat) (l0:List Int) (A1:Option Addr) (c1:Nat) (l1:List Int) (r:Bool) (w:World) (hr0:Kd.C (Kd.int .i64) w A0 l0.length l0) (hc0:l0.length≤c0) (hr1:Kd.C (Kd.int .i64) w A1 l1.length l1) (hc1:l1.length≤c1) (h:laws_eqIntS.f k l0 l1=some r) :
    Calls Tryd.prog 63 #[.slice A0 l0.length c0,.slice A1 l1.length c1] w fun e w'=>e = .returned (.bool r)∧Drawn0 w w':=by
 have HR0:=AsZ.mk hr0
 have HC0:=AsZ.mk hc0
 clear hr0 hc0
 have HR1:=AsZ.mk hr1
 have HC1:=AsZ.mk hc1
 clear hr1 hc1
 have H:(if (l0.length:Int)=(l1.length:Int) then (laws_eqIntS.l0 k l0 l1 0) else (some false))=some r:=h
 clear h
 by_cases c3:(l0.length:Int)=(l1.length:Int)
 rotate_left
 · rw [if_neg c3] at H
   have c3b0:((l0.length:Int) == (l1.length:Int))=false:=beq_eq_false_iff_ne.mpr c3
   have c3b1:((l0.length:Int) != (l1.length:Int))=true:=bne_iff_ne.mpr c3
   have c3b2:(l0.length == l1.length)=false:=by first|simpa using c3|(simp at c3 ⊢;omega)
   obtain rfl:=zI H
   go_enter Tryd.func63,Tryd.ntmps63
   go_wp2
   repeat (go_quiet (fail);try go_wp2)
   go_ret
   exact ⟨by first|rfl|(simp;done)|(simp [*];done),by repeat (first|exact Drawn0.refl _|apply Drawn0.step)⟩
 rw [if_pos c3] at H
 have c3b0:((l0.length:Int) == (l1.length:Int))=true:=beq_iff_eq.mpr c3
 have c3b1:((l0.length:Int) != (l1.length:Int))=false:=bne_eq_false_iff_eq.mpr c3
 have c3b2:(l0.length == l1.length)=true:=by first|simpa using c3|(simp at c3 ⊢;omega)
 clear c3
 have H':=AsZ.mk H
 clear H
 go_enter Tryd.func63,Tryd.ntmps63
 go_wp2
 repeat (go_quiet (fail);try go_wp2)
 go_loopg [5] k (fun kq v5 w' => ∃ (x5_1:Int),v5 = .int .i64 x5_1∧AsZ (laws_eqIntS.l0 kq l0 l1 x5_1=some r)∧AsZ (kq≤k)∧Drawn0 w w')
 case atStart=>exact ⟨(0),(by first|rfl|(simp;done)|(simp [*];done)),H',⟨Nat.le_refl _⟩,by repeat (first|exact Drawn0.refl _|apply Drawn0.step)⟩
 case round =>
  clear H'
  try clear c1
  try clear p2
  try clear c3
  try clear c3b0
  try clear c3b1
  try clear c3b2
  obtain ⟨x5_1,rfl,HA,HK1,⟨m1,rfl⟩⟩:=hrel
  cases gk with
  |zero=>exact absurd HA.out (by simp [laws_eqIntS.l0])
  |succ k1 =>
   have H:=HA.out
   clear HA
   simp only [laws_eqIntS.l0] at H
   by_cases c4:x5_1 < (l0.length:Int)
   rotate_left
   · rw [if_neg c4] at H
     have c4b0:decide (x5_1 < (l0.length:Int))=false:=decide_eq_false c4
     clear c4
     obtain rfl:=zI H
     go_wp2
     repeat (go_quiet (fail);try go_wp2)
     go_ret
     exact ⟨by first|rfl|(simp;done)|(simp [*];done),by repeat (first|exact Drawn0.refl _|apply Drawn0.step)⟩
   rw [if_pos c4] at H
   have c4b0:decide (x5_1 < (l0.length:Int))=true:=zE c4
   clear c4
   by_cases c5:0≤x5_1
   rotate_left
   · rw [if_neg c5] at H
     exact absurd H (by simp)
   rw [if_pos c5] at H
   have c5b0:decide (0≤x5_1)=true:=zE c5
   clear c5
   by_cases c6:x5_1 < (l1.length:Int)
   rotate_left
   · rw [if_neg c6] at H
     exact absurd H (by simp)
   rw [if_pos c6] at H
   have c6b0:decide (x5_1 < (l1.length:Int))=true:=zE c6
   clear c6
   by_cases c7:(rd l0 x5_1)=(rd l1 x5_1)
   rotate_left
   · rw [if_neg c7] at H
     have c7b0:((rd l0 x5_1) == (rd l1 x5_1))=false:=beq_eq_false_iff_ne.mpr c7
     have c7b1:((rd l0 x5_1) != (rd l1 x5_1))=true:=bne_iff_ne.mpr c7
     obtain rfl:=zI H
     have p149:0≤(x5_1:Int):=zD (by first|(with_reducible assumption)|assumption)
     have q149:x5_1 < (l0.length:Int):=zD (by first|(with_reducible assumption)|assumption)
     obtain ⟨ad149,e149,hx149_0⟩:=Kd.at_int HR0.out x5_1 p149 q149
     cases e149
     replace p149:=eq_true p149
     replace q149:=eq_true q149
     have p150:0≤(x5_1:Int):=zD (by first|(with_reducible assumption)|assumption)
     have q150:x5_1 < (l1.length:Int):=zD (by first|(with_reducible assumption)|assumption)
     obtain ⟨ad150,e150,hx150_0⟩:=Kd.at_int HR1.out x5_1 p150 q150
     cases e150
     replace p150:=eq_true p150
     replace q150:=eq_true q150
     go_wp2
     repeat (go_quiet (fail);try go_wp2)
     go_ret
     exact ⟨by first|rfl|(simp;done)|(simp [*];done),by repeat (first|exact Drawn0.refl _|apply Drawn0.step)⟩
   rw [if_pos c7] at H
   have c7b0:((rd l0 x5_1) == (rd l1 x5_1))=true:=beq_iff_eq.mpr c7
   have c7b1:((rd l0 x5_1) != (rd l1 x5_1))=false:=bne_eq_false_iff_eq.mpr c7
   clear c7
   have H':=AsZ.mk H
   clear H
   have p149:0≤(x5_1:Int):=zD (by first|(with_reducible assumption)|assumption)
   have q149:x5_1 < (l0.length:Int):=zD (by first|(with_reducible assumption)|assumption)
   obtain ⟨ad149,e149,hx149_0⟩:=Kd.at_int HR0.out x5_1 p149 q149
   cases e149
   replace p149:=eq_true p149
   replace q149:=eq_true q149
   have p150:0≤(x5_1:Int):=zD (by first|(with_reducible assumption)|assumption)
   have q150:x5_1 < (l1.length:Int):=zD (by first|(with_reducible assumption)|assumption)
   obtain ⟨ad150,e150,hx150_0⟩:=Kd.at_int HR1.out x5_1 p150 q150
   cases e150
   replace p150:=eq_true p150
   replace q150:=eq_true q150
   go_wp2
   repeat (go_quiet (fail);try go_wp2)
   go_roundg k1
   case measure=>have:=HK1.out;omega
   case rel=>exact ⟨(wrap64 (x5_1 + 1)),(by first|rfl|(simp;done)|(simp [*];done)),H',⟨by have:=HK1.out;omega⟩,by repeat (first|exact Drawn0.refl _|apply Drawn0.step)⟩
end Go.Proofs.YtffjlpphcjfdgaaDoor.MFnExactFindSkip
