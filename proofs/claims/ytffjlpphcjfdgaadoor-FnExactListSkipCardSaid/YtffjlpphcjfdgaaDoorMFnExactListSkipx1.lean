-- Written by a program of this session out of the translation. Not trusted: Lean checks it.
import Derived.Test.YtffjlpphcjfdgaaDoorMFnExactListSkipx0
namespace Go.Proofs.YtffjlpphcjfdgaaDoor.MFnExactListSkip
-- short
-- shrunk
-- TAB
-- RD
open Go.Proofs.YtffjlpphcjfdgaaDoor Go.RowKit Go.Proofs.YtffjlpphcjfdgaaDoorW.PrintWords Go.Proofs.YtffjlpphcjfdgaaDoorW.PrintLast Go.Proofs.YtffjlpphcjfdgaaDoorW.PrintMore Go.Proofs.YtffjlpphcjfdgaaDoorX
attribute [local go_sem] max2_int min2_int max_two min_two max_three min_three max_four min_four str_gtr str_leq str_geq cell_twice
set_option linter.unusedVariables false
set_option linter.unusedSimpArgs false
/-! ### impl_in: function 50 -/
def impl_in.f (a0:Int) (a1:Int) (a2:Int):Option (Bool):=if a0 ≥ a1 then (some (decide (a0≤a2))) else (some false)
set_option maxHeartbeats 8000000 in
set_option maxRecDepth 100000 in
theorem impl_in.calls (a0:Int) (a1:Int) (a2:Int) (r:Bool) (w:World) (h:impl_in.f a0 a1 a2=some r) :
    Calls Tryd.prog 50 #[.int .i64 a0,.int .i64 a1,.int .i64 a2] w fun e w'=>e = .returned (.bool r)∧Drawn0 w w':=by
 have H:(if a0 ≥ a1 then (some (decide (a0≤a2))) else (some false))=some r:=h
 clear h
 by_cases c4:a0 ≥ a1
 · rw [if_pos c4] at H
   have c4b0:decide (a1≤a0)=true:=zE c4
   clear c4
   obtain rfl:=zI H
   go_enter Tryd.func50,Tryd.ntmps50
   go_wp2
   go_ret
   exact ⟨by first|rfl|(simp;done)|(simp [*];done),by repeat (first|exact Drawn0.refl _|apply Drawn0.step)⟩
 rw [if_neg c4] at H
 have c4b0:decide (a1≤a0)=false:=decide_eq_false c4
 clear c4
 obtain rfl:=zI H
 go_enter Tryd.func50,Tryd.ntmps50
 go_wp2
 go_ret
 exact ⟨by first|rfl|(simp;done)|(simp [*];done),by repeat (first|exact Drawn0.refl _|apply Drawn0.step)⟩
/-! ### impl_isKey: function 70 -/
def impl_isKey.f (a0:ByteArray):Option (Bool):=(impl_in.f (a0.size:Int) 1 16).bind fun t101=>(some t101)
set_option maxHeartbeats 8000000 in
set_option maxRecDepth 100000 in
theorem impl_isKey.calls (a0:ByteArray) (r:Bool) (w:World) (h:impl_isKey.f a0=some r) :
    Calls Tryd.prog 70 #[.string a0] w fun e w'=>e = .returned (.bool r)∧Drawn0 w w':=by
 have H:((impl_in.f (a0.size:Int) 1 16).bind fun t101=>(some t101))=some r:=h
 clear h
 replace H:=Option.bind_eq_some_iff.mp H
 obtain ⟨t101,A20,H⟩:=H
 replace H:(some t101)=some r:=H
 have A2:=AsZ.mk A20
 clear A20
 obtain rfl:=zI H
 go_enter Tryd.func70,Tryd.ntmps70
 go_wp2_with (first|((with_reducible refine gcl (f:=50) rfl ?_);refine goesL_ (some 5) rfl rfl Tryd.func50 (by kernel_rfl) rfl #[.int .i64 (a0.size:Int),.int .i64 1,.int .i64 16] rfl (by (try simp only [zA,zC,zN]);first|done|rfl|(simp only [zM,zL];rfl)) ?_;(with_reducible refine (impl_in.calls (a0.size:Int) 1 16 t101 _ A2.out).mono ?_);rintro e w' ⟨rfl,⟨nd,rfl⟩⟩;refine ⟨_,rfl,?_⟩))
 go_ret
 exact ⟨by first|rfl|(simp;done)|(simp [*];done),by repeat (first|exact Drawn0.refl _|apply Drawn0.step)⟩
/-! ### impl_isSeq: function 71 -/
def impl_isSeq.f (a0:Int):Option (Bool):=(impl_in.f a0 0 1000000000).bind fun t102=>(some t102)
set_option maxHeartbeats 8000000 in
set_option maxRecDepth 100000 in
theorem impl_isSeq.calls (a0:Int) (r:Bool) (w:World) (h:impl_isSeq.f a0=some r) :
    Calls Tryd.prog 71 #[.int .i64 a0] w fun e w'=>e = .returned (.bool r)∧Drawn0 w w':=by
 have H:((impl_in.f a0 0 1000000000).bind fun t102=>(some t102))=some r:=h
 clear h
 replace H:=Option.bind_eq_some_iff.mp H
 obtain ⟨t102,A20,H⟩:=H
 replace H:(some t102)=some r:=H
 have A2:=AsZ.mk A20
 clear A20
 obtain rfl:=zI H
 go_enter Tryd.func71,Tryd.ntmps71
 go_wp2_with (first|((with_reducible refine gcl (f:=50) rfl ?_);refine goesL_ (some 4) rfl rfl Tryd.func50 (by kernel_rfl) rfl #[.int .i64 a0,.int .i64 0,.int .i64 1000000000] rfl (by (try simp only [zA,zC,zN]);first|done|rfl|(simp only [zM,zL];rfl)) ?_;(with_reducible refine (impl_in.calls a0 0 1000000000 t102 _ A2.out).mono ?_);rintro e w' ⟨rfl,⟨nd,rfl⟩⟩;refine ⟨_,rfl,?_⟩))
 go_ret
 exact ⟨by first|rfl|(simp;done)|(simp [*];done),by repeat (first|exact Drawn0.refl _|apply Drawn0.step)⟩
/-! ### impl_isValue: function 80 -/
def impl_isValue.f (a0:ByteArray):Option (Bool):=some (decide ((a0.size:Int)≤40))
set_option maxHeartbeats 8000000 in
set_option maxRecDepth 100000 in
theorem impl_isValue.calls (a0:ByteArray) (r:Bool) (w:World) (h:impl_isValue.f a0=some r) :
    Calls Tryd.prog 80 #[.string a0] w fun e w'=>e = .returned (.bool r)∧Drawn0 w w':=by
 have H:(some (decide ((a0.size:Int)≤40)))=some r:=h
 clear h
 obtain rfl:=zI H
 go_enter Tryd.func80,Tryd.ntmps80
 go_wp2
 go_ret
 exact ⟨by first|rfl|(simp;done)|(simp [*];done),by repeat (first|exact Drawn0.refl _|apply Drawn0.step)⟩
/-! ### impl_GoodItem: function 39 -/
def impl_GoodItem.f (a0_0:ByteArray) (a0_1:Int) (a0_2:Int) (a0_3:ByteArray):Option (Bool):=(impl_isKey.f a0_0).bind fun t104=>(if t104=true then ((impl_isSeq.f a0_1).bind fun t105=>(if t105=true then ((impl_in.f a0_2 0 1).bind fun t106=>(if t106=true then ((impl_isValue.f a0_3).bind fun t107=>(if t107=true then (if a0_2=1 then (some true) else (some (a0_3.toList == ([]:List UInt8)))) else (some false))) else (some false))) else (some false))) else (some false))
set_option maxHeartbeats 8000000 in
set_option maxRecDepth 100000 in
theorem impl_GoodItem.calls (a0_0:ByteArray) (a0_1:Int) (a0_2:Int) (a0_3:ByteArray) (r:Bool) (w:World) (h:impl_GoodItem.f a0_0 a0_1 a0_2 a0_3=some r) :
    Calls Tryd.prog 39 #[.agg #[.string a0_0,.int .i64 a0_1,.int .i64 a0_2,.string a0_3]] w fun e w'=>e = .returned (.bool r)∧Below w.heap.size w w':=by
 have hu28:=Tryd.underlying28
 have HB:=AsZ.mk (Below.refl w.heap.size w)
 have H:((impl_isKey.f a0_0).bind fun t104=>(if t104=true then ((impl_isSeq.f a0_1).bind fun t105=>(if t105=true then ((impl_in.f a0_2 0 1).bind fun t106=>(if t106=true then ((impl_isValue.f a0_3).bind fun t107=>(if t107=true then (if a0_2=1 then (some true) else (some (a0_3.toList == ([]:List UInt8)))) else (some false))) else (some false))) else (some false))) else (some false)))=some r:=h
 clear h
 replace H:=Option.bind_eq_some_iff.mp H
 obtain ⟨t104,A20,H⟩:=H
 replace H:(if t104=true then ((impl_isSeq.f a0_1).bind fun t105=>(if t105=true then ((impl_in.f a0_2 0 1).bind fun t106=>(if t106=true then ((impl_isValue.f a0_3).bind fun t107=>(if t107=true then (if a0_2=1 then (some true) else (some (a0_3.toList == ([]:List UInt8)))) else (some false))) else (some false))) else (some false))) else (some false))=some r:=H
 have A2:=AsZ.mk A20
 clear A20
 by_cases c3:t104=true
 rotate_left
 · replace c3:=Bool.eq_false_iff.mpr c3
   subst c3
   have H1:(some false)=some r:=by rw [if_neg (show ¬ (false=true) by decide)] at H;exact H
   clear H
   have H:=H1
   clear H1
   obtain rfl:=zI H
   go_enter Tryd.func39,Tryd.ntmps39
   go_wp2_with (first|((with_reducible refine gate_dst (N:=1) rfl ?_);refine box_event ?hg (N:=1) ?hd (cs:=#[.string a0_0,.int .i64 a0_1,.int .i64 a0_2,.string a0_3]) (t:=28) ?hr ?_;(case hd=>rfl);(case hg=>rfl);(case hr=>first|(go_simp;done)|(go_simp;rfl));intro gb103 hg w21 hbox hb;have n0_:=AsZ.mk (bwp (by repeat (first|(with_reducible first|exact HB.out|apply bwa|apply pbN|apply bw1)|exact HB.out)) hb);have n1_:=AsZ.mk (hbox);have n2_:=AsZ.mk ((by rw [hg];exact (bwz (by repeat (first|(with_reducible first|exact HB.out|apply bwa|apply pbN|apply bw1)|exact HB.out))):w.heap.size≤gb103));have n3_:=AsZ.mk ((by rw [hg];exact (bwz (by repeat (first|(with_reducible first|exact HB.out|apply bwa|apply pbN|apply bw1)|exact HB.out))):w.heap.size≤gb103));clear HB;have HB:=n0_;have BK103:=n1_;have GW103:=n2_;have GE103:=n3_;clear n0_ n1_ n2_ n3_;clear hb hbox hg;have hcz22_0:w21.cell? ⟨gb103,0,none⟩=some (.string a0_0):=(kc BK103.out 0).trans rfl;have hcz22_1:w21.cell? ⟨gb103,1,none⟩=some (.int .i64 a0_1):=(kc BK103.out 1).trans rfl;have hcz22_2:w21.cell? ⟨gb103,2,none⟩=some (.int .i64 a0_2):=(kc BK103.out 2).trans rfl;have hcz22_3:w21.cell? ⟨gb103,3,none⟩=some (.string a0_3):=(kc BK103.out 3).trans rfl;have hfz22_0:=kf BK103.out 0;have hfz22_1:=kf BK103.out 1;have hfz22_2:=kf BK103.out 2;have hfz22_3:=kf BK103.out 3)|((with_reducible refine gcl (f:=70) rfl ?_);refine goesL_ (some 5) rfl rfl Tryd.func70 (by kernel_rfl) rfl #[.string a0_0] rfl (by (try simp only [zA,zC,zN]);first|done|rfl|(simp only [zM,zL];rfl)) ?_;(with_reducible refine (impl_isKey.calls a0_0 false _ A2.out).mono ?_);rintro e w' ⟨rfl,⟨nd,rfl⟩⟩;refine ⟨_,rfl,?_⟩))
   go_ret
   exact ⟨by first|rfl|(simp [errW_none,errW_some]<;>rfl)|(simp [*,errW_none,errW_some]<;>rfl),by repeat (first|(with_reducible first|exact HB.out|apply bwa|apply pbN|apply bw1|refine bws ?_ GE103.out)|exact HB.out)⟩
 subst c3
 have H1:((impl_isSeq.f a0_1).bind fun t105=>(if t105=true then ((impl_in.f a0_2 0 1).bind fun t106=>(if t106=true then ((impl_isValue.f a0_3).bind fun t107=>(if t107=true then (if a0_2=1 then (some true) else (some (a0_3.toList == ([]:List UInt8)))) else (some false))) else (some false))) else (some false)))=some r:=by rw [if_pos rfl] at H;exact H
 clear H
 have H:=H1
 clear H1
 replace H:=Option.bind_eq_some_iff.mp H
 obtain ⟨t105,A40,H⟩:=H
 replace H:(if t105=true then ((impl_in.f a0_2 0 1).bind fun t106=>(if t106=true then ((impl_isValue.f a0_3).bind fun t107=>(if t107=true then (if a0_2=1 then (some true) else (some (a0_3.toList == ([]:List UInt8)))) else (some false))) else (some false))) else (some false))=some r:=H
 have A4:=AsZ.mk A40
 clear A40
 by_cases c5:t105=true
 rotate_left
 · replace c5:=Bool.eq_false_iff.mpr c5
   subst c5
   have H1:(some false)=some r:=by rw [if_neg (show ¬ (false=true) by decide)] at H;exact H
   clear H
   have H:=H1
   clear H1
   obtain rfl:=zI H
   go_enter Tryd.func39,Tryd.ntmps39
   go_wp2_with (first|((with_reducible refine gate_dst (N:=1) rfl ?_);refine box_event ?hg (N:=1) ?hd (cs:=#[.string a0_0,.int .i64 a0_1,.int .i64 a0_2,.string a0_3]) (t:=28) ?hr ?_;(case hd=>rfl);(case hg=>rfl);(case hr=>first|(go_simp;done)|(go_simp;rfl));intro gb103 hg w19 hbox hb;have n0_:=AsZ.mk (bwp (by repeat (first|(with_reducible first|exact HB.out|apply bwa|apply pbN|apply bw1)|exact HB.out)) hb);have n1_:=AsZ.mk (hbox);have n2_:=AsZ.mk ((by rw [hg];exact (bwz (by repeat (first|(with_reducible first|exact HB.out|apply bwa|apply pbN|apply bw1)|exact HB.out))):w.heap.size≤gb103));have n3_:=AsZ.mk ((by rw [hg];exact (bwz (by repeat (first|(with_reducible first|exact HB.out|apply bwa|apply pbN|apply bw1)|exact HB.out))):w.heap.size≤gb103));clear HB;have HB:=n0_;have BK103:=n1_;have GW103:=n2_;have GE103:=n3_;clear n0_ n1_ n2_ n3_;clear hb hbox hg;have hcz20_0:w19.cell? ⟨gb103,0,none⟩=some (.string a0_0):=(kc BK103.out 0).trans rfl;have hcz20_1:w19.cell? ⟨gb103,1,none⟩=some (.int .i64 a0_1):=(kc BK103.out 1).trans rfl;have hcz20_2:w19.cell? ⟨gb103,2,none⟩=some (.int .i64 a0_2):=(kc BK103.out 2).trans rfl;have hcz20_3:w19.cell? ⟨gb103,3,none⟩=some (.string a0_3):=(kc BK103.out 3).trans rfl;have hfz20_0:=kf BK103.out 0;have hfz20_1:=kf BK103.out 1;have hfz20_2:=kf BK103.out 2;have hfz20_3:=kf BK103.out 3)|((with_reducible refine gcl (f:=70) rfl ?_);refine goesL_ (some 5) rfl rfl Tryd.func70 (by kernel_rfl) rfl #[.string a0_0] rfl (by (try simp only [zA,zC,zN]);first|done|rfl|(simp only [zM,zL];rfl)) ?_;(with_reducible refine (impl_isKey.calls a0_0 true _ A2.out).mono ?_);rintro e w' ⟨rfl,⟨nd,rfl⟩⟩;refine ⟨_,rfl,?_⟩)|(go_at_call 71;(with_reducible refine (impl_isSeq.calls a0_1 false _ A4.out).mono ?_);rintro e w' ⟨rfl,⟨nd,rfl⟩⟩))
   go_ret
   exact ⟨by first|rfl|(simp [errW_none,errW_some]<;>rfl)|(simp [*,errW_none,errW_some]<;>rfl),by repeat (first|(with_reducible first|exact HB.out|apply bwa|apply pbN|apply bw1|refine bws ?_ GE103.out)|exact HB.out)⟩
 subst c5
 have H1:((impl_in.f a0_2 0 1).bind fun t106=>(if t106=true then ((impl_isValue.f a0_3).bind fun t107=>(if t107=true then (if a0_2=1 then (some true) else (some (a0_3.toList == ([]:List UInt8)))) else (some false))) else (some false)))=some r:=by rw [if_pos rfl] at H;exact H
 clear H
 have H:=H1
 clear H1
 replace H:=Option.bind_eq_some_iff.mp H
 obtain ⟨t106,A60,H⟩:=H
 replace H:(if t106=true then ((impl_isValue.f a0_3).bind fun t107=>(if t107=true then (if a0_2=1 then (some true) else (some (a0_3.toList == ([]:List UInt8)))) else (some false))) else (some false))=some r:=H
 have A6:=AsZ.mk A60
 clear A60
 by_cases c7:t106=true
 rotate_left
 · replace c7:=Bool.eq_false_iff.mpr c7
   subst c7
   have H1:(some false)=some r:=by rw [if_neg (show ¬ (false=true) by decide)] at H;exact H
   clear H
   have H:=H1
   clear H1
   obtain rfl:=zI H
   go_enter Tryd.func39,Tryd.ntmps39
   go_wp2_with (first|((with_reducible refine gate_dst (N:=1) rfl ?_);refine box_event ?hg (N:=1) ?hd (cs:=#[.string a0_0,.int .i64 a0_1,.int .i64 a0_2,.string a0_3]) (t:=28) ?hr ?_;(case hd=>rfl);(case hg=>rfl);(case hr=>first|(go_simp;done)|(go_simp;rfl));intro gb103 hg w17 hbox hb;have n0_:=AsZ.mk (bwp (by repeat (first|(with_reducible first|exact HB.out|apply bwa|apply pbN|apply bw1)|exact HB.out)) hb);have n1_:=AsZ.mk (hbox);have n2_:=AsZ.mk ((by rw [hg];exact (bwz (by repeat (first|(with_reducible first|exact HB.out|apply bwa|apply pbN|apply bw1)|exact HB.out))):w.heap.size≤gb103));have n3_:=AsZ.mk ((by rw [hg];exact (bwz (by repeat (first|(with_reducible first|exact HB.out|apply bwa|apply pbN|apply bw1)|exact HB.out))):w.heap.size≤gb103));clear HB;have HB:=n0_;have BK103:=n1_;have GW103:=n2_;have GE103:=n3_;clear n0_ n1_ n2_ n3_;clear hb hbox hg;have hcz18_0:w17.cell? ⟨gb103,0,none⟩=some (.string a0_0):=(kc BK103.out 0).trans rfl;have hcz18_1:w17.cell? ⟨gb103,1,none⟩=some (.int .i64 a0_1):=(kc BK103.out 1).trans rfl;have hcz18_2:w17.cell? ⟨gb103,2,none⟩=some (.int .i64 a0_2):=(kc BK103.out 2).trans rfl;have hcz18_3:w17.cell? ⟨gb103,3,none⟩=some (.string a0_3):=(kc BK103.out 3).trans rfl;have hfz18_0:=kf BK103.out 0;have hfz18_1:=kf BK103.out 1;have hfz18_2:=kf BK103.out 2;have hfz18_3:=kf BK103.out 3)|((with_reducible refine gcl (f:=70) rfl ?_);refine goesL_ (some 5) rfl rfl Tryd.func70 (by kernel_rfl) rfl #[.string a0_0] rfl (by (try simp only [zA,zC,zN]);first|done|rfl|(simp only [zM,zL];rfl)) ?_;(with_reducible refine (impl_isKey.calls a0_0 true _ A2.out).mono ?_);rintro e w' ⟨rfl,⟨nd,rfl⟩⟩;refine ⟨_,rfl,?_⟩)|(go_at_call 71;(with_reducible refine (impl_isSeq.calls a0_1 true _ A4.out).mono ?_);rintro e w' ⟨rfl,⟨nd,rfl⟩⟩)|(go_at_call 50;(with_reducible refine (impl_in.calls a0_2 0 1 false _ A6.out).mono ?_);rintro e w' ⟨rfl,⟨nd,rfl⟩⟩))
   go_ret
   exact ⟨by first|rfl|(simp [errW_none,errW_some]<;>rfl)|(simp [*,errW_none,errW_some]<;>rfl),by repeat (first|(with_reducible first|exact HB.out|apply bwa|apply pbN|apply bw1|refine bws ?_ GE103.out)|exact HB.out)⟩
 subst c7
 have H1:((impl_isValue.f a0_3).bind fun t107=>(if t107=true then (if a0_2=1 then (some true) else (some (a0_3.toList == ([]:List UInt8)))) else (some false)))=some r:=by rw [if_pos rfl] at H;exact H
 clear H
 have H:=H1
 clear H1
 replace H:=Option.bind_eq_some_iff.mp H
 obtain ⟨t107,A80,H⟩:=H
 replace H:(if t107=true then (if a0_2=1 then (some true) else (some (a0_3.toList == ([]:List UInt8)))) else (some false))=some r:=H
 have A8:=AsZ.mk A80
 clear A80
 by_cases c9:t107=true
 rotate_left
 · replace c9:=Bool.eq_false_iff.mpr c9
   subst c9
   have H1:(some false)=some r:=by rw [if_neg (show ¬ (false=true) by decide)] at H;exact H
   clear H
   have H:=H1
   clear H1
   obtain rfl:=zI H
   go_enter Tryd.func39,Tryd.ntmps39
   go_wp2_with (first|((with_reducible refine gate_dst (N:=1) rfl ?_);refine box_event ?hg (N:=1) ?hd (cs:=#[.string a0_0,.int .i64 a0_1,.int .i64 a0_2,.string a0_3]) (t:=28) ?hr ?_;(case hd=>rfl);(case hg=>rfl);(case hr=>first|(go_simp;done)|(go_simp;rfl));intro gb103 hg w15 hbox hb;have n0_:=AsZ.mk (bwp (by repeat (first|(with_reducible first|exact HB.out|apply bwa|apply pbN|apply bw1)|exact HB.out)) hb);have n1_:=AsZ.mk (hbox);have n2_:=AsZ.mk ((by rw [hg];exact (bwz (by repeat (first|(with_reducible first|exact HB.out|apply bwa|apply pbN|apply bw1)|exact HB.out))):w.heap.size≤gb103));have n3_:=AsZ.mk ((by rw [hg];exact (bwz (by repeat (first|(with_reducible first|exact HB.out|apply bwa|apply pbN|apply bw1)|exact HB.out))):w.heap.size≤gb103));clear HB;have HB:=n0_;have BK103:=n1_;have GW103:=n2_;have GE103:=n3_;clear n0_ n1_ n2_ n3_;clear hb hbox hg;have hcz16_0:w15.cell? ⟨gb103,0,none⟩=some (.string a0_0):=(kc BK103.out 0).trans rfl;have hcz16_1:w15.cell? ⟨gb103,1,none⟩=some (.int .i64 a0_1):=(kc BK103.out 1).trans rfl;have hcz16_2:w15.cell? ⟨gb103,2,none⟩=some (.int .i64 a0_2):=(kc BK103.out 2).trans rfl;have hcz16_3:w15.cell? ⟨gb103,3,none⟩=some (.string a0_3):=(kc BK103.out 3).trans rfl;have hfz16_0:=kf BK103.out 0;have hfz16_1:=kf BK103.out 1;have hfz16_2:=kf BK103.out 2;have hfz16_3:=kf BK103.out 3)|((with_reducible refine gcl (f:=70) rfl ?_);refine goesL_ (some 5) rfl rfl Tryd.func70 (by kernel_rfl) rfl #[.string a0_0] rfl (by (try simp only [zA,zC,zN]);first|done|rfl|(simp only [zM,zL];rfl)) ?_;(with_reducible refine (impl_isKey.calls a0_0 true _ A2.out).mono ?_);rintro e w' ⟨rfl,⟨nd,rfl⟩⟩;refine ⟨_,rfl,?_⟩)|(go_at_call 71;(with_reducible refine (impl_isSeq.calls a0_1 true _ A4.out).mono ?_);rintro e w' ⟨rfl,⟨nd,rfl⟩⟩)|(go_at_call 50;(with_reducible refine (impl_in.calls a0_2 0 1 true _ A6.out).mono ?_);rintro e w' ⟨rfl,⟨nd,rfl⟩⟩)|(go_at_call 80;(with_reducible refine (impl_isValue.calls a0_3 false _ A8.out).mono ?_);rintro e w' ⟨rfl,⟨nd,rfl⟩⟩))
   go_ret
   exact ⟨by first|rfl|(simp [errW_none,errW_some]<;>rfl)|(simp [*,errW_none,errW_some]<;>rfl),by repeat (first|(with_reducible first|exact HB.out|apply bwa|apply pbN|apply bw1|refine bws ?_ GE103.out)|exact HB.out)⟩
 subst c9
 have H1:(if a0_2=1 then (some true) else (some (a0_3.toList == ([]:List UInt8))))=some r:=by rw [if_pos rfl] at H;exact H
 clear H
 have H:=H1
 clear H1
 by_cases c10:a0_2=1
 rotate_left
 · rw [if_neg c10] at H
   have c10b0:(a0_2 == 1)=false:=beq_eq_false_iff_ne.mpr c10
   have c10b1:(a0_2 != 1)=true:=bne_iff_ne.mpr c10
   obtain rfl:=zI H
   go_enter Tryd.func39,Tryd.ntmps39
   go_wp2_with (first|((with_reducible refine gate_dst (N:=1) rfl ?_);refine box_event ?hg (N:=1) ?hd (cs:=#[.string a0_0,.int .i64 a0_1,.int .i64 a0_2,.string a0_3]) (t:=28) ?hr ?_;(case hd=>rfl);(case hg=>rfl);(case hr=>first|(go_simp;done)|(go_simp;rfl));intro gb103 hg w13 hbox hb;have n0_:=AsZ.mk (bwp (by repeat (first|(with_reducible first|exact HB.out|apply bwa|apply pbN|apply bw1)|exact HB.out)) hb);have n1_:=AsZ.mk (hbox);have n2_:=AsZ.mk ((by rw [hg];exact (bwz (by repeat (first|(with_reducible first|exact HB.out|apply bwa|apply pbN|apply bw1)|exact HB.out))):w.heap.size≤gb103));have n3_:=AsZ.mk ((by rw [hg];exact (bwz (by repeat (first|(with_reducible first|exact HB.out|apply bwa|apply pbN|apply bw1)|exact HB.out))):w.heap.size≤gb103));clear HB;have HB:=n0_;have BK103:=n1_;have GW103:=n2_;have GE103:=n3_;clear n0_ n1_ n2_ n3_;clear hb hbox hg;have hcz14_0:w13.cell? ⟨gb103,0,none⟩=some (.string a0_0):=(kc BK103.out 0).trans rfl;have hcz14_1:w13.cell? ⟨gb103,1,none⟩=some (.int .i64 a0_1):=(kc BK103.out 1).trans rfl;have hcz14_2:w13.cell? ⟨gb103,2,none⟩=some (.int .i64 a0_2):=(kc BK103.out 2).trans rfl;have hcz14_3:w13.cell? ⟨gb103,3,none⟩=some (.string a0_3):=(kc BK103.out 3).trans rfl;have hfz14_0:=kf BK103.out 0;have hfz14_1:=kf BK103.out 1;have hfz14_2:=kf BK103.out 2;have hfz14_3:=kf BK103.out 3)|((with_reducible refine gcl (f:=70) rfl ?_);refine goesL_ (some 5) rfl rfl Tryd.func70 (by kernel_rfl) rfl #[.string a0_0] rfl (by (try simp only [zA,zC,zN]);first|done|rfl|(simp only [zM,zL];rfl)) ?_;(with_reducible refine (impl_isKey.calls a0_0 true _ A2.out).mono ?_);rintro e w' ⟨rfl,⟨nd,rfl⟩⟩;refine ⟨_,rfl,?_⟩)|(go_at_call 71;(with_reducible refine (impl_isSeq.calls a0_1 true _ A4.out).mono ?_);rintro e w' ⟨rfl,⟨nd,rfl⟩⟩)|(go_at_call 50;(with_reducible refine (impl_in.calls a0_2 0 1 true _ A6.out).mono ?_);rintro e w' ⟨rfl,⟨nd,rfl⟩⟩)|(go_at_call 80;(with_reducible refine (impl_isValue.calls a0_3 true _ A8.out).mono ?_);rintro e w' ⟨rfl,⟨nd,rfl⟩⟩))
   go_ret
   exact ⟨by first|rfl|(simp [errW_none,errW_some]<;>rfl)|(simp [*,errW_none,errW_some]<;>rfl),by repeat (first|(with_reducible first|exact HB.out|apply bwa|apply pbN|apply bw1|refine bws ?_ GE103.out)|exact HB.out)⟩
 rw [if_pos c10] at H
 have c10b0:(a0_2 == 1)=true:=beq_iff_eq.mpr c10
 have c10b1:(a0_2 != 1)=false:=bne_eq_false_iff_eq.mpr c10
 clear c10
 obtain rfl:=zI H
 go_enter Tryd.func39,Tryd.ntmps39
 go_wp2_with (first|((with_reducible refine gate_dst (N:=1) rfl ?_);refine box_event ?hg (N:=1) ?hd (cs:=#[.string a0_0,.int .i64 a0_1,.int .i64 a0_2,.string a0_3]) (t:=28) ?hr ?_;(case hd=>rfl);(case hg=>rfl);(case hr=>first|(go_simp;done)|(go_simp;rfl));intro gb103 hg w11 hbox hb;have n0_:=AsZ.mk (bwp (by repeat (first|(with_reducible first|exact HB.out|apply bwa|apply pbN|apply bw1)|exact HB.out)) hb);have n1_:=AsZ.mk (hbox);have n2_:=AsZ.mk ((by rw [hg];exact (bwz (by repeat (first|(with_reducible first|exact HB.out|apply bwa|apply pbN|apply bw1)|exact HB.out))):w.heap.size≤gb103));have n3_:=AsZ.mk ((by rw [hg];exact (bwz (by repeat (first|(with_reducible first|exact HB.out|apply bwa|apply pbN|apply bw1)|exact HB.out))):w.heap.size≤gb103));clear HB;have HB:=n0_;have BK103:=n1_;have GW103:=n2_;have GE103:=n3_;clear n0_ n1_ n2_ n3_;clear hb hbox hg;have hcz12_0:w11.cell? ⟨gb103,0,none⟩=some (.string a0_0):=(kc BK103.out 0).trans rfl;have hcz12_1:w11.cell? ⟨gb103,1,none⟩=some (.int .i64 a0_1):=(kc BK103.out 1).trans rfl;have hcz12_2:w11.cell? ⟨gb103,2,none⟩=some (.int .i64 a0_2):=(kc BK103.out 2).trans rfl;have hcz12_3:w11.cell? ⟨gb103,3,none⟩=some (.string a0_3):=(kc BK103.out 3).trans rfl;have hfz12_0:=kf BK103.out 0;have hfz12_1:=kf BK103.out 1;have hfz12_2:=kf BK103.out 2;have hfz12_3:=kf BK103.out 3)|((with_reducible refine gcl (f:=70) rfl ?_);refine goesL_ (some 5) rfl rfl Tryd.func70 (by kernel_rfl) rfl #[.string a0_0] rfl (by (try simp only [zA,zC,zN]);first|done|rfl|(simp only [zM,zL];rfl)) ?_;(with_reducible refine (impl_isKey.calls a0_0 true _ A2.out).mono ?_);rintro e w' ⟨rfl,⟨nd,rfl⟩⟩;refine ⟨_,rfl,?_⟩)|(go_at_call 71;(with_reducible refine (impl_isSeq.calls a0_1 true _ A4.out).mono ?_);rintro e w' ⟨rfl,⟨nd,rfl⟩⟩)|(go_at_call 50;(with_reducible refine (impl_in.calls a0_2 0 1 true _ A6.out).mono ?_);rintro e w' ⟨rfl,⟨nd,rfl⟩⟩)|(go_at_call 80;(with_reducible refine (impl_isValue.calls a0_3 true _ A8.out).mono ?_);rintro e w' ⟨rfl,⟨nd,rfl⟩⟩))
 go_ret
 exact ⟨by first|rfl|(simp [errW_none,errW_some]<;>rfl)|(simp [*,errW_none,errW_some]<;>rfl),by repeat (first|(with_reducible first|exact HB.out|apply bwa|apply pbN|apply bw1|refine bws ?_ GE103.out)|exact HB.out)⟩
/-! ### impl_SumTable: function 99 -/
mutual
def impl_SumTable.l0:Nat→List Int→Int→Option (List Int)
  |0,_,_=>none
  |k + 1,x1,x5=>if x5 < 256 then (impl_SumTable.l1 k x1 x5 x5 0) else (some x1)
def impl_SumTable.l1:Nat→List Int→Int→Int→Int→Option (List Int)
  |0,_,_,_,_=>none
  |k + 1,x1,x2,x5,x8=>if x8 < 8 then (if (Go.bits .and .u32 x2 1)=1 then (impl_SumTable.l1 k x1 (Go.bits .xor .u32 (x2 / 2) 2197175160) x5 (wrap64 (x8 + 1))) else (impl_SumTable.l1 k x1 (x2 / 2) x5 (wrap64 (x8 + 1)))) else (if x1.length < 35184372088832 then (impl_SumTable.l0 k (x1 ++ [x2]) ((x5 + 1) % 4294967296)) else (none))
end
def impl_SumTable.f (k:Nat)  : Option (List Int):=impl_SumTable.l0 k (([]:List Int)) 0
theorem impl_SumTable.mono_l:∀ k,(∀ y0 y1,LeO (impl_SumTable.l0 k y0 y1) (impl_SumTable.l0 (k + 1) y0 y1))∧(∀ y0 y1 y2 y3,LeO (impl_SumTable.l1 k y0 y1 y2 y3) (impl_SumTable.l1 (k + 1) y0 y1 y2 y3))
  |0=>⟨fun _ _ r h=>by simp [impl_SumTable.l0] at h,fun _ _ _ _ r h=>by simp [impl_SumTable.l1] at h⟩
  |k + 1=>by
    obtain ⟨ih0,ih1⟩:=impl_SumTable.mono_l k
    refine ⟨?_,?_⟩
    · intro y0 y1
      unfold impl_SumTable.l0
      repeat' first
      |(with_reducible exact ih0 _ _)
      |(with_reducible exact ih1 _ _ _ _)
      |(with_reducible exact LeO.refl _)
      |(with_reducible exact LeO.none _)
      |(with_reducible refine LeO.ite ?_ ?_)
      |(with_reducible refine LeO.bind ?_ (fun _=>?_))
      |exact ih0 _ _
      |exact ih1 _ _ _ _
      |exact LeO.none _
      |refine LeO.ite ?_ ?_
      |refine LeO.bind ?_ (fun _=>?_)
    · intro y0 y1 y2 y3
      unfold impl_SumTable.l1
      repeat' first
      |(with_reducible exact ih0 _ _)
      |(with_reducible exact ih1 _ _ _ _)
      |(with_reducible exact LeO.refl _)
      |(with_reducible exact LeO.none _)
      |(with_reducible refine LeO.ite ?_ ?_)
      |(with_reducible refine LeO.bind ?_ (fun _=>?_))
      |exact ih0 _ _
      |exact ih1 _ _ _ _
      |exact LeO.none _
      |refine LeO.ite ?_ ?_
      |refine LeO.bind ?_ (fun _=>?_)
theorem impl_SumTable.mono:∀ k,LeO (impl_SumTable.f k ) (impl_SumTable.f (k + 1) ):=by
  intro  k
  obtain ⟨ih0,ih1⟩:=impl_SumTable.mono_l k
  unfold impl_SumTable.f
  repeat' first
      |(with_reducible exact ih0 _ _)
      |(with_reducible exact ih1 _ _ _ _)
      |(with_reducible exact LeO.refl _)
      |(with_reducible exact LeO.none _)
      |(with_reducible refine LeO.ite ?_ ?_)
      |(with_reducible refine LeO.bind ?_ (fun _=>?_))
      |exact ih0 _ _
      |exact ih1 _ _ _ _
      |exact LeO.none _
      |refine LeO.ite ?_ ?_
      |refine LeO.bind ?_ (fun _=>?_)
set_option maxHeartbeats 8000000 in
set_option maxRecDepth 100000 in
theorem impl_SumTable.calls (k:Nat)  (r:List Int) (w:World) (h:impl_SumTable.f k  = some r) :
    Calls Tryd.prog 99 #[] w fun e w' => ∃ v0_:Value,e = .returned (v0_)∧Kd.R (Kd.int .u32) 106 w' w.heap.size (fun _=>True) v0_ r∧Below w.heap.size w w':=by
 have HB:=AsZ.mk (Below.refl w.heap.size w)
 have H:(impl_SumTable.l0 k (([]:List Int)) 0)=some r:=h
 clear h
 obtain ⟨y108,hy108⟩:∃ y_:List Int,y_=(([]:List Int)):=⟨_,rfl⟩
 replace H:(impl_SumTable.l0 k y108 0)=some r:=by first|(rw [hy108];with_reducible exact H)|(have H2_:=(Option.bind_some _ _).symm.trans H;rw [hy108];with_reducible exact H2_)|(have H2_:=(Option.bind_some _ _).symm.trans H;with_reducible exact H2_)|with_reducible exact H|(rw [hy108];exact H)|exact H
 have Ny108:=AsZ.mk hy108
 clear hy108
 have H':=AsZ.mk H
 clear H
 go_enter Tryd.func99,Tryd.ntmps99
 go_wp2_with (first|((with_reducible refine gate_dst (N:=4) rfl ?_);refine Kd.R_lit (Kd.int .u32) _ 106 ?hg (N:=4) ?hd (xs:=([]:List Int)) (inner:=[]) (ok:=fun _=>True) (okp:=fun _=>True) ?hr ?hp (fun _ hk=>hk) trivial (Below.refl _ _) (Nat.le_refl _) (by simp) ?_;(case hd=>rfl);(case hg=>rfl);(case hr=>first|(go_simp;done)|(go_simp;rfl));(case hp=>exact (Reps.none _ _));intro v109 w1 ho2 hb hg_ hnew_;clear hg_ hnew_;(first|rw [← Ny108.out] at ho2|(simp only [Int.reduceToNat] at ho2;rw [← Ny108.out] at ho2));have n0_:=AsZ.mk (Kd.R_lower ho2 (bwz (by repeat (first|(with_reducible first|exact HB.out|apply bwa|apply pbN|apply bw1)|exact HB.out))));have n1_:=AsZ.mk (bwp (by repeat (first|(with_reducible first|exact HB.out|apply bwa|apply pbN|apply bw1)|exact HB.out)) hb);clear HB;have HO110:=n0_;have HB:=n1_;clear n0_ n1_;clear hb ho2))
 go_loopg [1,5] k (fun kq v1 v5 w' => ∃ (x1_1:List Int) (x5_1:Int),v5 = .int .u32 x5_1∧AsZ (impl_SumTable.l0 kq x1_1 x5_1=some r)∧AsZ (kq≤k)∧AsZ (Kd.R (Kd.int .u32) 106 w' w.heap.size (fun _=>True) v1 x1_1)∧AsZ (Below w.heap.size w w'))
 case atStart=>exact ⟨(y108),(0),(by first|rfl|(simp;done)|(simp [*];done)),H',⟨Nat.le_refl _⟩,⟨by (with_reducible repeat (first|apply Kd.R_alloc|apply Kd.R_drewN|apply Kd.R_drew));exact HO110.out⟩,⟨by repeat (first|(with_reducible first|exact HB.out|apply bwa|apply pbN|apply bw1)|exact HB.out)⟩⟩
 case round =>
  clear H'
  try clear p2
  obtain ⟨x1_1,x5_1,rfl,HA,HK1,HO_1,HB⟩:=hrel
  cases gk with
  |zero=>exact absurd HA.out (by simp [impl_SumTable.l0])
  |succ k1 =>
   have H:=HA.out
   clear HA
   simp only [impl_SumTable.l0] at H
   by_cases c3:x5_1 < 256
   rotate_left
   · rw [if_neg c3] at H
     have c3b0:decide (x5_1 < 256)=false:=decide_eq_false c3
     clear c3
     obtain rfl:=zI H
     go_wp2
     go_ret
     exact ⟨_,by first|rfl|(simp [errW_none,errW_some]<;>rfl)|(simp [*,errW_none,errW_some]<;>rfl),by (with_reducible repeat (first|apply Kd.R_alloc|apply Kd.R_drewN|apply Kd.R_drew));exact HO_1.out,by repeat (first|(with_reducible first|exact HB.out|apply bwa|apply pbN|apply bw1)|exact HB.out)⟩
   rw [if_pos c3] at H
   have c3b0:decide (x5_1 < 256)=true:=zE c3
   clear c3
   have H':=AsZ.mk H
   clear H
   go_wp2
   go_loopg [2,8] k1 (fun kq v2 v8 w' => ∃ (x2_2:Int) (x8_2:Int),v2 = .int .u32 x2_2∧v8 = .int .i64 x8_2∧AsZ (impl_SumTable.l1 kq x1_1 x2_2 x5_1 x8_2=some r)∧AsZ (kq≤k1)∧AsZ (Kd.R (Kd.int .u32) 106 w' w.heap.size (fun _=>True) u1 x1_1)∧AsZ (Below w.heap.size w w'))
   case atStart=>exact ⟨(x5_1),(0),(by first|rfl|(simp;done)|(simp [*];done)),(by first|rfl|(simp;done)|(simp [*];done)),H',⟨Nat.le_refl _⟩,⟨by (with_reducible repeat (first|apply Kd.R_alloc|apply Kd.R_drewN|apply Kd.R_drew));exact HO_1.out⟩,⟨by repeat (first|(with_reducible first|exact HB.out|apply bwa|apply pbN|apply bw1)|exact HB.out)⟩⟩
   case round =>
    clear H'
    try clear p2
    try clear c3
    try clear c3b0
    try clear p2
    obtain ⟨x2_2,x8_2,rfl,rfl,HA,HK2,HO_1,HB⟩:=hrel
    cases gk with
    |zero=>exact absurd HA.out (by simp [impl_SumTable.l1])
    |succ k2 =>
     have H:=HA.out
     clear HA
     simp only [impl_SumTable.l1] at H
     by_cases c4:x8_2 < 8
     · rw [if_pos c4] at H
       have c4b0:decide (x8_2 < 8)=true:=zE c4
       clear c4
       by_cases c5:(Go.bits .and .u32 x2_2 1)=1
       rotate_left
       · rw [if_neg c5] at H
         have c5b0:((Go.bits .and .u32 x2_2 1) == 1)=false:=beq_eq_false_iff_ne.mpr c5
         have c5b1:((Go.bits .and .u32 x2_2 1) != 1)=true:=bne_iff_ne.mpr c5
         have H':=AsZ.mk H
         clear H
         go_wp2
         go_roundg k2
         case measure=>have:=HK1.out;have:=HK2.out;omega
         case rel=>exact ⟨(x2_2 / 2),(wrap64 (x8_2 + 1)),(by first|rfl|(simp;done)|(simp [*];done)),(by first|rfl|(simp;done)|(simp [*];done)),H',⟨by have:=HK1.out;have:=HK2.out;omega⟩,⟨by (with_reducible repeat (first|apply Kd.R_alloc|apply Kd.R_drewN|apply Kd.R_drew));exact HO_1.out⟩,⟨by repeat (first|(with_reducible first|exact HB.out|apply bwa|apply pbN|apply bw1)|exact HB.out)⟩⟩
       rw [if_pos c5] at H
       have c5b0:((Go.bits .and .u32 x2_2 1) == 1)=true:=beq_iff_eq.mpr c5
       have c5b1:((Go.bits .and .u32 x2_2 1) != 1)=false:=bne_eq_false_iff_eq.mpr c5
       clear c5
       have H':=AsZ.mk H
       clear H
       go_wp2
       go_roundg k2
       case measure=>have:=HK1.out;have:=HK2.out;omega
       case rel=>exact ⟨(Go.bits .xor .u32 (x2_2 / 2) 2197175160),(wrap64 (x8_2 + 1)),(by first|rfl|(simp;done)|(simp [*];done)),(by first|rfl|(simp;done)|(simp [*];done)),H',⟨by have:=HK1.out;have:=HK2.out;omega⟩,⟨by (with_reducible repeat (first|apply Kd.R_alloc|apply Kd.R_drewN|apply Kd.R_drew));exact HO_1.out⟩,⟨by repeat (first|(with_reducible first|exact HB.out|apply bwa|apply pbN|apply bw1)|exact HB.out)⟩⟩
     rw [if_neg c4] at H
     have c4b0:decide (x8_2 < 8)=false:=decide_eq_false c4
     clear c4
     by_cases c6:x1_1.length < 35184372088832
     rotate_left
     · rw [if_neg c6] at H
       exact absurd H (by simp)
     rw [if_pos c6] at H
     have LMc6:=AsZ.mk c6
     clear c6
     obtain ⟨y111,hy111⟩:∃ y_:List Int,y_=(x1_1 ++ [x2_2]):=⟨_,rfl⟩
     replace H:(impl_SumTable.l0 k2 y111 ((x5_1 + 1) % 4294967296))=some r:=by first|(rw [hy111];with_reducible exact H)|(have H2_:=(Option.bind_some _ _).symm.trans H;rw [hy111];with_reducible exact H2_)|(have H2_:=(Option.bind_some _ _).symm.trans H;with_reducible exact H2_)|with_reducible exact H|(rw [hy111];exact H)|exact H
     have Ny111:=AsZ.mk hy111
     clear hy111
     have H':=AsZ.mk H
     clear H
     go_wp2_with (first|((with_reducible refine gate_builtin (b := .append) (xs:=#[.tmp 19,.tmp 21]) rfl ?_);at_builtin;refine Kd.R_append (Kd.int .u32) (w0:=w) w.heap.size rfl (.tmp 19) (.tmp 21) 88 106 (.int .u32 0) 4 rfl Tryd.underlying88 info106 rfl (by decide) (by omega) u1 x1_1 x2_2 [.int .u32 x2_2] (fun _=>True) (fun _=>False) rfl rfl ?aP (fun _ hk=>hk.elim) ?aF ?aO ?aB ?aS ?aL ?_;(case aP=>exact rfl);(case aB=>exact (by repeat (first|(with_reducible first|exact HB.out|apply bwa|apply pbN|apply bw1)|exact HB.out)));(case aF=>exact (fun _ _=>trivial));(case aO=>exact (by (with_reducible repeat (first|apply Kd.R_alloc|apply Kd.R_drewN|apply Kd.R_drew));exact HO_1.out));(case aS=>exact (bwz (by repeat (first|(with_reducible first|exact HB.out|apply bwa|apply pbN|apply bw1)|exact HB.out))));(case aL=>have:=LMc6.out;omega);intro v112 w7 ho hb hg hat;rw [← Ny111.out] at ho;have n0_:=AsZ.mk (hb);have n1_:=AsZ.mk (ho);clear HB;clear HO_1;have HB:=n0_;have HO113:=n1_;clear n0_ n1_;clear ho hb hg hat))
     go_roundg k2
     case measure=>have:=HK1.out;have:=HK2.out;omega
     case rel=>exact ⟨(y111),((x5_1 + 1) % 4294967296),(by first|rfl|(simp;done)|(simp [*];done)),H',⟨by have:=HK1.out;have:=HK2.out;omega⟩,⟨by (with_reducible repeat (first|apply Kd.R_alloc|apply Kd.R_drewN|apply Kd.R_drew));exact HO113.out⟩,⟨by repeat (first|(with_reducible first|exact HB.out|apply bwa|apply pbN|apply bw1)|exact HB.out)⟩⟩
/-! ### impl_SumOn: function 97 -/
def impl_SumOn.l0:Nat→Int→ByteArray→List Int→Int→Int→Option (Int)
  |0,_,_,_,_,_=>none
  |k + 1,x0,x1,x5,x9,x10=>if x10 < x9 then (if 0≤x10 then (if x10 < (x1.size:Int) then (if 0≤(Go.bits .xor .u8 ((x0) % 256) (bt x1 x10)) then (if (Go.bits .xor .u8 ((x0) % 256) (bt x1 x10)) < (x5.length:Int) then (impl_SumOn.l0 k (Go.bits .xor .u32 (x0 / 256) (rd x5 (Go.bits .xor .u8 ((x0) % 256) (bt x1 x10)))) x1 x5 x9 (wrap64 (x10 + 1))) else (none)) else (none)) else (none)) else (none)) else (some x0)
def impl_SumOn.f (k:Nat) (a0:Int) (a1:ByteArray):Option (Int):=(impl_SumTable.f k).bind fun t114=>(impl_SumOn.l0 k a0 a1 t114 (a1.size:Int) 0)
theorem impl_SumOn.mono_l:∀ k,(∀ y0 y1 y2 y3 y4,LeO (impl_SumOn.l0 k y0 y1 y2 y3 y4) (impl_SumOn.l0 (k + 1) y0 y1 y2 y3 y4))
  |0=>fun _ _ _ _ _ r h=>by simp [impl_SumOn.l0] at h
  |k + 1=>by
    have ih0:=impl_SumOn.mono_l k
    · intro y0 y1 y2 y3 y4
      unfold impl_SumOn.l0
      repeat' first
      |(with_reducible exact ih0 _ _ _ _ _)
      |(with_reducible exact impl_SumTable.mono _)
      |(with_reducible exact LeO.refl _)
      |(with_reducible exact LeO.none _)
      |(with_reducible refine LeO.ite ?_ ?_)
      |(with_reducible refine LeO.bind ?_ (fun _=>?_))
      |exact ih0 _ _ _ _ _
      |exact impl_SumTable.mono _
      |exact LeO.none _
      |refine LeO.ite ?_ ?_
      |refine LeO.bind ?_ (fun _=>?_)
theorem impl_SumOn.mono:∀ a0 a1 k,LeO (impl_SumOn.f k a0 a1) (impl_SumOn.f (k + 1) a0 a1):=by
  intro a0 a1 k
  have ih0:=impl_SumOn.mono_l k
  unfold impl_SumOn.f
  repeat' first
      |(with_reducible exact ih0 _ _ _ _ _)
      |(with_reducible exact impl_SumTable.mono _)
      |(with_reducible exact LeO.refl _)
      |(with_reducible exact LeO.none _)
      |(with_reducible refine LeO.ite ?_ ?_)
      |(with_reducible refine LeO.bind ?_ (fun _=>?_))
      |exact ih0 _ _ _ _ _
      |exact impl_SumTable.mono _
      |exact LeO.none _
      |refine LeO.ite ?_ ?_
      |refine LeO.bind ?_ (fun _=>?_)
set_option maxHeartbeats 8000000 in
set_option maxRecDepth 100000 in
theorem impl_SumOn.calls (k:Nat) (a0:Int) (a1:ByteArray) (r:Int) (w:World) (h:impl_SumOn.f k a0 a1=some r) :
    Calls Tryd.prog 97 #[.int .u32 a0,.string a1] w fun e w'=>e = .returned (.int .u32 r)∧Below w.heap.size w w':=by
 have HB:=AsZ.mk (Below.refl w.heap.size w)
 have H:((impl_SumTable.f k).bind fun t114=>(impl_SumOn.l0 k a0 a1 t114 (a1.size:Int) 0))=some r:=h
 clear h
 replace H:=Option.bind_eq_some_iff.mp H
 obtain ⟨t114,A30,H⟩:=H
 replace H:(impl_SumOn.l0 k a0 a1 t114 (a1.size:Int) 0)=some r:=H
 have A3:=AsZ.mk A30
 clear A30
 have H':=AsZ.mk H
 clear H
 go_enter Tryd.func97,Tryd.ntmps97
 go_wp2_with (first|((with_reducible refine gcl (f:=99) rfl ?_);refine goesL_ (some 7) rfl rfl Tryd.func99 (by kernel_rfl) rfl #[] rfl (by (try simp only [zA,zC,zN]);first|done|rfl|(simp only [zM,zL];rfl)) ?_;(with_reducible refine (impl_SumTable.calls k  t114 _ A3.out).mono ?_);rintro e w4 ⟨v115,rfl,ho0,hb⟩;refine ⟨_,rfl,?_⟩;have n0_:=AsZ.mk (Kd.R_lower ho0 (bwz (by repeat (first|(with_reducible first|exact HB.out|apply bwa|apply pbN|apply bw1)|exact HB.out))));have n1_:=AsZ.mk (bwp (by repeat (first|(with_reducible first|exact HB.out|apply bwa|apply pbN|apply bw1)|exact HB.out)) hb);clear HB;have HO116:=n0_;have HB:=n1_;clear n0_ n1_;(try clear hb);(try clear hb2);(try clear hk);(try clear hi);(try clear ho0)))
 go_loopg [0,10] k (fun kq v0 v10 w' => ∃ (x0_1:Int) (x10_1:Int),v0 = .int .u32 x0_1∧v10 = .int .i64 x10_1∧AsZ (impl_SumOn.l0 kq x0_1 a1 t114 (a1.size:Int) x10_1=some r)∧AsZ (kq≤k)∧AsZ (Kd.R (Kd.int .u32) 106 w' w.heap.size (fun _=>True) v115 t114)∧AsZ (Below w.heap.size w w'))
 case atStart=>exact ⟨(a0),(0),(by first|rfl|(simp;done)|(simp [*];done)),(by first|rfl|(simp;done)|(simp [*];done)),H',⟨Nat.le_refl _⟩,⟨by (with_reducible repeat (first|apply Kd.R_alloc|apply Kd.R_drewN|apply Kd.R_drew));exact HO116.out⟩,⟨by repeat (first|(with_reducible first|exact HB.out|apply bwa|apply pbN|apply bw1)|exact HB.out)⟩⟩
 case round =>
  clear H'
  try clear p2
  obtain ⟨x0_1,x10_1,rfl,rfl,HA,HK1,HO_5,HB⟩:=hrel
  cases gk with
  |zero=>exact absurd HA.out (by simp [impl_SumOn.l0])
  |succ k1 =>
   have H:=HA.out
   clear HA
   simp only [impl_SumOn.l0] at H
   by_cases c5:x10_1 < (a1.size:Int)
   rotate_left
   · rw [if_neg c5] at H
     have c5b0:decide (x10_1 < (a1.size:Int))=false:=decide_eq_false c5
     clear c5
     obtain rfl:=zI H
     go_wp2
     go_ret
     exact ⟨by first|rfl|(simp [errW_none,errW_some]<;>rfl)|(simp [*,errW_none,errW_some]<;>rfl),by repeat (first|(with_reducible first|exact HB.out|apply bwa|apply pbN|apply bw1)|exact HB.out)⟩
   rw [if_pos c5] at H
   have c5b0:decide (x10_1 < (a1.size:Int))=true:=zE c5
   clear c5
   by_cases c6:0≤x10_1
   rotate_left
   · rw [if_neg c6] at H
     exact absurd H (by simp)
   rw [if_pos c6] at H
   have c6b0:decide (0≤x10_1)=true:=zE c6
   clear c6
   by_cases c7:x10_1 < (a1.size:Int)
   rotate_left
   · rw [if_neg c7] at H
     exact absurd H (by simp)
   rw [if_pos c7] at H
   have c7b0:decide (x10_1 < (a1.size:Int))=true:=zE c7
   clear c7
   obtain ⟨ji9,hji9⟩:∃ j_:Int,(Go.bits .xor .u8 ((x0_1) % 256) (bt a1 x10_1))=j_:=⟨_,rfl⟩
   replace H:(if 0≤(ji9) then (if (ji9) < (t114.length:Int) then (impl_SumOn.l0 k1 (Go.bits .xor .u32 (x0_1 / 256) (rd t114 (ji9))) a1 t114 (a1.size:Int) (wrap64 (x10_1 + 1))) else (none)) else (none))=some r:=by first|(rw [hji9] at H;exact H)|(simp only [hji9] at H ⊢;exact H)
   by_cases c10:0≤(ji9)
   rotate_left
   · rw [if_neg c10] at H
     exact absurd H (by simp)
   rw [if_pos c10] at H
   have c10b0:decide (0≤(ji9))=true:=zE c10
   clear c10
   by_cases c11:(ji9) < (t114.length:Int)
   rotate_left
   · rw [if_neg c11] at H
     exact absurd H (by simp)
   rw [if_pos c11] at H
   have c11b0:decide ((ji9) < (t114.length:Int))=true:=zE c11
   clear c11
   have H':=AsZ.mk H
   clear H
   have p8:0≤(x10_1:Int):=zD (by first|(with_reducible assumption)|assumption)
   have q8:x10_1 < (a1.size:Int):=zD (by first|(with_reducible assumption)|assumption)
   have hx8:=bt_at a1 x10_1
   replace p8:=eq_true p8
   replace q8:=eq_true q8
   obtain ⟨Ao12,co12,eo12⟩:=Kd.R_slice HO_5.out
   subst eo12
   have p117:0≤((ji9):Int):=zD (by first|(with_reducible assumption)|assumption)
   have q117:(ji9) < (t114.length:Int):=zD (by first|(with_reducible assumption)|assumption)
   obtain ⟨ad117,e117,hx117_0⟩:=Kd.at_int (Kd.R_reads' HO_5.out).2.2 (ji9) p117 q117
   cases e117
   replace p117:=eq_true p117
   replace q117:=eq_true q117
   go_wp2
   go_roundg k1
   case measure=>have:=HK1.out;omega
   case rel=>exact ⟨(Go.bits .xor .u32 (x0_1 / 256) (rd t114 (ji9))),(wrap64 (x10_1 + 1)),(by first|rfl|(simp;done)|(simp only [← hji9]<;>(first|rfl|simp))|(simp [*];done)),(by first|rfl|(simp;done)|(simp [*];done)),H',⟨by have:=HK1.out;omega⟩,⟨by (with_reducible repeat (first|apply Kd.R_alloc|apply Kd.R_drewN|apply Kd.R_drew));exact HO_5.out⟩,⟨by repeat (first|(with_reducible first|exact HB.out|apply bwa|apply pbN|apply bw1)|exact HB.out)⟩⟩
/-! ### impl_SumOf: function 85 -/
def impl_SumOf.f (k:Nat) (a0:ByteArray):Option (Int):=(impl_SumOn.f k 4294967295 a0).bind fun t118=>(some (Go.bits .xor .u32 4294967295 t118))
theorem impl_SumOf.mono:∀ a0 k,LeO (impl_SumOf.f k a0) (impl_SumOf.f (k + 1) a0):=by
  intro a0 k
  unfold impl_SumOf.f
  repeat' first
      |(with_reducible exact impl_SumOn.mono _ _ _)
      |(with_reducible exact LeO.refl _)
      |(with_reducible exact LeO.none _)
      |(with_reducible refine LeO.ite ?_ ?_)
      |(with_reducible refine LeO.bind ?_ (fun _=>?_))
      |exact impl_SumOn.mono _ _ _
      |exact LeO.none _
      |refine LeO.ite ?_ ?_
      |refine LeO.bind ?_ (fun _=>?_)
set_option maxHeartbeats 8000000 in
set_option maxRecDepth 100000 in
theorem impl_SumOf.calls (k:Nat) (a0:ByteArray) (r:Int) (w:World) (h:impl_SumOf.f k a0=some r) :
    Calls Tryd.prog 85 #[.string a0] w fun e w'=>e = .returned (.int .u32 r)∧Below w.heap.size w w':=by
 have HB:=AsZ.mk (Below.refl w.heap.size w)
 have H:((impl_SumOn.f k 4294967295 a0).bind fun t118=>(some (Go.bits .xor .u32 4294967295 t118)))=some r:=h
 clear h
 replace H:=Option.bind_eq_some_iff.mp H
 obtain ⟨t118,A20,H⟩:=H
 replace H:(some (Go.bits .xor .u32 4294967295 t118))=some r:=H
 have A2:=AsZ.mk A20
 clear A20
 obtain rfl:=zI H
 go_enter Tryd.func85,Tryd.ntmps85
 go_wp2_with (first|((with_reducible refine gcl (f:=97) rfl ?_);refine goesL_ (some 4) rfl rfl Tryd.func97 (by kernel_rfl) rfl #[.int .u32 4294967295,.string a0] rfl (by (try simp only [zA,zC,zN]);first|done|rfl|(simp only [zM,zL];rfl)) ?_;(with_reducible refine (impl_SumOn.calls k 4294967295 a0 t118 _ A2.out).mono ?_);rintro e w3 ⟨rfl,hb⟩;refine ⟨_,rfl,?_⟩;have n0_:=AsZ.mk (bwp (by repeat (first|(with_reducible first|exact HB.out|apply bwa|apply pbN|apply bw1)|exact HB.out)) hb);clear HB;have HB:=n0_;clear n0_;(try clear hb);(try clear hb2);(try clear hk);(try clear hi)))
 go_ret
 exact ⟨by first|rfl|(simp [errW_none,errW_some]<;>rfl)|(simp [*,errW_none,errW_some]<;>rfl),by repeat (first|(with_reducible first|exact HB.out|apply bwa|apply pbN|apply bw1)|exact HB.out)⟩
/-! ### strconv_Itoa: function 86 -/
def strconv_Itoa.f (a0:Int):Option (ByteArray):=if -9223372036854775808≤a0∧a0≤9223372036854775807 then some ⟨(Lib.itoa a0).toArray⟩ else none
theorem strconv_Itoa.calls (a0:Int) (r:ByteArray) (w:World) (hT:Go.Proofs.YtffjlpphcjfdgaaDoor.Tab w) (h:strconv_Itoa.f a0=some r) :
    Calls Tryd.prog 86 #[.int .i64 a0] w fun e w'=>e = .returned (.string r)∧Below w.heap.size w w':=by
 unfold strconv_Itoa.f at h
 split at h
 rotate_left
 · cases h
 rename_i hh
 obtain ⟨h0,h1⟩:=hh
 obtain rfl:=zI h
 refine (Tryd.strconv_Itoa a0 h0 h1 w hT).mono ?_
 rintro e w' ⟨rfl,k,os,rfl⟩
 exact ⟨rfl,Lib.below_grow _ _ (Nat.le_refl _) _ _⟩
/-! ### impl_towerOf: function 44 -/
mutual
def impl_towerOf.l0:Nat→Int→Int→Option (Int)
  |0,_,_=>none
  |k + 1,x5,x6=>if (Go.bits .and .u32 x5 3)=0 then (impl_towerOf.j1 k x5 x6 (decide (x6 < 5))) else (impl_towerOf.j1 k x5 x6 false)
def impl_towerOf.j1:Nat→Int→Int→Bool→Option (Int)
  |0,_,_,_=>none
  |k + 1,x5,x6,x18=>if x18=true then (impl_towerOf.l0 k (x5 / 4) (wrap64 (x6 + 1))) else (some x6)
end
def impl_towerOf.f (k:Nat) (a0:ByteArray) (a1:Int):Option (Int):=(strconv_Itoa.f a1).bind fun t119=>(if a0.size + t119.size≤9223372036854775807 then ((impl_SumOf.f k (a0 ++ t119)).bind fun t120=>(impl_towerOf.l0 k t120 1)) else (none))
theorem impl_towerOf.mono_l:∀ k,(∀ y0 y1,LeO (impl_towerOf.l0 k y0 y1) (impl_towerOf.l0 (k + 1) y0 y1))∧(∀ y0 y1 y2,LeO (impl_towerOf.j1 k y0 y1 y2) (impl_towerOf.j1 (k + 1) y0 y1 y2))
  |0=>⟨fun _ _ r h=>by simp [impl_towerOf.l0] at h,fun _ _ _ r h=>by simp [impl_towerOf.j1] at h⟩
  |k + 1=>by
    obtain ⟨ih0,ih1⟩:=impl_towerOf.mono_l k
    refine ⟨?_,?_⟩
    · intro y0 y1
      unfold impl_towerOf.l0
      repeat' first
      |(with_reducible exact ih0 _ _)
      |(with_reducible exact ih1 _ _ _)
      |(with_reducible exact impl_SumOf.mono _ _)
      |(with_reducible exact LeO.refl _)
      |(with_reducible exact LeO.none _)
      |(with_reducible refine LeO.ite ?_ ?_)
      |(with_reducible refine LeO.bind ?_ (fun _=>?_))
      |exact ih0 _ _
      |exact ih1 _ _ _
      |exact impl_SumOf.mono _ _
      |exact LeO.none _
      |refine LeO.ite ?_ ?_
      |refine LeO.bind ?_ (fun _=>?_)
    · intro y0 y1 y2
      unfold impl_towerOf.j1
      repeat' first
      |(with_reducible exact ih0 _ _)
      |(with_reducible exact ih1 _ _ _)
      |(with_reducible exact impl_SumOf.mono _ _)
      |(with_reducible exact LeO.refl _)
      |(with_reducible exact LeO.none _)
      |(with_reducible refine LeO.ite ?_ ?_)
      |(with_reducible refine LeO.bind ?_ (fun _=>?_))
      |exact ih0 _ _
      |exact ih1 _ _ _
      |exact impl_SumOf.mono _ _
      |exact LeO.none _
      |refine LeO.ite ?_ ?_
      |refine LeO.bind ?_ (fun _=>?_)
theorem impl_towerOf.mono:∀ a0 a1 k,LeO (impl_towerOf.f k a0 a1) (impl_towerOf.f (k + 1) a0 a1):=by
  intro a0 a1 k
  obtain ⟨ih0,ih1⟩:=impl_towerOf.mono_l k
  unfold impl_towerOf.f
  repeat' first
      |(with_reducible exact ih0 _ _)
      |(with_reducible exact ih1 _ _ _)
      |(with_reducible exact impl_SumOf.mono _ _)
      |(with_reducible exact LeO.refl _)
      |(with_reducible exact LeO.none _)
      |(with_reducible refine LeO.ite ?_ ?_)
      |(with_reducible refine LeO.bind ?_ (fun _=>?_))
      |exact ih0 _ _
      |exact ih1 _ _ _
      |exact impl_SumOf.mono _ _
      |exact LeO.none _
      |refine LeO.ite ?_ ?_
      |refine LeO.bind ?_ (fun _=>?_)
set_option maxHeartbeats 8000000 in
set_option maxRecDepth 100000 in
theorem impl_towerOf.calls (k:Nat) (a0:ByteArray) (a1:Int) (r:Int) (w:World) (hT:Tab w) (h:impl_towerOf.f k a0 a1=some r) :
    Calls Tryd.prog 44 #[.string a0,.int .i64 a1] w fun e w'=>e = .returned (.int .i64 r)∧Below w.heap.size w w':=by
 have HT:=AsZ.mk hT
 clear hT
 have HB:=AsZ.mk (Below.refl w.heap.size w)
 have H:((strconv_Itoa.f a1).bind fun t119=>(if a0.size + t119.size≤9223372036854775807 then ((impl_SumOf.f k (a0 ++ t119)).bind fun t120=>(impl_towerOf.l0 k t120 1)) else (none)))=some r:=h
 clear h
 replace H:=Option.bind_eq_some_iff.mp H
 obtain ⟨t119,A30,H⟩:=H
 replace H:(if a0.size + t119.size≤9223372036854775807 then ((impl_SumOf.f k (a0 ++ t119)).bind fun t120=>(impl_towerOf.l0 k t120 1)) else (none))=some r:=H
 have A3:=AsZ.mk A30
 clear A30
 by_cases c4:a0.size + t119.size≤9223372036854775807
 rotate_left
 · rw [if_neg c4] at H
   exact absurd H (by simp)
 rw [if_pos c4] at H
 have c4b0:=eq_true c4
 have c4b1:decide (a0.size + t119.size≤9223372036854775807)=true:=zE c4
 try have c4b2:(9223372036854775807 < a0.size + t119.size)=False:=eq_false (Nat.not_lt.2 c4)
 replace H:=Option.bind_eq_some_iff.mp H
 obtain ⟨t120,A50,H⟩:=H
 replace H:(impl_towerOf.l0 k t120 1)=some r:=H
 have A5:=AsZ.mk A50
 clear A50
 have H':=AsZ.mk H
 clear H
 go_enter Tryd.func44,Tryd.ntmps44
 go_wp2_with (first|((with_reducible refine gcl (f:=86) rfl ?_);refine goesL_ (some 9) rfl rfl Tryd.func86 (by kernel_rfl) rfl #[.int .i64 a1] rfl (by (try simp only [zA,zC,zN]);first|done|rfl|(simp only [zM,zL];rfl)) ?_;(with_reducible refine (strconv_Itoa.calls a1 t119 _ ?sideT A3.out).mono ?_);(case sideT=>exact tab_below HT.out (by repeat (first|(with_reducible first|exact HB.out|apply bwa|apply pbN|apply bw1|refine bws ?_ (AsZ.out (by assumption)))|exact HB.out)));rintro e w6 ⟨rfl,hb⟩;refine ⟨_,rfl,?_⟩;have n0_:=AsZ.mk (bwp (by repeat (first|(with_reducible first|exact HB.out|apply bwa|apply pbN|apply bw1)|exact HB.out)) hb);clear HB;have HB:=n0_;clear n0_;(try clear hb);(try clear hb2);(try clear hk);(try clear hi))|((with_reducible refine gcl (f:=85) rfl ?_);refine goesL_ (some 11) rfl rfl Tryd.func85 (by kernel_rfl) rfl #[.string (a0 ++ t119)] rfl (by (try simp only [zA,zC,zN]);first|done|rfl|(simp only [zM,zL];rfl)) ?_;(with_reducible refine (impl_SumOf.calls k (a0 ++ t119) t120 _ A5.out).mono ?_);rintro e w7 ⟨rfl,hb⟩;refine ⟨_,rfl,?_⟩;have n0_:=AsZ.mk (bwp (by repeat (first|(with_reducible first|exact HB.out|apply bwa|apply pbN|apply bw1)|exact HB.out)) hb);clear HB;have HB:=n0_;clear n0_;(try clear hb);(try clear hb2);(try clear hk);(try clear hi)))
 go_loopg [5,6] k (fun kq v5 v6 w' => ∃ (x5_1:Int) (x6_1:Int),v5 = .int .u32 x5_1∧v6 = .int .i64 x6_1∧AsZ (impl_towerOf.l0 kq x5_1 x6_1=some r)∧AsZ (kq≤k)∧AsZ (Below w.heap.size w w'))
 case atStart=>exact ⟨(t120),(1),(by first|rfl|(simp;done)|(simp [*];done)),(by first|rfl|(simp;done)|(simp [*];done)),H',⟨Nat.le_refl _⟩,⟨by repeat (first|(with_reducible first|exact HB.out|apply bwa|apply pbN|apply bw1)|exact HB.out)⟩⟩
 case round =>
  clear H'
  try clear p2
  try clear c4
  try clear c4b0
  try clear c4b1
  try clear c4b2
  obtain ⟨x5_1,x6_1,rfl,rfl,HA,HK1,HB⟩:=hrel
  cases gk with
  |zero=>exact absurd HA.out (by simp [impl_towerOf.l0])
  |succ k1 =>
   have H:=HA.out
   clear HA
   simp only [impl_towerOf.l0] at H
   have HC8:=AsZ.mk H
   clear H
   go_upto_region 2 with (fail)
   go_cut [18] (fun v18 wc => ∃ (kq:Nat) (x18_7:Bool),v18 = .bool x18_7∧AsZ (impl_towerOf.j1 kq x5_1 x6_1 x18_7=some r)∧AsZ (kq≤k1)∧AsZ (Below w.heap.size w wc))
   case first =>
    have H:=HC8.out
    clear HC8
    by_cases c9:(Go.bits .and .u32 x5_1 3)=0
    rotate_left
    · rw [if_neg c9] at H
      have c9b0:((Go.bits .and .u32 x5_1 3) == 0)=false:=beq_eq_false_iff_ne.mpr c9
      have c9b1:((Go.bits .and .u32 x5_1 3) != 0)=true:=bne_iff_ne.mpr c9
      (first|rw [c9b0]|(simp only [i64_w,i32_w];rw [c9b0])|rw [c9b1]|skip)
      have H':=AsZ.mk H
      clear H
      go_wp2
      go_meet
      case rel=>exact ⟨_,(false),(by first|rfl|(simp;done)|(simp [*];done)),H',⟨by have:=HK1.out;first|omega|exact Nat.le_refl _⟩,⟨by repeat (first|(with_reducible first|exact HB.out|apply bwa|apply pbN|apply bw1)|exact HB.out)⟩⟩
    rw [if_pos c9] at H
    have c9b0:((Go.bits .and .u32 x5_1 3) == 0)=true:=beq_iff_eq.mpr c9
    have c9b1:((Go.bits .and .u32 x5_1 3) != 0)=false:=bne_eq_false_iff_eq.mpr c9
    clear c9
    (first|rw [c9b0]|(simp only [i64_w,i32_w];rw [c9b0])|rw [c9b1]|skip)
    have H':=AsZ.mk H
    clear H
    go_wp2
    go_meet
    case rel=>exact ⟨_,(decide (x6_1 < 5)),(by first|rfl|(simp;done)|(simp [*];done)),H',⟨by have:=HK1.out;first|omega|exact Nat.le_refl _⟩,⟨by repeat (first|(with_reducible first|exact HB.out|apply bwa|apply pbN|apply bw1)|exact HB.out)⟩⟩
   case rest =>
    clear HC8
    try clear p2
    try clear c4
    try clear c4b0
    try clear c4b1
    try clear c4b2
    try clear c8
    try clear c9
    try clear c9b0
    try clear c9b1
    try clear p2
    obtain ⟨kq,x18_7,rfl,HA,HJ7,HB⟩:=hcut
    cases kq with
    |zero=>exact absurd HA.out (by simp [impl_towerOf.j1])
    |succ kj7 =>
     have H:=HA.out
     clear HA
     simp only [impl_towerOf.j1] at H
     by_cases c10:x18_7=true
     rotate_left
     · replace c10:=Bool.eq_false_iff.mpr c10
       subst c10
       have H1:(some x6_1)=some r:=by rw [if_neg (show ¬ (false=true) by decide)] at H;exact H
       clear H
       have H:=H1
       clear H1
       obtain rfl:=zI H
       go_wp2
       go_ret
       exact ⟨by first|rfl|(simp [errW_none,errW_some]<;>rfl)|(simp [*,errW_none,errW_some]<;>rfl),by repeat (first|(with_reducible first|exact HB.out|apply bwa|apply pbN|apply bw1)|exact HB.out)⟩
     subst c10
     have H1:(impl_towerOf.l0 kj7 (x5_1 / 4) (wrap64 (x6_1 + 1)))=some r:=by rw [if_pos rfl] at H;exact H
     clear H
     have H:=H1
     clear H1
     have H':=AsZ.mk H
     clear H
     go_wp2
     go_roundg kj7
     case measure=>have:=HK1.out;have:=HJ7.out;omega
     case rel=>exact ⟨(x5_1 / 4),(wrap64 (x6_1 + 1)),(by first|rfl|(simp;done)|(simp [*];done)),(by first|rfl|(simp;done)|(simp [*];done)),H',⟨by have:=HK1.out;have:=HJ7.out;omega⟩,⟨by repeat (first|(with_reducible first|exact HB.out|apply bwa|apply pbN|apply bw1)|exact HB.out)⟩⟩
/-- A state of type 26 at block g of W; what its slices lead to came in by w0. -/
def IsS26 (w0 W:World) (g:Nat) (f0:List Int) (f1:List (S77)):Prop := ∃ A0 c0,∃ A1 c1,W.heap[g]? = some (.cells #[.slice A0 f0.length c0,.slice A1 f1.length c1] 26 (0,0))∧w0.heap.size≤g∧Kd.C (Kd.int .i64) w0 A0 f0.length f0∧f0.length≤c0∧Kd.C k77 w0 A1 f1.length f1∧f1.length≤c1
theorem IsS26.grown {w0 W:World} {g:Nat} {f0:List Int} {f1:List (S77)} {W1:World} {row:Option Nat} (h:IsS26 w0 W g f0 f1) (hw:W.grownBy W1 row) (hne:some g ≠ row):IsS26 w0 W1 g f0 f1:=by
  obtain ⟨A0,c0,A1,c1,hb,hg,hr0,hl0,hr1,hl1⟩:=h
  exact ⟨A0,c0,A1,c1,blk_grown hb hw hne,hg,hr0,hl0,hr1,hl1⟩
theorem IsS26.own_neN {w0 W:World} {g:Nat} {f0:List Int} {f1:List (S77)} {α:Type} {d:Kd α} {e:Nat} {base:Nat} {ok:Nat→Prop} {v:Value} {xs:List α} (h:IsS26 w0 W g f0 f1) (ho:Kd.N d e W base ok v xs) (ht:e ≠ 26):some g ≠ v.ownBlock:=by
  obtain ⟨A0,c0,A1,c1,hb,hg,hr0,hl0,hr1,hl1⟩:=h
  exact Kd.N_ne ho hb ht
theorem IsS26.fresh {w0 W:World} {g:Nat} {f0:List Int} {f1:List (S77)} (h:IsS26 w0 W g f0 f1):∀ k,W.heap.size≤k→k ≠ g:=by
  obtain ⟨A0,c0,A1,c1,hb,hg,hr0,hl0,hr1,hl1⟩:=h
  exact Kd.freshB hb
theorem IsS26.kept {w0 W:World} {g:Nat} {f0:List Int} {f1:List (S77)} {W1:World} {S:Nat→Prop} (h:IsS26 w0 W g f0 f1) (hk:Kept W W1 S) (hne:¬ S g):IsS26 w0 W1 g f0 f1:=by
  obtain ⟨A0,c0,A1,c1,hb,hg,hr0,hl0,hr1,hl1⟩:=h
  exact ⟨A0,c0,A1,c1,blk_kept hb hk hne,hg,hr0,hl0,hr1,hl1⟩
theorem IsS26.below {w0 W:World} {g:Nat} {f0:List Int} {f1:List (S77)} {W1:World} (h:IsS26 w0 W g f0 f1) (hw:Below W.heap.size W W1):IsS26 w0 W1 g f0 f1:=h.grown (grown_of_below hw none) (by simp)
theorem IsS26.alloc {w0 W:World} {g:Nat} {f0:List Int} {f1:List (S77)} (h:IsS26 w0 W g f0 f1) (o:Obj):IsS26 w0 (W.alloc o) g f0 f1:=h.below (bwa (Below.refl _ _) o)
theorem IsS26.drewN {w0 W:World} {g:Nat} {f0:List Int} {f1:List (S77)} (h:IsS26 w0 W g f0 f1) (m:Nat):IsS26 w0 (W.drewN m) g f0 f1:=h
theorem IsS26.drew {w0 W:World} {g:Nat} {f0:List Int} {f1:List (S77)} (h:IsS26 w0 W g f0 f1):IsS26 w0 W.drew g f0 f1:=h
theorem IsS26.at_ {w0 W:World} {g:Nat} {f0:List Int} {f1:List (S77)} {w':World} {m:Nat} (hq:W.drewN m=w') (h:IsS26 w0 W g f0 f1):IsS26 w0 w' g f0 f1:=by subst hq;exact IsS26.drewN h m
theorem IsS26.apart {w0 W:World} {g:Nat} {f0:List Int} {f1:List (S77)} {α:Type} {d:Kd α} {e:Nat} {base:Nat} {ok:Nat→Prop} {v:Value} {xs:List α} (h:IsS26 w0 W g f0 f1) (ho:d.R e W base ok v xs) (ht:∀ q,q ∈ e :: d.E→q ≠ 26):d.R e W base (fun k=>ok k∧k ≠ g) v xs:=by
  obtain ⟨A0,c0,A1,c1,hb,hg,hr0,hl0,hr1,hl1⟩:=h
  exact Kd.R_types ho hb ht
theorem IsS26.own_ne {w0 W:World} {g:Nat} {f0:List Int} {f1:List (S77)} {α:Type} {d:Kd α} {e:Nat} {base:Nat} {ok:Nat→Prop} {v:Value} {xs:List α} (h:IsS26 w0 W g f0 f1) (ho:d.R e W base ok v xs) (ht:e ≠ 26):some g ≠ v.ownBlock:=by
  obtain ⟨A0,c0,A1,c1,hb,hg,hr0,hl0,hr1,hl1⟩:=h
  exact Kd.R_ne ho hb ht
theorem IsS26.apartQ {w0 W:World} {g:Nat} {f0:List Int} {f1:List (S77)} {α:Type} {d:Kd α} {e:Nat} {base:Nat} {ok:Nat→Prop} {v:Value} {xs:List α} (h:IsS26 w0 W g f0 f1) (ho:d.Q e W base ok v xs) (ht:∀ q,q ∈ e :: d.E→q ≠ 26):d.Q e W base (fun k=>ok k∧k ≠ g) v xs:=by
  obtain ⟨A0,c0,A1,c1,hb,hg,hr0,hl0,hr1,hl1⟩:=h
  exact Kd.Q_types ho hb ht
theorem IsS26.own_neQ {w0 W:World} {g:Nat} {f0:List Int} {f1:List (S77)} {α:Type} {d:Kd α} {e:Nat} {base:Nat} {ok:Nat→Prop} {v:Value} {xs:List α} (h:IsS26 w0 W g f0 f1) (ho:d.Q e W base ok v xs) (ht:e ≠ 26):some g ≠ v.ownBlock:=by
  obtain ⟨A0,c0,A1,c1,hb,hg,hr0,hl0,hr1,hl1⟩:=h
  exact Kd.Q_ne ho hb ht
theorem IsS26.apartB {w0 W:World} {g:Nat} {f0:List Int} {f1:List (S77)} {d:Kd Int} {e:Nat} {base:Nat} {ok:Nat→Prop} {v:Value} {xs:List Int} (h:IsS26 w0 W g f0 f1) (ho:Kd.B d e W base ok v xs) (ht:∀ q,q ∈ e :: d.E→q ≠ 26):Kd.B d e W base (fun k=>ok k∧k ≠ g) v xs:=by
  obtain ⟨A0,c0,A1,c1,hb,hg,hr0,hl0,hr1,hl1⟩:=h
  exact Kd.B_types ho hb ht
theorem IsS26.own_neB {w0 W:World} {g:Nat} {f0:List Int} {f1:List (S77)} {d:Kd Int} {e:Nat} {base:Nat} {ok:Nat→Prop} {v:Value} {xs:List Int} (h:IsS26 w0 W g f0 f1) (ho:Kd.B d e W base ok v xs) (ht:e ≠ 26):some g ≠ v.ownBlock:=by
  obtain ⟨A0,c0,A1,c1,hb,hg,hr0,hl0,hr1,hl1⟩:=h
  exact Kd.B_ne ho hb ht
theorem IsS26.apartS {w0 W:World} {g:Nat} {f0:List Int} {f1:List (S77)} {α:Type} {d:Kd α} {e:Nat} {base:Nat} {ok:Nat→Prop} {v:Value} {xs:List α} (h:IsS26 w0 W g f0 f1) (ho:d.S e W base ok v xs) (ht:∀ q,q ∈ e :: d.E→q ≠ 26):d.S e W base (fun k=>ok k∧k ≠ g) v xs:=by
  obtain ⟨A0,c0,A1,c1,hb,hg,hr0,hl0,hr1,hl1⟩:=h
  exact Kd.S_types ho hb ht
theorem IsS26.own_neS {w0 W:World} {g:Nat} {f0:List Int} {f1:List (S77)} {α:Type} {d:Kd α} {e:Nat} {base:Nat} {ok:Nat→Prop} {v:Value} {xs:List α} (h:IsS26 w0 W g f0 f1) (ho:d.S e W base ok v xs) (ht:e ≠ 26):some g ≠ v.ownBlock:=by
  obtain ⟨A0,c0,A1,c1,hb,hg,hr0,hl0,hr1,hl1⟩:=h
  exact Kd.S_ne ho hb ht
theorem IsS26.lt {w0 W:World} {g:Nat} {f0:List Int} {f1:List (S77)} (h:IsS26 w0 W g f0 f1):g < W.heap.size:=by
  obtain ⟨A0,c0,A1,c1,hb,hg,hr0,hl0,hr1,hl1⟩:=h
  exact blk_lt hb
theorem IsS26.ge {w0 W:World} {g:Nat} {f0:List Int} {f1:List (S77)} (h:IsS26 w0 W g f0 f1):w0.heap.size≤g:=by
  obtain ⟨A0,c0,A1,c1,hb,hg,hr0,hl0,hr1,hl1⟩:=h
  exact hg
theorem IsS26.ne_blk {w0 W:World} {g:Nat} {f0:List Int} {f1:List (S77)} {a:Nat} {cs:Array Value} {t:TypeId} {fr:Nat × Nat} (h:IsS26 w0 W g f0 f1) (hb2:W.heap[a]? = some (.cells cs t fr)) (ht:t ≠ 26):g ≠ a:=by
  obtain ⟨A0,c0,A1,c1,hb,hg,hr0,hl0,hr1,hl1⟩:=h
  rintro rfl
  rw [hb] at hb2
  injection hb2 with hb2
  injection hb2 with _ ht2
  exact ht ht2.symm
theorem IsS26.far {w0 W:World} {g:Nat} {f0:List Int} {f1:List (S77)} {p:Addr} (h:IsS26 w0 W g f0 f1) (hne:g ≠ p.block) (u:Value):IsS26 w0 (W.setCell p u) g f0 f1:=by
  obtain ⟨A0,c0,A1,c1,hb,hg,hr0,hl0,hr1,hl1⟩:=h
  exact ⟨A0,c0,A1,c1,blk_far hb hne u,hg,hr0,hl0,hr1,hl1⟩
theorem cellS26_0 {W:World} {g:Nat} {A0:Option Addr} {c0:Nat} {A1:Option Addr} {c1:Nat} {f0:List Int} {f1:List (S77)} (h:W.heap[g]? = some (.cells #[.slice A0 f0.length c0,.slice A1 f1.length c1] 26 (0,0))):W.cell? ⟨g,0,none⟩=some (.slice A0 f0.length c0):=(kc h 0).trans rfl
theorem IsS26.same_ {W:World} {g:Nat} {A0:Option Addr} {c0:Nat} {A1:Option Addr} {c1:Nat} {f0:List Int} {f1:List (S77)} {W0:World} {A0':Option Addr} {c0':Nat} {A1':Option Addr} {c1':Nat} (h:W0.heap[g]? = some (.cells #[.slice A0 f0.length c0,.slice A1 f1.length c1] 26 (0,0))) (k:KeepF W0 W g none) (h':W.heap[g]? = some (.cells #[.slice A0' f0.length c0',.slice A1' f1.length c1'] 26 (0,0))):A0'=A0∧c0'=c0∧A1'=A1∧c1'=c1:=by
  have e:=zI ((k.blk h).symm.trans h')
  simp only [Obj.cells.injEq,Array.mk.injEq,List.cons.injEq,Value.slice.injEq,and_true,true_and] at e
  simp_all
theorem cellS26_1 {W:World} {g:Nat} {A0:Option Addr} {c0:Nat} {A1:Option Addr} {c1:Nat} {f0:List Int} {f1:List (S77)} (h:W.heap[g]? = some (.cells #[.slice A0 f0.length c0,.slice A1 f1.length c1] 26 (0,0))):W.cell? ⟨g,1,none⟩=some (.slice A1 f1.length c1):=(kc h 1).trans rfl
theorem IsS26.new (w0 W:World) (A0:Option Addr) (c0:Nat) (A1:Option Addr) (c1:Nat) (f0:List Int) (f1:List (S77)) (hB:Below w0.heap.size w0 W) (hr0:Kd.C (Kd.int .i64) w0 A0 f0.length f0) (hl0:f0.length≤c0) (hr1:Kd.C k77 w0 A1 f1.length f1) (hl1:f1.length≤c1):IsS26 w0 (W.alloc (.cells #[.slice A0 f0.length c0,.slice A1 f1.length c1] 26)) W.heap.size f0 f1:=⟨A0,c0,A1,c1,by simpa using heap_alloc_new W _,hB.size,hr0,hl0,hr1,hl1⟩
def IsS26F (A0:Option Addr) (c0:Nat) (A1:Option Addr) (c1:Nat) (w0 W:World) (g:Nat) (f0:List Int) (f1:List (S77)):Prop:=W.heap[g]? = some (.cells #[.slice A0 f0.length c0,.slice A1 f1.length c1] 26 (0,0))∧w0.heap.size≤g∧Kd.C (Kd.int .i64) w0 A0 f0.length f0∧f0.length≤c0∧Kd.C k77 w0 A1 f1.length f1∧f1.length≤c1
theorem IsS26F.to {A0:Option Addr} {c0:Nat} {A1:Option Addr} {c1:Nat} {w0 W:World} {g:Nat} {f0:List Int} {f1:List (S77)} (h:IsS26F A0 c0 A1 c1 w0 W g f0 f1):IsS26 w0 W g f0 f1:=⟨A0,c0,A1,c1,h⟩
theorem IsS26F.below {A0:Option Addr} {c0:Nat} {A1:Option Addr} {c1:Nat} {w0 W:World} {g:Nat} {f0:List Int} {f1:List (S77)} {W1:World} (h:IsS26F A0 c0 A1 c1 w0 W g f0 f1) (hw:Below W.heap.size W W1):IsS26F A0 c0 A1 c1 w0 W1 g f0 f1:=⟨kb h.1 hw,h.2⟩
theorem IsS26F.alloc {A0:Option Addr} {c0:Nat} {A1:Option Addr} {c1:Nat} {w0 W:World} {g:Nat} {f0:List Int} {f1:List (S77)} (h:IsS26F A0 c0 A1 c1 w0 W g f0 f1) (o:Obj):IsS26F A0 c0 A1 c1 w0 (W.alloc o) g f0 f1:=h.below (bwa (Below.refl _ _) o)
theorem IsS26F.drewN {A0:Option Addr} {c0:Nat} {A1:Option Addr} {c1:Nat} {w0 W:World} {g:Nat} {f0:List Int} {f1:List (S77)} (h:IsS26F A0 c0 A1 c1 w0 W g f0 f1) (m:Nat):IsS26F A0 c0 A1 c1 w0 (W.drewN m) g f0 f1:=h
theorem IsS26F.drew {A0:Option Addr} {c0:Nat} {A1:Option Addr} {c1:Nat} {w0 W:World} {g:Nat} {f0:List Int} {f1:List (S77)} (h:IsS26F A0 c0 A1 c1 w0 W g f0 f1):IsS26F A0 c0 A1 c1 w0 W.drew g f0 f1:=h
theorem IsS26F.far {A0:Option Addr} {c0:Nat} {A1:Option Addr} {c1:Nat} {w0 W:World} {g:Nat} {f0:List Int} {f1:List (S77)} {p:Addr} (h:IsS26F A0 c0 A1 c1 w0 W g f0 f1) (hne:g ≠ p.block) (u:Value):IsS26F A0 c0 A1 c1 w0 (W.setCell p u) g f0 f1:=⟨blk_far h.1 hne u,h.2⟩
theorem IsS26F.ge {A0:Option Addr} {c0:Nat} {A1:Option Addr} {c1:Nat} {w0 W:World} {g:Nat} {f0:List Int} {f1:List (S77)} (h:IsS26F A0 c0 A1 c1 w0 W g f0 f1):w0.heap.size≤g:=h.2.1
theorem IsS26F.lt {A0:Option Addr} {c0:Nat} {A1:Option Addr} {c1:Nat} {w0 W:World} {g:Nat} {f0:List Int} {f1:List (S77)} (h:IsS26F A0 c0 A1 c1 w0 W g f0 f1):g < W.heap.size:=IsS26.lt h.to
theorem IsS26F.ex {A0:Option Addr} {c0:Nat} {A1:Option Addr} {c1:Nat} {w0 W:World} {g:Nat} {f0:List Int} {f1:List (S77)} (h:IsS26F A0 c0 A1 c1 w0 W g f0 f1):∃ B0,∃ d0,∃ B1,∃ d1,(B0=A0∧d0=c0∧B1=A1∧d1=c1)∧W.heap[g]? = some (.cells #[.slice B0 f0.length d0,.slice B1 f1.length d1] 26 (0,0))∧w0.heap.size≤g∧Kd.C (Kd.int .i64) w0 B0 f0.length f0∧f0.length≤d0∧Kd.C k77 w0 B1 f1.length f1∧f1.length≤d1:=⟨A0,c0,A1,c1,⟨rfl,rfl,rfl,rfl⟩,h⟩
/-! ### impl_Skip_next: function 41 -/
def impl_Skip_next.f (s0_0:List Int) (s0_1:List (S77)) (a1:Int) (a2:Int):Option (Int):=if a1=(-1) then (if 0≤a2 then (if a2 < (s0_0.length:Int) then (some (rd s0_0 a2)) else (none)) else (none)) else (if 0≤a1 then (if a1 < (s0_1.length:Int) then (if 0≤a2 then (if a2 < (((rd_T77 s0_1 a1).f1).length:Int) then (some (rd ((rd_T77 s0_1 a1).f1) a2)) else (none)) else (none)) else (none)) else (none))
set_option maxHeartbeats 8000000 in
set_option maxRecDepth 100000 in
theorem impl_Skip_next.calls (g:Nat) (s0_0:List Int) (s0_1:List (S77)) (a1:Int) (a2:Int) (r:Int) (w0 w:World) (hI:IsS26 w0 w g s0_0 s0_1) (hB:Below w0.heap.size w0 w) (h:impl_Skip_next.f s0_0 s0_1 a1 a2=some r) :
    Calls Tryd.prog 41 #[.pointer (some ⟨g,0,none⟩),.int .i64 a1,.int .i64 a2] w fun e w'=>e = .returned (.int .i64 r)∧Drawn0 w w':=by
 have HI0:=AsZ.mk hI
 have HK:=AsZ.mk (KeepBut.refl w g none)
 have HL:=AsZ.mk hB.size
 clear hI
 have HW0:=AsZ.mk hB.size
 have HB:=AsZ.mk hB
 clear hB
 have H:(if a1=(-1) then (if 0≤a2 then (if a2 < (s0_0.length:Int) then (some (rd s0_0 a2)) else (none)) else (none)) else (if 0≤a1 then (if a1 < (s0_1.length:Int) then (if 0≤a2 then (if a2 < (((rd_T77 s0_1 a1).f1).length:Int) then (some (rd ((rd_T77 s0_1 a1).f1) a2)) else (none)) else (none)) else (none)) else (none)))=some r:=h
 clear h
 by_cases c4:a1=(-1)
 · rw [if_pos c4] at H
   have c4b0:(a1 == (-1))=true:=beq_iff_eq.mpr c4
   have c4b1:(a1 != (-1))=false:=bne_eq_false_iff_eq.mpr c4
   clear c4
   by_cases c5:0≤a2
   rotate_left
   · rw [if_neg c5] at H
     exact absurd H (by simp)
   rw [if_pos c5] at H
   have c5b0:decide (0≤a2)=true:=zE c5
   clear c5
   by_cases c6:a2 < (s0_0.length:Int)
   rotate_left
   · rw [if_neg c6] at H
     exact absurd H (by simp)
   rw [if_pos c6] at H
   have c6b0:decide (a2 < (s0_0.length:Int))=true:=zE c6
   clear c6
   obtain rfl:=zI H
   obtain ⟨ASz7_0,cSz7_0,ASz7_1,cSz7_1,HGz7,hgz7,HSz7_0,HSCz7_0,HSz7_1,HSCz7_1⟩:=HI0.out
   have hcz7_0:=cellS26_0 HGz7
   have hcz7_1:=cellS26_1 HGz7
   clear HGz7 hgz7
   have p121:0≤(a2:Int):=zD (by first|(with_reducible assumption)|assumption)
   have q121:a2 < (s0_0.length:Int):=zD (by first|(with_reducible assumption)|assumption)
   obtain ⟨ad121,e121,hx121_0⟩:=Kd.at_int HSz7_0 a2 p121 q121
   cases e121
   replace hx121_0:=pcb HB.out hx121_0
   replace p121:=eq_true p121
   replace q121:=eq_true q121
   go_enter Tryd.func41,Tryd.ntmps41
   go_wp2
   go_ret
   exact ⟨by first|rfl|(simp;done)|(simp [*];done),by repeat (first|exact Drawn0.refl _|apply Drawn0.step)⟩
 rw [if_neg c4] at H
 have c4b0:(a1 == (-1))=false:=beq_eq_false_iff_ne.mpr c4
 have c4b1:(a1 != (-1))=true:=bne_iff_ne.mpr c4
 by_cases c8:0≤a1
 rotate_left
 · rw [if_neg c8] at H
   exact absurd H (by simp)
 rw [if_pos c8] at H
 have c8b0:decide (0≤a1)=true:=zE c8
 clear c8
 by_cases c9:a1 < (s0_1.length:Int)
 rotate_left
 · rw [if_neg c9] at H
   exact absurd H (by simp)
 rw [if_pos c9] at H
 have c9b0:decide (a1 < (s0_1.length:Int))=true:=zE c9
 clear c9
 by_cases c10:0≤a2
 rotate_left
 · rw [if_neg c10] at H
   exact absurd H (by simp)
 rw [if_pos c10] at H
 have c10b0:decide (0≤a2)=true:=zE c10
 clear c10
 by_cases c11:a2 < (((rd_T77 s0_1 a1).f1).length:Int)
 rotate_left
 · rw [if_neg c11] at H
   exact absurd H (by simp)
 rw [if_pos c11] at H
 have c11b0:decide (a2 < (((rd_T77 s0_1 a1).f1).length:Int))=true:=zE c11
 clear c11
 obtain rfl:=zI H
 obtain ⟨ASz12_0,cSz12_0,ASz12_1,cSz12_1,HGz12,hgz12,HSz12_0,HSCz12_0,HSz12_1,HSCz12_1⟩:=HI0.out
 have hcz12_0:=cellS26_0 HGz12
 have hcz12_1:=cellS26_1 HGz12
 clear HGz12 hgz12
 have p122:0≤(a1:Int):=zD (by first|(with_reducible assumption)|assumption)
 have q122:a1 < (s0_1.length:Int):=zD (by first|(with_reducible assumption)|assumption)
 obtain ⟨ad122,A122_4,c122_4,e122,hx122_0,hx122_1,hx122_2,hx122_3,hx122_4,hl122_4,hi122_4⟩:=at_T77 HSz12_1 a1 p122 q122
 cases e122
 replace hx122_0:=pcb HB.out hx122_0
 replace hx122_1:=pcb HB.out hx122_1
 replace hx122_2:=pcb HB.out hx122_2
 replace hx122_3:=pcb HB.out hx122_3
 replace hx122_4:=pcb HB.out hx122_4
 have HR122_4:=AsZ.mk hi122_4
 have HC122_4:=AsZ.mk hl122_4
 clear hi122_4 hl122_4
 replace p122:=eq_true p122
 replace q122:=eq_true q122
 have p123:0≤(a2:Int):=zD (by first|(with_reducible assumption)|assumption)
 have q123:a2 < (((rd_T77 s0_1 a1).f1).length:Int):=zD (by first|(with_reducible assumption)|assumption)
 obtain ⟨ad123,e123,hx123_0⟩:=Kd.at_int HR122_4.out a2 p123 q123
 cases e123
 replace hx123_0:=pcb HB.out hx123_0
 replace p123:=eq_true p123
 replace q123:=eq_true q123
 go_enter Tryd.func41,Tryd.ntmps41
 go_wp2
 go_ret
 exact ⟨by first|rfl|(simp;done)|(simp [*];done),by repeat (first|exact Drawn0.refl _|apply Drawn0.step)⟩
end Go.Proofs.YtffjlpphcjfdgaaDoor.MFnExactListSkip
