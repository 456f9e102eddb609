-- Written by a program of this session out of the translation. Not trusted: Lean checks it.
import Derived.Test.YtffjlpphcjfdgaaDoorMFnExactInsertSkipx0
namespace Go.Proofs.YtffjlpphcjfdgaaDoor.MFnExactInsertSkip
-- joined
-- short
-- shrunk
-- TAB
-- RD
open Go.Proofs.YtffjlpphcjfdgaaDoor Go.RowKit Go.Proofs.YtffjlpphcjfdgaaDoorW.PrintWords Go.Proofs.YtffjlpphcjfdgaaDoorW.PrintLast Go.Proofs.YtffjlpphcjfdgaaDoorW.PrintMore Go.Proofs.YtffjlpphcjfdgaaDoorX
attribute [local go_sem] max2_int min2_int max_two min_two max_three min_three max_four min_four str_gtr str_leq str_geq cell_twice
set_option linter.unusedVariables false
set_option linter.unusedSimpArgs false
-- COMPACT
/-! ### spec_l1In: function 59 -/
def spec_l1In.f (a0:Int) (a1:Int) (a2:Int):Option (Bool):=if a0 ≥ a1 then (some (decide (a0≤a2))) else (some false)
set_option maxHeartbeats 8000000 in
set_option maxRecDepth 100000 in
theorem spec_l1In.calls (a0:Int) (a1:Int) (a2:Int) (r:Bool) (w:World) (h:spec_l1In.f a0 a1 a2=some r) :
    Calls Tryd.prog 59 #[.int .i64 a0,.int .i64 a1,.int .i64 a2] w fun e w'=>e = .returned (.bool r)∧Drawn0 w w':=by
 have H:(if a0 ≥ a1 then (some (decide (a0≤a2))) else (some false))=some r:=h;clear h;by_cases c4:a0 ≥ a1
 · rw [if_pos c4] at H
   have c4b0:decide (a1≤a0)=true:=zE c4;clear c4;obtain rfl:=zI H;go_enter Tryd.func59,Tryd.ntmps59;go_wp2;go_ret;exact ⟨rs,dw⟩
 rw [if_neg c4] at H;have c4b0:decide (a1≤a0)=false:=decide_eq_false c4;clear c4;obtain rfl:=zI H;go_enter Tryd.func59,Tryd.ntmps59;go_wp2;go_ret;exact ⟨rs,dw⟩
/-! ### spec_l4Key: function 53 -/
def spec_l4Key.f (a0:ByteArray):Option (Bool):=(spec_l1In.f (a0.size:Int) 1 16).bind fun t213=>(some t213)
set_option maxHeartbeats 8000000 in
set_option maxRecDepth 100000 in
theorem spec_l4Key.calls (a0:ByteArray) (r:Bool) (w:World) (h:spec_l4Key.f a0=some r) :
    Calls Tryd.prog 53 #[.string a0] w fun e w'=>e = .returned (.bool r)∧Drawn0 w w':=by
 have H:((spec_l1In.f (a0.size:Int) 1 16).bind fun t213=>(some t213))=some r:=h;clear h;replace H:=bs H;obtain ⟨t213,A2,H⟩:=H;obtain rfl:=zI H;go_enter Tryd.func53,Tryd.ntmps53;go_wp2_with (first|((with_reducible refine gcl (f:=59) rfl ?_);refine gk (some 5) Tryd.func59 #[.int .i64 (a0.size:Int),.int .i64 1,.int .i64 16] ?_;(with_reducible refine (spec_l1In.calls (a0.size:Int) 1 16 t213 _ A2.out).mono ?_);rintro e w' ⟨rfl,⟨nd,rfl⟩⟩;refine ⟨_,rfl,?_⟩));go_ret;exact ⟨rs,dw⟩
/-! ### spec_l4Seq: function 54 -/
def spec_l4Seq.f (a0:Int):Option (Bool):=(spec_l1In.f a0 0 1000000000).bind fun t214=>(some t214)
set_option maxHeartbeats 8000000 in
set_option maxRecDepth 100000 in
theorem spec_l4Seq.calls (a0:Int) (r:Bool) (w:World) (h:spec_l4Seq.f a0=some r) :
    Calls Tryd.prog 54 #[.int .i64 a0] w fun e w'=>e = .returned (.bool r)∧Drawn0 w w':=by
 have H:((spec_l1In.f a0 0 1000000000).bind fun t214=>(some t214))=some r:=h;clear h;replace H:=bs H;obtain ⟨t214,A2,H⟩:=H;obtain rfl:=zI H;go_enter Tryd.func54,Tryd.ntmps54;go_wp2_with (first|((with_reducible refine gcl (f:=59) rfl ?_);refine gk (some 4) Tryd.func59 #[.int .i64 a0,.int .i64 0,.int .i64 1000000000] ?_;(with_reducible refine (spec_l1In.calls a0 0 1000000000 t214 _ A2.out).mono ?_);rintro e w' ⟨rfl,⟨nd,rfl⟩⟩;refine ⟨_,rfl,?_⟩));go_ret;exact ⟨rs,dw⟩
/-! ### spec_GoodItem: function 45 -/
def spec_GoodItem.f (a0_0:ByteArray) (a0_1:Int) (a0_2:Int) (a0_3:ByteArray):Option (Bool):=(spec_l4Key.f a0_0).bind fun t216=>(if t216=true then ((spec_l4Seq.f a0_1).bind fun t217=>(if t217=true then ((spec_l1In.f a0_2 0 1).bind fun t218=>(if t218=true then (if (a0_3.size:Int)≤40 then (if a0_2=1 then (some true) else (some (a0_3.toList == ([]:List UInt8)))) else (some false)) else (some false))) else (some false))) else (some false))
set_option maxHeartbeats 8000000 in
set_option maxRecDepth 100000 in
theorem spec_GoodItem.calls (a0_0:ByteArray) (a0_1:Int) (a0_2:Int) (a0_3:ByteArray) (r:Bool) (w:World) (h:spec_GoodItem.f a0_0 a0_1 a0_2 a0_3=some r) :
    Calls Tryd.prog 45 #[.agg #[.string a0_0,.int .i64 a0_1,.int .i64 a0_2,.string a0_3]] w fun e w'=>e = .returned (.bool r)∧Below w.heap.size w w':=by
 have hu28:=Tryd.underlying28;have HB:=AsZ.mk (Below.refl w.heap.size w);have H:((spec_l4Key.f a0_0).bind fun t216=>(if t216=true then ((spec_l4Seq.f a0_1).bind fun t217=>(if t217=true then ((spec_l1In.f a0_2 0 1).bind fun t218=>(if t218=true then (if (a0_3.size:Int)≤40 then (if a0_2=1 then (some true) else (some (a0_3.toList == ([]:List UInt8)))) else (some false)) else (some false))) else (some false))) else (some false)))=some r:=h;clear h;replace H:=bs H;obtain ⟨t216,A2,H⟩:=H;by_cases c3:t216=true;rotate_left
 · replace c3:=Bool.eq_false_iff.mpr c3
   subst c3;replace H:=iN H;obtain rfl:=zI H;go_enter Tryd.func45,Tryd.ntmps45;go_wp2_with (first|((with_reducible refine gate_dst (N:=1) rfl ?_);(try (refine gate_guard (by rfl) ?_;dsimp only));refine bev 1 28 (cs:=#[.string a0_0,.int .i64 a0_1,.int .i64 a0_2,.string a0_3]) ?_;intro gb215 hg w20 hbox hb;have BK215:=AsZ.mk (hbox);have GW215:=gz HB hg;have GE215:=gz HB hg;replace HB:=bp hb;clear hb hbox hg;obtain ⟨hcz21_0,hcz21_1,hcz21_2,hcz21_3,hfz21_0,hfz21_1,hfz21_2,hfz21_3⟩:=bx4 BK215)|((with_reducible refine gcl (f:=53) rfl ?_);refine gk (some 5) Tryd.func53 #[.string a0_0] ?_;(with_reducible refine (spec_l4Key.calls a0_0 false _ A2.out).mono ?_);rintro e w' ⟨rfl,⟨nd,rfl⟩⟩;refine ⟨_,rfl,?_⟩));go_ret;exact ⟨re,bel⟩
 subst c3;replace H:=iP H;replace H:=bs H;obtain ⟨t217,A4,H⟩:=H;by_cases c5:t217=true;rotate_left
 · replace c5:=Bool.eq_false_iff.mpr c5
   subst c5;replace H:=iN H;obtain rfl:=zI H;go_enter Tryd.func45,Tryd.ntmps45;go_wp2_with (first|((with_reducible refine gate_dst (N:=1) rfl ?_);(try (refine gate_guard (by rfl) ?_;dsimp only));refine bev 1 28 (cs:=#[.string a0_0,.int .i64 a0_1,.int .i64 a0_2,.string a0_3]) ?_;intro gb215 hg w18 hbox hb;have BK215:=AsZ.mk (hbox);have GW215:=gz HB hg;have GE215:=gz HB hg;replace HB:=bp hb;clear hb hbox hg;obtain ⟨hcz19_0,hcz19_1,hcz19_2,hcz19_3,hfz19_0,hfz19_1,hfz19_2,hfz19_3⟩:=bx4 BK215)|((with_reducible refine gcl (f:=53) rfl ?_);refine gk (some 5) Tryd.func53 #[.string a0_0] ?_;(with_reducible refine (spec_l4Key.calls a0_0 true _ A2.out).mono ?_);rintro e w' ⟨rfl,⟨nd,rfl⟩⟩;refine ⟨_,rfl,?_⟩)|(go_at_call 54;(with_reducible refine (spec_l4Seq.calls a0_1 false _ A4.out).mono ?_);rintro e w' ⟨rfl,⟨nd,rfl⟩⟩));go_ret;exact ⟨re,bel⟩
 subst c5;replace H:=iP H;replace H:=bs H;obtain ⟨t218,A6,H⟩:=H;by_cases c7:t218=true;rotate_left
 · replace c7:=Bool.eq_false_iff.mpr c7
   subst c7;replace H:=iN H;obtain rfl:=zI H;go_enter Tryd.func45,Tryd.ntmps45;go_wp2_with (first|((with_reducible refine gate_dst (N:=1) rfl ?_);(try (refine gate_guard (by rfl) ?_;dsimp only));refine bev 1 28 (cs:=#[.string a0_0,.int .i64 a0_1,.int .i64 a0_2,.string a0_3]) ?_;intro gb215 hg w16 hbox hb;have BK215:=AsZ.mk (hbox);have GW215:=gz HB hg;have GE215:=gz HB hg;replace HB:=bp hb;clear hb hbox hg;obtain ⟨hcz17_0,hcz17_1,hcz17_2,hcz17_3,hfz17_0,hfz17_1,hfz17_2,hfz17_3⟩:=bx4 BK215)|((with_reducible refine gcl (f:=53) rfl ?_);refine gk (some 5) Tryd.func53 #[.string a0_0] ?_;(with_reducible refine (spec_l4Key.calls a0_0 true _ A2.out).mono ?_);rintro e w' ⟨rfl,⟨nd,rfl⟩⟩;refine ⟨_,rfl,?_⟩)|(go_at_call 54;(with_reducible refine (spec_l4Seq.calls a0_1 true _ A4.out).mono ?_);rintro e w' ⟨rfl,⟨nd,rfl⟩⟩)|(go_at_call 59;(with_reducible refine (spec_l1In.calls a0_2 0 1 false _ A6.out).mono ?_);rintro e w' ⟨rfl,⟨nd,rfl⟩⟩));go_ret;exact ⟨re,bel⟩
 subst c7;replace H:=iP H;by_cases c8:(a0_3.size:Int)≤40;rotate_left
 · rw [if_neg c8] at H
   have c8b0:decide ((a0_3.size:Int)≤40)=false:=decide_eq_false c8;have c8b1:decide (a0_3.size≤40)=false:=decide_eq_false (by omega);clear c8;obtain rfl:=zI H;go_enter Tryd.func45,Tryd.ntmps45;go_wp2_with (first|((with_reducible refine gate_dst (N:=1) rfl ?_);(try (refine gate_guard (by rfl) ?_;dsimp only));refine bev 1 28 (cs:=#[.string a0_0,.int .i64 a0_1,.int .i64 a0_2,.string a0_3]) ?_;intro gb215 hg w14 hbox hb;have BK215:=AsZ.mk (hbox);have GW215:=gz HB hg;have GE215:=gz HB hg;replace HB:=bp hb;clear hb hbox hg;obtain ⟨hcz15_0,hcz15_1,hcz15_2,hcz15_3,hfz15_0,hfz15_1,hfz15_2,hfz15_3⟩:=bx4 BK215)|((with_reducible refine gcl (f:=53) rfl ?_);refine gk (some 5) Tryd.func53 #[.string a0_0] ?_;(with_reducible refine (spec_l4Key.calls a0_0 true _ A2.out).mono ?_);rintro e w' ⟨rfl,⟨nd,rfl⟩⟩;refine ⟨_,rfl,?_⟩)|(go_at_call 54;(with_reducible refine (spec_l4Seq.calls a0_1 true _ A4.out).mono ?_);rintro e w' ⟨rfl,⟨nd,rfl⟩⟩)|(go_at_call 59;(with_reducible refine (spec_l1In.calls a0_2 0 1 true _ A6.out).mono ?_);rintro e w' ⟨rfl,⟨nd,rfl⟩⟩));go_ret;exact ⟨re,bel⟩
 rw [if_pos c8] at H;have c8b0:decide ((a0_3.size:Int)≤40)=true:=zE c8;have c8b1:decide (a0_3.size≤40)=true:=zE (by omega);clear c8;by_cases c9:a0_2=1;rotate_left
 · rw [if_neg c9] at H
   have c9b0:(a0_2 == 1)=false:=beq_eq_false_iff_ne.mpr c9;have c9b1:(a0_2 != 1)=true:=bne_iff_ne.mpr c9;obtain rfl:=zI H;go_enter Tryd.func45,Tryd.ntmps45;go_wp2_with (first|((with_reducible refine gate_dst (N:=1) rfl ?_);(try (refine gate_guard (by rfl) ?_;dsimp only));refine bev 1 28 (cs:=#[.string a0_0,.int .i64 a0_1,.int .i64 a0_2,.string a0_3]) ?_;intro gb215 hg w12 hbox hb;have BK215:=AsZ.mk (hbox);have GW215:=gz HB hg;have GE215:=gz HB hg;replace HB:=bp hb;clear hb hbox hg;obtain ⟨hcz13_0,hcz13_1,hcz13_2,hcz13_3,hfz13_0,hfz13_1,hfz13_2,hfz13_3⟩:=bx4 BK215)|((with_reducible refine gcl (f:=53) rfl ?_);refine gk (some 5) Tryd.func53 #[.string a0_0] ?_;(with_reducible refine (spec_l4Key.calls a0_0 true _ A2.out).mono ?_);rintro e w' ⟨rfl,⟨nd,rfl⟩⟩;refine ⟨_,rfl,?_⟩)|(go_at_call 54;(with_reducible refine (spec_l4Seq.calls a0_1 true _ A4.out).mono ?_);rintro e w' ⟨rfl,⟨nd,rfl⟩⟩)|(go_at_call 59;(with_reducible refine (spec_l1In.calls a0_2 0 1 true _ A6.out).mono ?_);rintro e w' ⟨rfl,⟨nd,rfl⟩⟩));go_ret;exact ⟨re,bel⟩
 rw [if_pos c9] at H;have c9b0:(a0_2 == 1)=true:=beq_iff_eq.mpr c9;have c9b1:(a0_2 != 1)=false:=bne_eq_false_iff_eq.mpr c9;clear c9;obtain rfl:=zI H;go_enter Tryd.func45,Tryd.ntmps45;go_wp2_with (first|((with_reducible refine gate_dst (N:=1) rfl ?_);(try (refine gate_guard (by rfl) ?_;dsimp only));refine bev 1 28 (cs:=#[.string a0_0,.int .i64 a0_1,.int .i64 a0_2,.string a0_3]) ?_;intro gb215 hg w10 hbox hb;have BK215:=AsZ.mk (hbox);have GW215:=gz HB hg;have GE215:=gz HB hg;replace HB:=bp hb;clear hb hbox hg;obtain ⟨hcz11_0,hcz11_1,hcz11_2,hcz11_3,hfz11_0,hfz11_1,hfz11_2,hfz11_3⟩:=bx4 BK215)|((with_reducible refine gcl (f:=53) rfl ?_);refine gk (some 5) Tryd.func53 #[.string a0_0] ?_;(with_reducible refine (spec_l4Key.calls a0_0 true _ A2.out).mono ?_);rintro e w' ⟨rfl,⟨nd,rfl⟩⟩;refine ⟨_,rfl,?_⟩)|(go_at_call 54;(with_reducible refine (spec_l4Seq.calls a0_1 true _ A4.out).mono ?_);rintro e w' ⟨rfl,⟨nd,rfl⟩⟩)|(go_at_call 59;(with_reducible refine (spec_l1In.calls a0_2 0 1 true _ A6.out).mono ?_);rintro e w' ⟨rfl,⟨nd,rfl⟩⟩));go_ret;exact ⟨re,bel⟩
/-! ### spec_l4Compare: function 47 -/
mutual
def spec_l4Compare.j0:Nat→Bool→ByteArray→Int→Int→ByteArray→ByteArray→Int→Int→ByteArray→Option (Int)
  |0,_,_,_,_,_,_,_,_,_=>none
  |k + 1,x5,x220000,x220001,x220002,x220003,x221000,x221001,x221002,x221003=>if x5=true then (some (-1)) else (if x220000.toList=x221000.toList then (spec_l4Compare.j1 k (x220001 == x221001)) else (spec_l4Compare.j1 k false))
def spec_l4Compare.j1:Nat→Bool→Option (Int)
  |0,_=>none
  |k + 1,x25=>if x25=true then (some 0) else (some 1)
end
def spec_l4Compare.f (k:Nat) (a0_0:ByteArray) (a0_1:Int) (a0_2:Int) (a0_3:ByteArray) (a1_0:ByteArray) (a1_1:Int) (a1_2:Int) (a1_3:ByteArray):Option (Int):=if (Op.bytesLess a0_0.toList a1_0.toList)=true then (spec_l4Compare.j0 k true a0_0 a0_1 a0_2 a0_3 a1_0 a1_1 a1_2 a1_3) else (if a0_0.toList=a1_0.toList then (spec_l4Compare.j0 k (decide (a0_1 > a1_1)) a0_0 a0_1 a0_2 a0_3 a1_0 a1_1 a1_2 a1_3) else (spec_l4Compare.j0 k false a0_0 a0_1 a0_2 a0_3 a1_0 a1_1 a1_2 a1_3))
theorem spec_l4Compare.mono_l:∀ k,(∀ y0 y1 y2 y3 y4 y5 y6 y7 y8,LeO (spec_l4Compare.j0 k y0 y1 y2 y3 y4 y5 y6 y7 y8) (spec_l4Compare.j0 (k + 1) y0 y1 y2 y3 y4 y5 y6 y7 y8))∧(∀ y0,LeO (spec_l4Compare.j1 k y0) (spec_l4Compare.j1 (k + 1) y0))
  |0=>⟨fun _ _ _ _ _ _ _ _ _ r h=>by simp [spec_l4Compare.j0] at h,fun _ r h=>by simp [spec_l4Compare.j1] at h⟩
  |k + 1=>by
    obtain ⟨ih0,ih1⟩:=spec_l4Compare.mono_l k;refine ⟨?_,?_⟩
    · intro y0 y1 y2 y3 y4 y5 y6 y7 y8
      unfold spec_l4Compare.j0;exact mo
    · intro y0
      unfold spec_l4Compare.j1;exact mo
theorem spec_l4Compare.mono:∀ a0 a1 a2 a3 a4 a5 a6 a7 k,LeO (spec_l4Compare.f k a0 a1 a2 a3 a4 a5 a6 a7) (spec_l4Compare.f (k + 1) a0 a1 a2 a3 a4 a5 a6 a7):=by
  intro a0 a1 a2 a3 a4 a5 a6 a7 k;obtain ⟨ih0,ih1⟩:=spec_l4Compare.mono_l k;unfold spec_l4Compare.f;exact mo
set_option maxHeartbeats 8000000 in
set_option maxRecDepth 100000 in
theorem spec_l4Compare.calls (k:Nat) (a0_0:ByteArray) (a0_1:Int) (a0_2:Int) (a0_3:ByteArray) (a1_0:ByteArray) (a1_1:Int) (a1_2:Int) (a1_3:ByteArray) (r:Int) (w:World) (h:spec_l4Compare.f k a0_0 a0_1 a0_2 a0_3 a1_0 a1_1 a1_2 a1_3=some r) :
    Calls Tryd.prog 47 #[.agg #[.string a0_0,.int .i64 a0_1,.int .i64 a0_2,.string a0_3],.agg #[.string a1_0,.int .i64 a1_1,.int .i64 a1_2,.string a1_3]] w fun e w'=>e = .returned (.int .i64 r)∧Below w.heap.size w w':=by
 have hu28:=Tryd.underlying28;have HB:=AsZ.mk (Below.refl w.heap.size w);have H:(if (Op.bytesLess a0_0.toList a1_0.toList)=true then (spec_l4Compare.j0 k true a0_0 a0_1 a0_2 a0_3 a1_0 a1_1 a1_2 a1_3) else (if a0_0.toList=a1_0.toList then (spec_l4Compare.j0 k (decide (a0_1 > a1_1)) a0_0 a0_1 a0_2 a0_3 a1_0 a1_1 a1_2 a1_3) else (spec_l4Compare.j0 k false a0_0 a0_1 a0_2 a0_3 a1_0 a1_1 a1_2 a1_3)))=some r:=h;clear h;have HC3:=AsZ.mk H;clear H;go_enter Tryd.func47,Tryd.ntmps47;go_upto_region 1 with (first|((with_reducible refine gate_dst (N:=2) rfl ?_);refine bev 2 28 (cs:=#[.string a0_0,.int .i64 a0_1,.int .i64 a0_2,.string a0_3]) ?_;intro gb219 hg w4 hbox hb;have BK219:=AsZ.mk (hbox);have GW219:=gz HB hg;have GE219:=gz HB hg;replace HB:=bp hb;clear hb hbox hg)|((with_reducible refine gate_dst (N:=3) rfl ?_);refine bev 3 28 (cs:=#[.string a1_0,.int .i64 a1_1,.int .i64 a1_2,.string a1_3]) ?_;intro gb220 hg w5 hbox hb;have BK220:=AsZ.mk (hbox);have GW220:=gz HB hg;have GE220:=gz HB hg;have NB219_220:=nl BK219 hg;have NB220_219:=nr BK219 hg;replace BK219:=bb BK219 hb;replace HB:=bp hb;clear hb hbox hg))
 (try simp only [Act.put,zS,zT,zU])
 go_cut [5] (fun v5 wc => ∃ (kq:Nat) (x5_2:Bool),v5 = .bool x5_2∧AsZ (spec_l4Compare.j0 kq x5_2 a0_0 a0_1 a0_2 a0_3 a1_0 a1_1 a1_2 a1_3=some r)∧AsZ (kq≤k)∧AsZ (wc.heap[gb219]? = some (.cells #[.string a0_0,.int .i64 a0_1,.int .i64 a0_2,.string a0_3] 28 (0,0)))∧AsZ (wc.heap[gb220]? = some (.cells #[.string a1_0,.int .i64 a1_1,.int .i64 a1_2,.string a1_3] 28 (0,0)))∧AsZ (Below w.heap.size w wc))
 case first =>
  have H:=HC3.out;clear HC3;by_cases c6:(Op.bytesLess a0_0.toList a1_0.toList)=true
  · rw [if_pos c6] at H
    have c6b0:(Op.bytesLess a0_0.toList a1_0.toList)=true:=c6;clear c6;(first|rw [c6b0]|(simp only [i64_w,i32_w];rw [c6b0])|rw [c6b1]|skip);have H':=AsZ.mk H;clear H;have hnb7:=NB219_220.out;have hnc7:=NB220_219.out;obtain ⟨hcz8_0,hcz8_1,hcz8_2,hcz8_3,hfz8_0,hfz8_1,hfz8_2,hfz8_3⟩:=bx4 BK219;obtain ⟨hcz9_0,hcz9_1,hcz9_2,hcz9_3,hfz9_0,hfz9_1,hfz9_2,hfz9_3⟩:=bx4 BK220;go_wp2;go_meet
    case rel=>exact ⟨_,(true),rs,H',⟨lo⟩,⟨bk BK219⟩,⟨bk BK220⟩,⟨bel⟩⟩
  rw [if_neg c6] at H;have c6b0:(Op.bytesLess a0_0.toList a1_0.toList)=false:=by simpa using c6
  clear c6;(first|rw [c6b0]|(simp only [i64_w,i32_w];rw [c6b0])|rw [c6b1]|skip);by_cases c10:a0_0.toList=a1_0.toList;rotate_left
  · rw [if_neg c10] at H
    have c10b0:(a0_0.toList == a1_0.toList)=false:=beq_eq_false_iff_ne.mpr c10;have c10b1:(a0_0.toList != a1_0.toList)=true:=bne_iff_ne.mpr c10;have H':=AsZ.mk H;clear H;have hnb14:=NB219_220.out;have hnc14:=NB220_219.out;obtain ⟨hcz15_0,hcz15_1,hcz15_2,hcz15_3,hfz15_0,hfz15_1,hfz15_2,hfz15_3⟩:=bx4 BK219;obtain ⟨hcz16_0,hcz16_1,hcz16_2,hcz16_3,hfz16_0,hfz16_1,hfz16_2,hfz16_3⟩:=bx4 BK220;go_wp2;go_meet
    case rel=>exact ⟨_,(false),rs,H',⟨lo⟩,⟨bk BK219⟩,⟨bk BK220⟩,⟨bel⟩⟩
  rw [if_pos c10] at H;have c10b0:(a0_0.toList == a1_0.toList)=true:=beq_iff_eq.mpr c10;have c10b1:(a0_0.toList != a1_0.toList)=false:=bne_eq_false_iff_eq.mpr c10;clear c10;have H':=AsZ.mk H;clear H;have hnb11:=NB219_220.out;have hnc11:=NB220_219.out;obtain ⟨hcz12_0,hcz12_1,hcz12_2,hcz12_3,hfz12_0,hfz12_1,hfz12_2,hfz12_3⟩:=bx4 BK219;obtain ⟨hcz13_0,hcz13_1,hcz13_2,hcz13_3,hfz13_0,hfz13_1,hfz13_2,hfz13_3⟩:=bx4 BK220;go_wp2;go_meet
  case rel=>exact ⟨_,(decide (a0_1 > a1_1)),rs,H',⟨lo⟩,⟨bk BK219⟩,⟨bk BK220⟩,⟨bel⟩⟩
 case rest =>
  clear HC3
  try clear p2
  try clear c6b0
  try clear c6b1
  try clear c10b0
  try clear c10b1
  try clear hcz12_0 hcz12_1 hcz12_2 hcz12_3 hfz12_0 hfz12_1 hfz12_2 hfz12_3
  try clear hcz13_0 hcz13_1 hcz13_2 hcz13_3 hfz13_0 hfz13_1 hfz13_2 hfz13_3
  try clear hcz15_0 hcz15_1 hcz15_2 hcz15_3 hfz15_0 hfz15_1 hfz15_2 hfz15_3
  try clear hcz16_0 hcz16_1 hcz16_2 hcz16_3 hfz16_0 hfz16_1 hfz16_2 hfz16_3
  try clear hcz8_0 hcz8_1 hcz8_2 hcz8_3 hfz8_0 hfz8_1 hfz8_2 hfz8_3
  try clear hcz9_0 hcz9_1 hcz9_2 hcz9_3 hfz9_0 hfz9_1 hfz9_2 hfz9_3
  obtain ⟨kq,x5_2,rfl,HA,HJ2,BK219,BK220,HB⟩:=hcut
  cases kq with
  |zero=>exact absurd HA.out (by simp [spec_l4Compare.j0])
  |succ kj2 =>
   have H:=HA.out;clear HA;simp only [spec_l4Compare.j0] at H;by_cases c17:x5_2=true
   · subst c17
     replace H:=iP H;obtain rfl:=zI H;go_wp2;go_ret;exact ⟨re,bel⟩
   replace c17:=Bool.eq_false_iff.mpr c17;subst c17;replace H:=iN H;have HC18:=AsZ.mk H;clear H;go_upto_region 3 with (fail)
   go_cut [25] (fun v25 wc => ∃ (kq:Nat) (x25_17:Bool),v25 = .bool x25_17∧AsZ (spec_l4Compare.j1 kq x25_17=some r)∧AsZ (kq≤kj2)∧AsZ (wc.heap[gb219]? = some (.cells #[.string a0_0,.int .i64 a0_1,.int .i64 a0_2,.string a0_3] 28 (0,0)))∧AsZ (wc.heap[gb220]? = some (.cells #[.string a1_0,.int .i64 a1_1,.int .i64 a1_2,.string a1_3] 28 (0,0)))∧AsZ (Below w.heap.size w wc))
   case first =>
    have H:=HC18.out;clear HC18;by_cases c19:a0_0.toList=a1_0.toList;rotate_left
    · rw [if_neg c19] at H
      have c19b0:(a0_0.toList == a1_0.toList)=false:=beq_eq_false_iff_ne.mpr c19;have c19b1:(a0_0.toList != a1_0.toList)=true:=bne_iff_ne.mpr c19;(first|rw [c19b0]|(simp only [i64_w,i32_w];rw [c19b0])|rw [c19b1]|skip);have H':=AsZ.mk H;clear H;have hnb23:=NB219_220.out;have hnc23:=NB220_219.out;obtain ⟨hcz24_0,hcz24_1,hcz24_2,hcz24_3,hfz24_0,hfz24_1,hfz24_2,hfz24_3⟩:=bx4 BK219;obtain ⟨hcz25_0,hcz25_1,hcz25_2,hcz25_3,hfz25_0,hfz25_1,hfz25_2,hfz25_3⟩:=bx4 BK220;go_wp2;go_meet
      case rel=>exact ⟨_,(false),rs,H',⟨by have:=HJ2.out;first|omega|exact Nat.le_refl _⟩,⟨bk BK219⟩,⟨bk BK220⟩,⟨bel⟩⟩
    rw [if_pos c19] at H;have c19b0:(a0_0.toList == a1_0.toList)=true:=beq_iff_eq.mpr c19;have c19b1:(a0_0.toList != a1_0.toList)=false:=bne_eq_false_iff_eq.mpr c19;clear c19;(first|rw [c19b0]|(simp only [i64_w,i32_w];rw [c19b0])|rw [c19b1]|skip);have H':=AsZ.mk H;clear H;have hnb20:=NB219_220.out;have hnc20:=NB220_219.out;obtain ⟨hcz21_0,hcz21_1,hcz21_2,hcz21_3,hfz21_0,hfz21_1,hfz21_2,hfz21_3⟩:=bx4 BK219;obtain ⟨hcz22_0,hcz22_1,hcz22_2,hcz22_3,hfz22_0,hfz22_1,hfz22_2,hfz22_3⟩:=bx4 BK220;go_wp2;go_meet
    case rel=>exact ⟨_,((a0_1 == a1_1)),rs,H',⟨by have:=HJ2.out;first|omega|exact Nat.le_refl _⟩,⟨bk BK219⟩,⟨bk BK220⟩,⟨bel⟩⟩
   case rest =>
    clear HC18
    try clear p2
    try clear c6b0
    try clear c6b1
    try clear c10b0
    try clear c10b1
    try clear c19b0
    try clear c19b1
    try clear hcz12_0 hcz12_1 hcz12_2 hcz12_3 hfz12_0 hfz12_1 hfz12_2 hfz12_3
    try clear hcz13_0 hcz13_1 hcz13_2 hcz13_3 hfz13_0 hfz13_1 hfz13_2 hfz13_3
    try clear hcz15_0 hcz15_1 hcz15_2 hcz15_3 hfz15_0 hfz15_1 hfz15_2 hfz15_3
    try clear hcz16_0 hcz16_1 hcz16_2 hcz16_3 hfz16_0 hfz16_1 hfz16_2 hfz16_3
    try clear hcz21_0 hcz21_1 hcz21_2 hcz21_3 hfz21_0 hfz21_1 hfz21_2 hfz21_3
    try clear hcz22_0 hcz22_1 hcz22_2 hcz22_3 hfz22_0 hfz22_1 hfz22_2 hfz22_3
    try clear hcz24_0 hcz24_1 hcz24_2 hcz24_3 hfz24_0 hfz24_1 hfz24_2 hfz24_3
    try clear hcz25_0 hcz25_1 hcz25_2 hcz25_3 hfz25_0 hfz25_1 hfz25_2 hfz25_3
    try clear hcz8_0 hcz8_1 hcz8_2 hcz8_3 hfz8_0 hfz8_1 hfz8_2 hfz8_3
    try clear hcz9_0 hcz9_1 hcz9_2 hcz9_3 hfz9_0 hfz9_1 hfz9_2 hfz9_3
    obtain ⟨kq,x25_17,rfl,HA,HJ17,BK219,BK220,HB⟩:=hcut
    cases kq with
    |zero=>exact absurd HA.out (by simp [spec_l4Compare.j1])
    |succ kj17 =>
     have H:=HA.out;clear HA;simp only [spec_l4Compare.j1] at H;by_cases c26:x25_17=true
     · subst c26
       replace H:=iP H;obtain rfl:=zI H;go_wp2;go_ret;exact ⟨re,bel⟩
     replace c26:=Bool.eq_false_iff.mpr c26;subst c26;replace H:=iN H;obtain rfl:=zI H;go_wp2;go_ret;exact ⟨re,bel⟩
/-! ### spec_l2On: function 88 -/
def spec_l2On.l0:Nat→List Int→Int→ByteArray→Int→Option (Int)
  |0,_,_,_,_=>none
  |k + 1,x0,x1,x2,x7=>if x7 < (x2.size:Int) then (if 0≤x7 then (if 0≤(Go.bits .xor .u8 ((x1) % 256) (bt x2 x7)) then (if (Go.bits .xor .u8 ((x1) % 256) (bt x2 x7)) < (x0.length:Int) then (spec_l2On.l0 k x0 (Go.bits .xor .u32 (rd x0 (Go.bits .xor .u8 ((x1) % 256) (bt x2 x7))) (x1 / 256)) x2 (wrap64 (x7 + 1))) else (none)) else (none)) else (none)) else (some x1)
def spec_l2On.f (k:Nat) (l0:List Int) (a1:Int) (a2:ByteArray):Option (Int):=spec_l2On.l0 k l0 a1 a2 0
theorem spec_l2On.mono_l:∀ k,(∀ y0 y1 y2 y3,LeO (spec_l2On.l0 k y0 y1 y2 y3) (spec_l2On.l0 (k + 1) y0 y1 y2 y3))
  |0=>fun _ _ _ _ r h=>by simp [spec_l2On.l0] at h
  |k + 1=>by
    have ih0:=spec_l2On.mono_l k
    · intro y0 y1 y2 y3
      unfold spec_l2On.l0;exact mo
theorem spec_l2On.mono:∀ a0 a1 a2 k,LeO (spec_l2On.f k a0 a1 a2) (spec_l2On.f (k + 1) a0 a1 a2):=by
  intro a0 a1 a2 k;have ih0:=spec_l2On.mono_l k;unfold spec_l2On.f;exact mo
set_option maxHeartbeats 8000000 in
set_option maxRecDepth 100000 in
theorem spec_l2On.calls (k:Nat) (A0:Option Addr) (c0:Nat) (l0:List Int) (a1:Int) (a2:ByteArray) (r:Int) (w:World) (hr0:Kd.C (Kd.int .u32) w A0 l0.length l0) (hc0:l0.length≤c0) (h:spec_l2On.f k l0 a1 a2=some r) :
    Calls Tryd.prog 88 #[.slice A0 l0.length c0,.int .u32 a1,.string a2] w fun e w'=>e = .returned (.int .u32 r)∧Drawn0 w w':=by
 have HR0:=AsZ.mk hr0;have HC0:=AsZ.mk hc0;clear hr0 hc0;have H:(spec_l2On.l0 k l0 a1 a2 0)=some r:=h;clear h;have H':=AsZ.mk H;clear H;go_enter Tryd.func88,Tryd.ntmps88;go_wp2
 go_loopg [1,7] k (fun kq v1 v7 w' => ∃ (x1_1:Int) (x7_1:Int),v1 = .int .u32 x1_1∧v7 = .int .i64 x7_1∧AsZ (spec_l2On.l0 kq l0 x1_1 a2 x7_1=some r)∧AsZ (kq≤k)∧Drawn0 w w')
 case atStart=>exact ⟨(a1),(0),rs,rs,H',⟨Nat.le_refl _⟩,dw⟩
 case round =>
  clear H'
  try clear p2
  obtain ⟨x1_1,x7_1,rfl,rfl,HA,HK1,⟨m1,rfl⟩⟩:=hrel
  cases gk with
  |zero=>exact absurd HA.out (by simp [spec_l2On.l0])
  |succ k1 =>
   have H:=HA.out;clear HA;simp only [spec_l2On.l0] at H;by_cases c4:x7_1 < (a2.size:Int);rotate_left
   · rw [if_neg c4] at H
     have c4b0:decide (x7_1 < (a2.size:Int))=false:=decide_eq_false c4;clear c4;obtain rfl:=zI H;go_wp2;go_ret;exact ⟨rs,dw⟩
   rw [if_pos c4] at H;have c4b0:decide (x7_1 < (a2.size:Int))=true:=zE c4;clear c4;by_cases c5:0≤x7_1;rotate_left
   · rw [if_neg c5] at H
     exact absurd H (by simp)
   rw [if_pos c5] at H;have c5b0:decide (0≤x7_1)=true:=zE c5;clear c5;obtain ⟨ji7,hji7⟩:∃ j_:Int,(Go.bits .xor .u8 ((x1_1) % 256) (bt a2 x7_1))=j_:=⟨_,rfl⟩;replace H:(if 0≤(ji7) then (if (ji7) < (l0.length:Int) then (spec_l2On.l0 k1 l0 (Go.bits .xor .u32 (rd l0 (ji7)) (x1_1 / 256)) a2 (wrap64 (x7_1 + 1))) else (none)) else (none))=some r:=by first|(rw [hji7] at H;exact H)|(simp only [hji7] at H ⊢;exact H)
   by_cases c8:0≤(ji7);rotate_left
   · rw [if_neg c8] at H
     exact absurd H (by simp)
   rw [if_pos c8] at H;have c8b0:decide (0≤(ji7))=true:=zE c8;clear c8;by_cases c9:(ji7) < (l0.length:Int);rotate_left
   · rw [if_neg c9] at H
     exact absurd H (by simp)
   rw [if_pos c9] at H;have c9b0:decide ((ji7) < (l0.length:Int))=true:=zE c9;clear c9;have H':=AsZ.mk H;clear H;have p6:0≤(x7_1:Int):=dd;have q6:x7_1 < (a2.size:Int):=dd;have hx6:=bt_at a2 x7_1;replace p6:=eq_true p6;replace q6:=eq_true q6;have p221:0≤((ji7):Int):=dd;have q221:(ji7) < (l0.length:Int):=dd;obtain ⟨ad221,e221,hx221_0⟩:=Kd.at_int HR0.out (ji7) p221 q221;cases e221;replace p221:=eq_true p221;replace q221:=eq_true q221;go_wp2;go_roundg k1
   case measure=>have:=HK1.out;omega
   case rel=>exact ⟨(Go.bits .xor .u32 (rd l0 (ji7)) (x1_1 / 256)),(wrap64 (x7_1 + 1)),(by first|rfl|(simp;done)|(simp only [← hji7]<;>(first|rfl|simp))|(simp [*];done)),rs,H',⟨by have:=HK1.out;omega⟩,dw⟩
end Go.Proofs.YtffjlpphcjfdgaaDoor.MFnExactInsertSkip
