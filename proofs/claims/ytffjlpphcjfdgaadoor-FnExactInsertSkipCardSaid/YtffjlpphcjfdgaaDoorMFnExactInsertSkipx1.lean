-- Written by a program of this session out of the translation. Not trusted: Lean checks it.
import Derived.Test.YtffjlpphcjfdgaaDoorMFnExactInsertSkipx0
namespace Go.Proofs.YtffjlpphcjfdgaaDoor.MFnExactInsertSkip
-- joined
-- short
-- shrunk
-- TAB
-- RD
open Go.Proofs.YtffjlpphcjfdgaaDoor Go.RowKit Go.Proofs.YtffjlpphcjfdgaaDoorW.PrintWords Go.Proofs.YtffjlpphcjfdgaaDoorW.PrintLast Go.Proofs.YtffjlpphcjfdgaaDoorW.PrintMore Go.Proofs.YtffjlpphcjfdgaaDoorX
attribute [local go_sem] max2_int min2_int max_two min_two max_three min_three max_four min_four str_gtr str_leq str_geq cell_twice
set_option linter.unusedVariables false
set_option linter.unusedSimpArgs false
-- COMPACT
/-! ### impl_in: function 50 -/
def impl_in.f (a0:Int) (a1:Int) (a2:Int):Option (Bool):=if a0 ≥ a1 then (some (decide (a0≤a2))) else (some false)
set_option maxHeartbeats 8000000 in
set_option maxRecDepth 100000 in
theorem impl_in.calls (a0:Int) (a1:Int) (a2:Int) (r:Bool) (w:World) (h:impl_in.f a0 a1 a2=some r) :
    Calls Tryd.prog 50 #[.int .i64 a0,.int .i64 a1,.int .i64 a2] w fun e w'=>e = .returned (.bool r)∧Drawn0 w w':=by
 have H:(if a0 ≥ a1 then (some (decide (a0≤a2))) else (some false))=some r:=h;clear h;by_cases c4:a0 ≥ a1
 · rw [if_pos c4] at H
   have c4b0:decide (a1≤a0)=true:=zE c4;clear c4;obtain rfl:=zI H;go_enter Tryd.func50,Tryd.ntmps50;go_wp2;go_ret;exact ⟨rs,dw⟩
 rw [if_neg c4] at H;have c4b0:decide (a1≤a0)=false:=decide_eq_false c4;clear c4;obtain rfl:=zI H;go_enter Tryd.func50,Tryd.ntmps50;go_wp2;go_ret;exact ⟨rs,dw⟩
/-! ### impl_isKey: function 70 -/
def impl_isKey.f (a0:ByteArray):Option (Bool):=(impl_in.f (a0.size:Int) 1 16).bind fun t101=>(some t101)
set_option maxHeartbeats 8000000 in
set_option maxRecDepth 100000 in
theorem impl_isKey.calls (a0:ByteArray) (r:Bool) (w:World) (h:impl_isKey.f a0=some r) :
    Calls Tryd.prog 70 #[.string a0] w fun e w'=>e = .returned (.bool r)∧Drawn0 w w':=by
 have H:((impl_in.f (a0.size:Int) 1 16).bind fun t101=>(some t101))=some r:=h;clear h;replace H:=bs H;obtain ⟨t101,A2,H⟩:=H;obtain rfl:=zI H;go_enter Tryd.func70,Tryd.ntmps70;go_wp2_with (first|((with_reducible refine gcl (f:=50) rfl ?_);refine gk (some 5) Tryd.func50 #[.int .i64 (a0.size:Int),.int .i64 1,.int .i64 16] ?_;(with_reducible refine (impl_in.calls (a0.size:Int) 1 16 t101 _ A2.out).mono ?_);rintro e w' ⟨rfl,⟨nd,rfl⟩⟩;refine ⟨_,rfl,?_⟩));go_ret;exact ⟨rs,dw⟩
/-! ### impl_isSeq: function 71 -/
def impl_isSeq.f (a0:Int):Option (Bool):=(impl_in.f a0 0 1000000000).bind fun t102=>(some t102)
set_option maxHeartbeats 8000000 in
set_option maxRecDepth 100000 in
theorem impl_isSeq.calls (a0:Int) (r:Bool) (w:World) (h:impl_isSeq.f a0=some r) :
    Calls Tryd.prog 71 #[.int .i64 a0] w fun e w'=>e = .returned (.bool r)∧Drawn0 w w':=by
 have H:((impl_in.f a0 0 1000000000).bind fun t102=>(some t102))=some r:=h;clear h;replace H:=bs H;obtain ⟨t102,A2,H⟩:=H;obtain rfl:=zI H;go_enter Tryd.func71,Tryd.ntmps71;go_wp2_with (first|((with_reducible refine gcl (f:=50) rfl ?_);refine gk (some 4) Tryd.func50 #[.int .i64 a0,.int .i64 0,.int .i64 1000000000] ?_;(with_reducible refine (impl_in.calls a0 0 1000000000 t102 _ A2.out).mono ?_);rintro e w' ⟨rfl,⟨nd,rfl⟩⟩;refine ⟨_,rfl,?_⟩));go_ret;exact ⟨rs,dw⟩
/-! ### impl_isValue: function 80 -/
def impl_isValue.f (a0:ByteArray):Option (Bool):=some (decide ((a0.size:Int)≤40))
set_option maxHeartbeats 8000000 in
set_option maxRecDepth 100000 in
theorem impl_isValue.calls (a0:ByteArray) (r:Bool) (w:World) (h:impl_isValue.f a0=some r) :
    Calls Tryd.prog 80 #[.string a0] w fun e w'=>e = .returned (.bool r)∧Drawn0 w w':=by
 have H:(some (decide ((a0.size:Int)≤40)))=some r:=h;clear h;obtain rfl:=zI H;go_enter Tryd.func80,Tryd.ntmps80;go_wp2;go_ret;exact ⟨rs,dw⟩
/-! ### impl_GoodItem: function 39 -/
def impl_GoodItem.f (a0_0:ByteArray) (a0_1:Int) (a0_2:Int) (a0_3:ByteArray):Option (Bool):=(impl_isKey.f a0_0).bind fun t104=>(if t104=true then ((impl_isSeq.f a0_1).bind fun t105=>(if t105=true then ((impl_in.f a0_2 0 1).bind fun t106=>(if t106=true then ((impl_isValue.f a0_3).bind fun t107=>(if t107=true then (if a0_2=1 then (some true) else (some (a0_3.toList == ([]:List UInt8)))) else (some false))) else (some false))) else (some false))) else (some false))
set_option maxHeartbeats 8000000 in
set_option maxRecDepth 100000 in
theorem impl_GoodItem.calls (a0_0:ByteArray) (a0_1:Int) (a0_2:Int) (a0_3:ByteArray) (r:Bool) (w:World) (h:impl_GoodItem.f a0_0 a0_1 a0_2 a0_3=some r) :
    Calls Tryd.prog 39 #[.agg #[.string a0_0,.int .i64 a0_1,.int .i64 a0_2,.string a0_3]] w fun e w'=>e = .returned (.bool r)∧Below w.heap.size w w':=by
 have hu28:=Tryd.underlying28;have HB:=AsZ.mk (Below.refl w.heap.size w);have H:((impl_isKey.f a0_0).bind fun t104=>(if t104=true then ((impl_isSeq.f a0_1).bind fun t105=>(if t105=true then ((impl_in.f a0_2 0 1).bind fun t106=>(if t106=true then ((impl_isValue.f a0_3).bind fun t107=>(if t107=true then (if a0_2=1 then (some true) else (some (a0_3.toList == ([]:List UInt8)))) else (some false))) else (some false))) else (some false))) else (some false)))=some r:=h;clear h;replace H:=bs H;obtain ⟨t104,A2,H⟩:=H;by_cases c3:t104=true;rotate_left
 · replace c3:=Bool.eq_false_iff.mpr c3
   subst c3;replace H:=iN H;obtain rfl:=zI H;go_enter Tryd.func39,Tryd.ntmps39;go_wp2_with (first|((with_reducible refine gate_dst (N:=1) rfl ?_);refine bev 1 28 (cs:=#[.string a0_0,.int .i64 a0_1,.int .i64 a0_2,.string a0_3]) ?_;intro gb103 hg w21 hbox hb;have BK103:=AsZ.mk (hbox);have GW103:=gz HB hg;have GE103:=gz HB hg;replace HB:=bp hb;clear hb hbox hg;obtain ⟨hcz22_0,hcz22_1,hcz22_2,hcz22_3,hfz22_0,hfz22_1,hfz22_2,hfz22_3⟩:=bx4 BK103)|((with_reducible refine gcl (f:=70) rfl ?_);refine gk (some 5) Tryd.func70 #[.string a0_0] ?_;(with_reducible refine (impl_isKey.calls a0_0 false _ A2.out).mono ?_);rintro e w' ⟨rfl,⟨nd,rfl⟩⟩;refine ⟨_,rfl,?_⟩));go_ret;exact ⟨re,bel⟩
 subst c3;replace H:=iP H;replace H:=bs H;obtain ⟨t105,A4,H⟩:=H;by_cases c5:t105=true;rotate_left
 · replace c5:=Bool.eq_false_iff.mpr c5
   subst c5;replace H:=iN H;obtain rfl:=zI H;go_enter Tryd.func39,Tryd.ntmps39;go_wp2_with (first|((with_reducible refine gate_dst (N:=1) rfl ?_);refine bev 1 28 (cs:=#[.string a0_0,.int .i64 a0_1,.int .i64 a0_2,.string a0_3]) ?_;intro gb103 hg w19 hbox hb;have BK103:=AsZ.mk (hbox);have GW103:=gz HB hg;have GE103:=gz HB hg;replace HB:=bp hb;clear hb hbox hg;obtain ⟨hcz20_0,hcz20_1,hcz20_2,hcz20_3,hfz20_0,hfz20_1,hfz20_2,hfz20_3⟩:=bx4 BK103)|((with_reducible refine gcl (f:=70) rfl ?_);refine gk (some 5) Tryd.func70 #[.string a0_0] ?_;(with_reducible refine (impl_isKey.calls a0_0 true _ A2.out).mono ?_);rintro e w' ⟨rfl,⟨nd,rfl⟩⟩;refine ⟨_,rfl,?_⟩)|(go_at_call 71;(with_reducible refine (impl_isSeq.calls a0_1 false _ A4.out).mono ?_);rintro e w' ⟨rfl,⟨nd,rfl⟩⟩));go_ret;exact ⟨re,bel⟩
 subst c5;replace H:=iP H;replace H:=bs H;obtain ⟨t106,A6,H⟩:=H;by_cases c7:t106=true;rotate_left
 · replace c7:=Bool.eq_false_iff.mpr c7
   subst c7;replace H:=iN H;obtain rfl:=zI H;go_enter Tryd.func39,Tryd.ntmps39;go_wp2_with (first|((with_reducible refine gate_dst (N:=1) rfl ?_);refine bev 1 28 (cs:=#[.string a0_0,.int .i64 a0_1,.int .i64 a0_2,.string a0_3]) ?_;intro gb103 hg w17 hbox hb;have BK103:=AsZ.mk (hbox);have GW103:=gz HB hg;have GE103:=gz HB hg;replace HB:=bp hb;clear hb hbox hg;obtain ⟨hcz18_0,hcz18_1,hcz18_2,hcz18_3,hfz18_0,hfz18_1,hfz18_2,hfz18_3⟩:=bx4 BK103)|((with_reducible refine gcl (f:=70) rfl ?_);refine gk (some 5) Tryd.func70 #[.string a0_0] ?_;(with_reducible refine (impl_isKey.calls a0_0 true _ A2.out).mono ?_);rintro e w' ⟨rfl,⟨nd,rfl⟩⟩;refine ⟨_,rfl,?_⟩)|(go_at_call 71;(with_reducible refine (impl_isSeq.calls a0_1 true _ A4.out).mono ?_);rintro e w' ⟨rfl,⟨nd,rfl⟩⟩)|(go_at_call 50;(with_reducible refine (impl_in.calls a0_2 0 1 false _ A6.out).mono ?_);rintro e w' ⟨rfl,⟨nd,rfl⟩⟩));go_ret;exact ⟨re,bel⟩
 subst c7;replace H:=iP H;replace H:=bs H;obtain ⟨t107,A8,H⟩:=H;by_cases c9:t107=true;rotate_left
 · replace c9:=Bool.eq_false_iff.mpr c9
   subst c9;replace H:=iN H;obtain rfl:=zI H;go_enter Tryd.func39,Tryd.ntmps39;go_wp2_with (first|((with_reducible refine gate_dst (N:=1) rfl ?_);refine bev 1 28 (cs:=#[.string a0_0,.int .i64 a0_1,.int .i64 a0_2,.string a0_3]) ?_;intro gb103 hg w15 hbox hb;have BK103:=AsZ.mk (hbox);have GW103:=gz HB hg;have GE103:=gz HB hg;replace HB:=bp hb;clear hb hbox hg;obtain ⟨hcz16_0,hcz16_1,hcz16_2,hcz16_3,hfz16_0,hfz16_1,hfz16_2,hfz16_3⟩:=bx4 BK103)|((with_reducible refine gcl (f:=70) rfl ?_);refine gk (some 5) Tryd.func70 #[.string a0_0] ?_;(with_reducible refine (impl_isKey.calls a0_0 true _ A2.out).mono ?_);rintro e w' ⟨rfl,⟨nd,rfl⟩⟩;refine ⟨_,rfl,?_⟩)|(go_at_call 71;(with_reducible refine (impl_isSeq.calls a0_1 true _ A4.out).mono ?_);rintro e w' ⟨rfl,⟨nd,rfl⟩⟩)|(go_at_call 50;(with_reducible refine (impl_in.calls a0_2 0 1 true _ A6.out).mono ?_);rintro e w' ⟨rfl,⟨nd,rfl⟩⟩)|(go_at_call 80;(with_reducible refine (impl_isValue.calls a0_3 false _ A8.out).mono ?_);rintro e w' ⟨rfl,⟨nd,rfl⟩⟩));go_ret;exact ⟨re,bel⟩
 subst c9;replace H:=iP H;by_cases c10:a0_2=1;rotate_left
 · rw [if_neg c10] at H
   have c10b0:(a0_2 == 1)=false:=beq_eq_false_iff_ne.mpr c10;have c10b1:(a0_2 != 1)=true:=bne_iff_ne.mpr c10;obtain rfl:=zI H;go_enter Tryd.func39,Tryd.ntmps39;go_wp2_with (first|((with_reducible refine gate_dst (N:=1) rfl ?_);refine bev 1 28 (cs:=#[.string a0_0,.int .i64 a0_1,.int .i64 a0_2,.string a0_3]) ?_;intro gb103 hg w13 hbox hb;have BK103:=AsZ.mk (hbox);have GW103:=gz HB hg;have GE103:=gz HB hg;replace HB:=bp hb;clear hb hbox hg;obtain ⟨hcz14_0,hcz14_1,hcz14_2,hcz14_3,hfz14_0,hfz14_1,hfz14_2,hfz14_3⟩:=bx4 BK103)|((with_reducible refine gcl (f:=70) rfl ?_);refine gk (some 5) Tryd.func70 #[.string a0_0] ?_;(with_reducible refine (impl_isKey.calls a0_0 true _ A2.out).mono ?_);rintro e w' ⟨rfl,⟨nd,rfl⟩⟩;refine ⟨_,rfl,?_⟩)|(go_at_call 71;(with_reducible refine (impl_isSeq.calls a0_1 true _ A4.out).mono ?_);rintro e w' ⟨rfl,⟨nd,rfl⟩⟩)|(go_at_call 50;(with_reducible refine (impl_in.calls a0_2 0 1 true _ A6.out).mono ?_);rintro e w' ⟨rfl,⟨nd,rfl⟩⟩)|(go_at_call 80;(with_reducible refine (impl_isValue.calls a0_3 true _ A8.out).mono ?_);rintro e w' ⟨rfl,⟨nd,rfl⟩⟩));go_ret;exact ⟨re,bel⟩
 rw [if_pos c10] at H;have c10b0:(a0_2 == 1)=true:=beq_iff_eq.mpr c10;have c10b1:(a0_2 != 1)=false:=bne_eq_false_iff_eq.mpr c10;clear c10;obtain rfl:=zI H;go_enter Tryd.func39,Tryd.ntmps39;go_wp2_with (first|((with_reducible refine gate_dst (N:=1) rfl ?_);refine bev 1 28 (cs:=#[.string a0_0,.int .i64 a0_1,.int .i64 a0_2,.string a0_3]) ?_;intro gb103 hg w11 hbox hb;have BK103:=AsZ.mk (hbox);have GW103:=gz HB hg;have GE103:=gz HB hg;replace HB:=bp hb;clear hb hbox hg;obtain ⟨hcz12_0,hcz12_1,hcz12_2,hcz12_3,hfz12_0,hfz12_1,hfz12_2,hfz12_3⟩:=bx4 BK103)|((with_reducible refine gcl (f:=70) rfl ?_);refine gk (some 5) Tryd.func70 #[.string a0_0] ?_;(with_reducible refine (impl_isKey.calls a0_0 true _ A2.out).mono ?_);rintro e w' ⟨rfl,⟨nd,rfl⟩⟩;refine ⟨_,rfl,?_⟩)|(go_at_call 71;(with_reducible refine (impl_isSeq.calls a0_1 true _ A4.out).mono ?_);rintro e w' ⟨rfl,⟨nd,rfl⟩⟩)|(go_at_call 50;(with_reducible refine (impl_in.calls a0_2 0 1 true _ A6.out).mono ?_);rintro e w' ⟨rfl,⟨nd,rfl⟩⟩)|(go_at_call 80;(with_reducible refine (impl_isValue.calls a0_3 true _ A8.out).mono ?_);rintro e w' ⟨rfl,⟨nd,rfl⟩⟩));go_ret;exact ⟨re,bel⟩
/-! ### impl_SumTable: function 99 -/
mutual
def impl_SumTable.l0:Nat→List Int→Int→Option (List Int)
  |0,_,_=>none
  |k + 1,x1,x5=>if x5 < 256 then (impl_SumTable.l1 k x1 x5 x5 0) else (some x1)
def impl_SumTable.l1:Nat→List Int→Int→Int→Int→Option (List Int)
  |0,_,_,_,_=>none
  |k + 1,x1,x2,x5,x8=>if x8 < 8 then (if (Go.bits .and .u32 x2 1)=1 then (impl_SumTable.l1 k x1 (Go.bits .xor .u32 (x2 / 2) 2197175160) x5 (wrap64 (x8 + 1))) else (impl_SumTable.l1 k x1 (x2 / 2) x5 (wrap64 (x8 + 1)))) else (if x1.length < 35184372088832 then (impl_SumTable.l0 k (x1 ++ [x2]) ((x5 + 1) % 4294967296)) else (none))
end
def impl_SumTable.f (k:Nat)  : Option (List Int):=impl_SumTable.l0 k (([]:List Int)) 0
theorem impl_SumTable.mono_l:∀ k,(∀ y0 y1,LeO (impl_SumTable.l0 k y0 y1) (impl_SumTable.l0 (k + 1) y0 y1))∧(∀ y0 y1 y2 y3,LeO (impl_SumTable.l1 k y0 y1 y2 y3) (impl_SumTable.l1 (k + 1) y0 y1 y2 y3))
  |0=>⟨fun _ _ r h=>by simp [impl_SumTable.l0] at h,fun _ _ _ _ r h=>by simp [impl_SumTable.l1] at h⟩
  |k + 1=>by
    obtain ⟨ih0,ih1⟩:=impl_SumTable.mono_l k;refine ⟨?_,?_⟩
    · intro y0 y1
      unfold impl_SumTable.l0;exact mo
    · intro y0 y1 y2 y3
      unfold impl_SumTable.l1;exact mo
theorem impl_SumTable.mono:∀ k,LeO (impl_SumTable.f k ) (impl_SumTable.f (k + 1) ):=by
  intro  k;obtain ⟨ih0,ih1⟩:=impl_SumTable.mono_l k;unfold impl_SumTable.f;exact mo
set_option maxHeartbeats 8000000 in
set_option maxRecDepth 100000 in
theorem impl_SumTable.calls (k:Nat)  (r:List Int) (w:World) (h:impl_SumTable.f k  = some r) :
    Calls Tryd.prog 99 #[] w fun e w' => ∃ v0_:Value,e = .returned (v0_)∧Kd.R (Kd.int .u32) 106 w' w.heap.size (fun _=>True) v0_ r∧Below w.heap.size w w':=by
 have HB:=AsZ.mk (Below.refl w.heap.size w);have H:(impl_SumTable.l0 k (([]:List Int)) 0)=some r:=h;clear h;obtain ⟨y108,hy108⟩:∃ y_:List Int,y_=(([]:List Int)):=⟨_,rfl⟩;replace H:(impl_SumTable.l0 k y108 0)=some r:=ry hy108 H;have Ny108:=AsZ.mk hy108;clear hy108;have H':=AsZ.mk H;clear H;go_enter Tryd.func99,Tryd.ntmps99;go_wp2_with (first|((with_reducible refine gate_dst (N:=4) rfl ?_);refine Kd.R_lit (Kd.int .u32) _ 106 ?hg (N:=4) ?hd (xs:=([]:List Int)) (inner:=[]) (ok:=fun _=>True) (okp:=fun _=>True) ?hr ?hp (fun _ hk=>hk) trivial (Below.refl _ _) (Nat.le_refl _) (by simp) ?_;(case hd=>rfl);(case hg=>rfl);(case hr=>first|(go_simp;done)|(go_simp;rfl));(case hp=>exact (Reps.none _ _));intro v109 w1 ho2 hb hg_ hnew_;clear hg_ hnew_;(first|rw [← Ny108.out] at ho2|(simp only [Int.reduceToNat] at ho2;rw [← Ny108.out] at ho2));have HO110:=AsZ.mk (Kd.R_lower ho2 (bwz bel));replace HB:=bp hb;clear hb ho2))
 go_loopg [1,5] k (fun kq v1 v5 w' => ∃ (x1_1:List Int) (x5_1:Int),v5 = .int .u32 x5_1∧AsZ (impl_SumTable.l0 kq x1_1 x5_1=some r)∧AsZ (kq≤k)∧AsZ (Kd.R (Kd.int .u32) 106 w' w.heap.size (fun _=>True) v1 x1_1)∧AsZ (Below w.heap.size w w'))
 case atStart=>exact ⟨(y108),(0),rs,H',⟨Nat.le_refl _⟩,⟨kR HO110⟩,⟨bel⟩⟩
 case round =>
  clear H'
  try clear p2
  obtain ⟨x1_1,x5_1,rfl,HA,HK1,HO_1,HB⟩:=hrel
  cases gk with
  |zero=>exact absurd HA.out (by simp [impl_SumTable.l0])
  |succ k1 =>
   have H:=HA.out;clear HA;simp only [impl_SumTable.l0] at H;by_cases c3:x5_1 < 256;rotate_left
   · rw [if_neg c3] at H
     have c3b0:decide (x5_1 < 256)=false:=decide_eq_false c3;clear c3;obtain rfl:=zI H;go_wp2;go_ret;exact ⟨_,re,kR HO_1,bel⟩
   rw [if_pos c3] at H;have c3b0:decide (x5_1 < 256)=true:=zE c3;clear c3;have H':=AsZ.mk H;clear H;go_wp2
   go_loopg [2,8] k1 (fun kq v2 v8 w' => ∃ (x2_2:Int) (x8_2:Int),v2 = .int .u32 x2_2∧v8 = .int .i64 x8_2∧AsZ (impl_SumTable.l1 kq x1_1 x2_2 x5_1 x8_2=some r)∧AsZ (kq≤k1)∧AsZ (Kd.R (Kd.int .u32) 106 w' w.heap.size (fun _=>True) u1 x1_1)∧AsZ (Below w.heap.size w w'))
   case atStart=>exact ⟨(x5_1),(0),rs,rs,H',⟨Nat.le_refl _⟩,⟨kR HO_1⟩,⟨bel⟩⟩
   case round =>
    clear H'
    try clear p2
    try clear c3b0
    obtain ⟨x2_2,x8_2,rfl,rfl,HA,HK2,HO_1,HB⟩:=hrel
    cases gk with
    |zero=>exact absurd HA.out (by simp [impl_SumTable.l1])
    |succ k2 =>
     have H:=HA.out;clear HA;simp only [impl_SumTable.l1] at H;by_cases c4:x8_2 < 8
     · rw [if_pos c4] at H
       have c4b0:decide (x8_2 < 8)=true:=zE c4;clear c4;by_cases c5:(Go.bits .and .u32 x2_2 1)=1;rotate_left
       · rw [if_neg c5] at H
         have c5b0:((Go.bits .and .u32 x2_2 1) == 1)=false:=beq_eq_false_iff_ne.mpr c5;have c5b1:((Go.bits .and .u32 x2_2 1) != 1)=true:=bne_iff_ne.mpr c5;have H':=AsZ.mk H;clear H;go_wp2;go_roundg k2
         case measure=>have:=HK1.out;have:=HK2.out;omega
         case rel=>exact ⟨(x2_2 / 2),(wrap64 (x8_2 + 1)),rs,rs,H',⟨by have:=HK1.out;have:=HK2.out;omega⟩,⟨kR HO_1⟩,⟨bel⟩⟩
       rw [if_pos c5] at H;have c5b0:((Go.bits .and .u32 x2_2 1) == 1)=true:=beq_iff_eq.mpr c5;have c5b1:((Go.bits .and .u32 x2_2 1) != 1)=false:=bne_eq_false_iff_eq.mpr c5;clear c5;have H':=AsZ.mk H;clear H;go_wp2;go_roundg k2
       case measure=>have:=HK1.out;have:=HK2.out;omega
       case rel=>exact ⟨(Go.bits .xor .u32 (x2_2 / 2) 2197175160),(wrap64 (x8_2 + 1)),rs,rs,H',⟨by have:=HK1.out;have:=HK2.out;omega⟩,⟨kR HO_1⟩,⟨bel⟩⟩
     rw [if_neg c4] at H;have c4b0:decide (x8_2 < 8)=false:=decide_eq_false c4;clear c4;by_cases c6:x1_1.length < 35184372088832;rotate_left
     · rw [if_neg c6] at H
       exact absurd H (by simp)
     rw [if_pos c6] at H;have LMc6:=AsZ.mk c6;clear c6;obtain ⟨y111,hy111⟩:∃ y_:List Int,y_=(x1_1 ++ [x2_2]):=⟨_,rfl⟩;replace H:(impl_SumTable.l0 k2 y111 ((x5_1 + 1) % 4294967296))=some r:=ry hy111 H;have Ny111:=AsZ.mk hy111;clear hy111;have H':=AsZ.mk H;clear H;go_wp2_with (first|((with_reducible refine gate_builtin (b := .append) (xs:=#[.tmp 19,.tmp 21]) rfl ?_);at_builtin;refine Kd.R_append (Kd.int .u32) (w0:=w) w.heap.size rfl (.tmp 19) (.tmp 21) 88 106 (.int .u32 0) 4 rfl Tryd.underlying88 info106 rfl (by decide) (by omega) u1 x1_1 x2_2 [.int .u32 x2_2] (fun _=>True) (fun _=>False) rfl rfl ?aP (fun _ hk=>hk.elim) ?aF ?aO ?aB ?aS ?aL ?_;(case aP=>exact rfl);(case aB=>exact bel);(case aF=>exact (fun _ _=>trivial));(case aO=>exact (kR HO_1));(case aS=>exact (bwz bel));(case aL=>have:=LMc6.out;omega);intro v112 w7 ho hb hg hat;rw [← Ny111.out] at ho;have HO113:=AsZ.mk (ho);replace HB:=AsZ.mk (hb);clear HO_1;clear ho hb hg hat));go_roundg k2
     case measure=>have:=HK1.out;have:=HK2.out;omega
     case rel=>exact ⟨(y111),((x5_1 + 1) % 4294967296),rs,H',⟨by have:=HK1.out;have:=HK2.out;omega⟩,⟨kR HO113⟩,⟨bel⟩⟩
/-! ### impl_SumOn: function 97 -/
def impl_SumOn.l0:Nat→Int→ByteArray→List Int→Int→Int→Option (Int)
  |0,_,_,_,_,_=>none
  |k + 1,x0,x1,x5,x9,x10=>if x10 < x9 then (if 0≤x10 then (if x10 < (x1.size:Int) then (if 0≤(Go.bits .xor .u8 ((x0) % 256) (bt x1 x10)) then (if (Go.bits .xor .u8 ((x0) % 256) (bt x1 x10)) < (x5.length:Int) then (impl_SumOn.l0 k (Go.bits .xor .u32 (x0 / 256) (rd x5 (Go.bits .xor .u8 ((x0) % 256) (bt x1 x10)))) x1 x5 x9 (wrap64 (x10 + 1))) else (none)) else (none)) else (none)) else (none)) else (some x0)
def impl_SumOn.f (k:Nat) (a0:Int) (a1:ByteArray):Option (Int):=(impl_SumTable.f k).bind fun t114=>(impl_SumOn.l0 k a0 a1 t114 (a1.size:Int) 0)
theorem impl_SumOn.mono_l:∀ k,(∀ y0 y1 y2 y3 y4,LeO (impl_SumOn.l0 k y0 y1 y2 y3 y4) (impl_SumOn.l0 (k + 1) y0 y1 y2 y3 y4))
  |0=>fun _ _ _ _ _ r h=>by simp [impl_SumOn.l0] at h
  |k + 1=>by
    have ih0:=impl_SumOn.mono_l k
    · intro y0 y1 y2 y3 y4
      unfold impl_SumOn.l0;have j0:=@impl_SumTable.mono;exact mo
theorem impl_SumOn.mono:∀ a0 a1 k,LeO (impl_SumOn.f k a0 a1) (impl_SumOn.f (k + 1) a0 a1):=by
  intro a0 a1 k;have ih0:=impl_SumOn.mono_l k;unfold impl_SumOn.f;have j0:=@impl_SumTable.mono;exact mo
set_option maxHeartbeats 8000000 in
set_option maxRecDepth 100000 in
theorem impl_SumOn.calls (k:Nat) (a0:Int) (a1:ByteArray) (r:Int) (w:World) (h:impl_SumOn.f k a0 a1=some r) :
    Calls Tryd.prog 97 #[.int .u32 a0,.string a1] w fun e w'=>e = .returned (.int .u32 r)∧Below w.heap.size w w':=by
 have HB:=AsZ.mk (Below.refl w.heap.size w);have H:((impl_SumTable.f k).bind fun t114=>(impl_SumOn.l0 k a0 a1 t114 (a1.size:Int) 0))=some r:=h;clear h;replace H:=bs H;obtain ⟨t114,A3,H⟩:=H;have H':=AsZ.mk H;clear H;go_enter Tryd.func97,Tryd.ntmps97;go_wp2_with (first|((with_reducible refine gcl (f:=99) rfl ?_);refine gk (some 7) Tryd.func99 #[] ?_;(with_reducible refine (impl_SumTable.calls k  t114 _ A3.out).mono ?_);rintro e w4 ⟨v115,rfl,ho0,hb⟩;refine ⟨_,rfl,?_⟩;have HO116:=AsZ.mk (Kd.R_lower ho0 (bwz bel));replace HB:=bp hb;(try clear hb);(try clear hb2);(try clear hk);(try clear hi);(try clear ho0)))
 go_loopg [0,10] k (fun kq v0 v10 w' => ∃ (x0_1:Int) (x10_1:Int),v0 = .int .u32 x0_1∧v10 = .int .i64 x10_1∧AsZ (impl_SumOn.l0 kq x0_1 a1 t114 (a1.size:Int) x10_1=some r)∧AsZ (kq≤k)∧AsZ (Kd.R (Kd.int .u32) 106 w' w.heap.size (fun _=>True) v115 t114)∧AsZ (Below w.heap.size w w'))
 case atStart=>exact ⟨(a0),(0),rs,rs,H',⟨Nat.le_refl _⟩,⟨kR HO116⟩,⟨bel⟩⟩
 case round =>
  clear H'
  try clear p2
  obtain ⟨x0_1,x10_1,rfl,rfl,HA,HK1,HO_5,HB⟩:=hrel
  cases gk with
  |zero=>exact absurd HA.out (by simp [impl_SumOn.l0])
  |succ k1 =>
   have H:=HA.out;clear HA;simp only [impl_SumOn.l0] at H;by_cases c5:x10_1 < (a1.size:Int);rotate_left
   · rw [if_neg c5] at H
     have c5b0:decide (x10_1 < (a1.size:Int))=false:=decide_eq_false c5;clear c5;obtain rfl:=zI H;go_wp2;go_ret;exact ⟨re,bel⟩
   rw [if_pos c5] at H;have c5b0:decide (x10_1 < (a1.size:Int))=true:=zE c5;clear c5;by_cases c6:0≤x10_1;rotate_left
   · rw [if_neg c6] at H
     exact absurd H (by simp)
   rw [if_pos c6] at H;have c6b0:decide (0≤x10_1)=true:=zE c6;clear c6;by_cases c7:x10_1 < (a1.size:Int);rotate_left
   · rw [if_neg c7] at H
     exact absurd H (by simp)
   rw [if_pos c7] at H;have c7b0:decide (x10_1 < (a1.size:Int))=true:=zE c7;clear c7;obtain ⟨ji9,hji9⟩:∃ j_:Int,(Go.bits .xor .u8 ((x0_1) % 256) (bt a1 x10_1))=j_:=⟨_,rfl⟩;replace H:(if 0≤(ji9) then (if (ji9) < (t114.length:Int) then (impl_SumOn.l0 k1 (Go.bits .xor .u32 (x0_1 / 256) (rd t114 (ji9))) a1 t114 (a1.size:Int) (wrap64 (x10_1 + 1))) else (none)) else (none))=some r:=by first|(rw [hji9] at H;exact H)|(simp only [hji9] at H ⊢;exact H)
   by_cases c10:0≤(ji9);rotate_left
   · rw [if_neg c10] at H
     exact absurd H (by simp)
   rw [if_pos c10] at H;have c10b0:decide (0≤(ji9))=true:=zE c10;clear c10;by_cases c11:(ji9) < (t114.length:Int);rotate_left
   · rw [if_neg c11] at H
     exact absurd H (by simp)
   rw [if_pos c11] at H;have c11b0:=zE c11;clear c11;have H':=AsZ.mk H;clear H;have p8:0≤(x10_1:Int):=dd;have q8:x10_1 < (a1.size:Int):=dd;have hx8:=bt_at a1 x10_1;replace p8:=eq_true p8;replace q8:=eq_true q8;obtain ⟨Ao12,co12,eo12⟩:=Kd.R_slice HO_5.out;subst eo12;have p117:0≤((ji9):Int):=dd;have q117:(ji9) < (t114.length:Int):=dd;obtain ⟨ad117,e117,hx117_0⟩:=Kd.at_int (Kd.R_reads' HO_5.out).2.2 (ji9) p117 q117;cases e117;replace p117:=eq_true p117;replace q117:=eq_true q117;go_wp2;go_roundg k1
   case measure=>have:=HK1.out;omega
   case rel=>exact ⟨(Go.bits .xor .u32 (x0_1 / 256) (rd t114 (ji9))),(wrap64 (x10_1 + 1)),(by first|rfl|(simp;done)|(simp only [← hji9]<;>(first|rfl|simp))|(simp [*];done)),rs,H',⟨by have:=HK1.out;omega⟩,⟨kR HO_5⟩,⟨bel⟩⟩
/-! ### impl_SumOf: function 85 -/
def impl_SumOf.f (k:Nat) (a0:ByteArray):Option (Int):=(impl_SumOn.f k 4294967295 a0).bind fun t118=>(some (Go.bits .xor .u32 4294967295 t118))
theorem impl_SumOf.mono:∀ a0 k,LeO (impl_SumOf.f k a0) (impl_SumOf.f (k + 1) a0):=by
  intro a0 k;unfold impl_SumOf.f;have j0:=@impl_SumOn.mono;exact mo
set_option maxHeartbeats 8000000 in
set_option maxRecDepth 100000 in
theorem impl_SumOf.calls (k:Nat) (a0:ByteArray) (r:Int) (w:World) (h:impl_SumOf.f k a0=some r) :
    Calls Tryd.prog 85 #[.string a0] w fun e w'=>e = .returned (.int .u32 r)∧Below w.heap.size w w':=by
 have HB:=AsZ.mk (Below.refl w.heap.size w);have H:((impl_SumOn.f k 4294967295 a0).bind fun t118=>(some (Go.bits .xor .u32 4294967295 t118)))=some r:=h;clear h;replace H:=bs H;obtain ⟨t118,A2,H⟩:=H;obtain rfl:=zI H;go_enter Tryd.func85,Tryd.ntmps85;go_wp2_with (first|((with_reducible refine gcl (f:=97) rfl ?_);refine gk (some 4) Tryd.func97 #[.int .u32 4294967295,.string a0] ?_;(with_reducible refine (impl_SumOn.calls k 4294967295 a0 t118 _ A2.out).mono ?_);rintro e w3 ⟨rfl,hb⟩;refine ⟨_,rfl,?_⟩;replace HB:=bp hb;(try clear hb);(try clear hb2);(try clear hk);(try clear hi)));go_ret;exact ⟨re,bel⟩
/-! ### strconv_Itoa: function 86 -/
def strconv_Itoa.f (a0:Int):Option (ByteArray):=if -9223372036854775808≤a0∧a0≤9223372036854775807 then some ⟨(Lib.itoa a0).toArray⟩ else none
theorem strconv_Itoa.calls (a0:Int) (r:ByteArray) (w:World) (hT:Go.Proofs.YtffjlpphcjfdgaaDoor.Tab w) (h:strconv_Itoa.f a0=some r) :
    Calls Tryd.prog 86 #[.int .i64 a0] w fun e w'=>e = .returned (.string r)∧Below w.heap.size w w':=by
 unfold strconv_Itoa.f at h
 split at h
 rotate_left
 · cases h
 rename_i hh
 obtain ⟨h0,h1⟩:=hh;obtain rfl:=zI h;refine (Tryd.strconv_Itoa a0 h0 h1 w hT).mono ?_;rintro e w' ⟨rfl,k,os,rfl⟩;exact ⟨rfl,Lib.below_grow _ _ (Nat.le_refl _) _ _⟩
/-! ### impl_towerOf: function 44 -/
mutual
def impl_towerOf.l0:Nat→Int→Int→Option (Int)
  |0,_,_=>none
  |k + 1,x5,x6=>if (Go.bits .and .u32 x5 3)=0 then (impl_towerOf.j1 k x5 x6 (decide (x6 < 5))) else (impl_towerOf.j1 k x5 x6 false)
def impl_towerOf.j1:Nat→Int→Int→Bool→Option (Int)
  |0,_,_,_=>none
  |k + 1,x5,x6,x18=>if x18=true then (impl_towerOf.l0 k (x5 / 4) (wrap64 (x6 + 1))) else (some x6)
end
def impl_towerOf.f (k:Nat) (a0:ByteArray) (a1:Int):Option (Int):=(strconv_Itoa.f a1).bind fun t119=>(if a0.size + t119.size≤9223372036854775807 then ((impl_SumOf.f k (a0 ++ t119)).bind fun t120=>(impl_towerOf.l0 k t120 1)) else (none))
theorem impl_towerOf.mono_l:∀ k,(∀ y0 y1,LeO (impl_towerOf.l0 k y0 y1) (impl_towerOf.l0 (k + 1) y0 y1))∧(∀ y0 y1 y2,LeO (impl_towerOf.j1 k y0 y1 y2) (impl_towerOf.j1 (k + 1) y0 y1 y2))
  |0=>⟨fun _ _ r h=>by simp [impl_towerOf.l0] at h,fun _ _ _ r h=>by simp [impl_towerOf.j1] at h⟩
  |k + 1=>by
    obtain ⟨ih0,ih1⟩:=impl_towerOf.mono_l k;refine ⟨?_,?_⟩
    · intro y0 y1
      unfold impl_towerOf.l0;have j0:=@impl_SumOf.mono;exact mo
    · intro y0 y1 y2
      unfold impl_towerOf.j1;have j0:=@impl_SumOf.mono;exact mo
theorem impl_towerOf.mono:∀ a0 a1 k,LeO (impl_towerOf.f k a0 a1) (impl_towerOf.f (k + 1) a0 a1):=by
  intro a0 a1 k;obtain ⟨ih0,ih1⟩:=impl_towerOf.mono_l k;unfold impl_towerOf.f;have j0:=@impl_SumOf.mono;exact mo
set_option maxHeartbeats 8000000 in
set_option maxRecDepth 100000 in
theorem impl_towerOf.calls (k:Nat) (a0:ByteArray) (a1:Int) (r:Int) (w:World) (hT:Tab w) (h:impl_towerOf.f k a0 a1=some r) :
    Calls Tryd.prog 44 #[.string a0,.int .i64 a1] w fun e w'=>e = .returned (.int .i64 r)∧Below w.heap.size w w':=by
 have HT:=AsZ.mk hT;clear hT;have HB:=AsZ.mk (Below.refl w.heap.size w);have H:((strconv_Itoa.f a1).bind fun t119=>(if a0.size + t119.size≤9223372036854775807 then ((impl_SumOf.f k (a0 ++ t119)).bind fun t120=>(impl_towerOf.l0 k t120 1)) else (none)))=some r:=h;clear h;replace H:=bs H;obtain ⟨t119,A3,H⟩:=H;by_cases c4:a0.size + t119.size≤9223372036854775807;rotate_left
 · rw [if_neg c4] at H
   exact absurd H (by simp)
 rw [if_pos c4] at H;have c4b0:=eq_true c4;have c4b1:decide (a0.size + t119.size≤9223372036854775807)=true:=zE c4
 try have c4b2:(9223372036854775807 < a0.size + t119.size)=False:=eq_false (Nat.not_lt.2 c4)
 replace H:=bs H;obtain ⟨t120,A5,H⟩:=H;have H':=AsZ.mk H;clear H;go_enter Tryd.func44,Tryd.ntmps44;go_wp2_with (first|((with_reducible refine gcl (f:=86) rfl ?_);refine gk (some 9) Tryd.func86 #[.int .i64 a1] ?_;(with_reducible refine (strconv_Itoa.calls a1 t119 _ ?sideT A3.out).mono ?_);(case sideT=>exact tab_below HT.out (by repeat (first|(with_reducible first|exact HB.out|apply bwa|apply pbN|apply bw1|refine bws ?_ (AsZ.out (by assumption)))|exact HB.out)));rintro e w6 ⟨rfl,hb⟩;refine ⟨_,rfl,?_⟩;replace HB:=bp hb;(try clear hb);(try clear hb2);(try clear hk);(try clear hi))|((with_reducible refine gcl (f:=85) rfl ?_);refine gk (some 11) Tryd.func85 #[.string (a0 ++ t119)] ?_;(with_reducible refine (impl_SumOf.calls k (a0 ++ t119) t120 _ A5.out).mono ?_);rintro e w7 ⟨rfl,hb⟩;refine ⟨_,rfl,?_⟩;replace HB:=bp hb;(try clear hb);(try clear hb2);(try clear hk);(try clear hi)))
 go_loopg [5,6] k (fun kq v5 v6 w' => ∃ (x5_1:Int) (x6_1:Int),v5 = .int .u32 x5_1∧v6 = .int .i64 x6_1∧AsZ (impl_towerOf.l0 kq x5_1 x6_1=some r)∧AsZ (kq≤k)∧AsZ (Below w.heap.size w w'))
 case atStart=>exact ⟨(t120),(1),rs,rs,H',⟨Nat.le_refl _⟩,⟨bel⟩⟩
 case round =>
  clear H'
  try clear p2
  try clear c4b0
  try clear c4b1
  try clear c4b2
  obtain ⟨x5_1,x6_1,rfl,rfl,HA,HK1,HB⟩:=hrel
  cases gk with
  |zero=>exact absurd HA.out (by simp [impl_towerOf.l0])
  |succ k1 =>
   have H:=HA.out;clear HA;simp only [impl_towerOf.l0] at H;have HC8:=AsZ.mk H;clear H;go_upto_region 2 with (fail)
   go_cut [18] (fun v18 wc => ∃ (kq:Nat) (x18_7:Bool),v18 = .bool x18_7∧AsZ (impl_towerOf.j1 kq x5_1 x6_1 x18_7=some r)∧AsZ (kq≤k1)∧AsZ (Below w.heap.size w wc))
   case first =>
    have H:=HC8.out;clear HC8;by_cases c9:(Go.bits .and .u32 x5_1 3)=0;rotate_left
    · rw [if_neg c9] at H
      have c9b0:((Go.bits .and .u32 x5_1 3) == 0)=false:=beq_eq_false_iff_ne.mpr c9;have c9b1:((Go.bits .and .u32 x5_1 3) != 0)=true:=bne_iff_ne.mpr c9;(first|rw [c9b0]|(simp only [i64_w,i32_w];rw [c9b0])|rw [c9b1]|skip);have H':=AsZ.mk H;clear H;go_wp2;go_meet
      case rel=>exact ⟨_,(false),rs,H',⟨by have:=HK1.out;first|omega|exact Nat.le_refl _⟩,⟨bel⟩⟩
    rw [if_pos c9] at H;have c9b0:((Go.bits .and .u32 x5_1 3) == 0)=true:=beq_iff_eq.mpr c9;have c9b1:((Go.bits .and .u32 x5_1 3) != 0)=false:=bne_eq_false_iff_eq.mpr c9;clear c9;(first|rw [c9b0]|(simp only [i64_w,i32_w];rw [c9b0])|rw [c9b1]|skip);have H':=AsZ.mk H;clear H;go_wp2;go_meet
    case rel=>exact ⟨_,(decide (x6_1 < 5)),rs,H',⟨by have:=HK1.out;first|omega|exact Nat.le_refl _⟩,⟨bel⟩⟩
   case rest =>
    clear HC8
    try clear p2
    try clear c4b0
    try clear c4b1
    try clear c4b2
    try clear c9b0
    try clear c9b1
    obtain ⟨kq,x18_7,rfl,HA,HJ7,HB⟩:=hcut
    cases kq with
    |zero=>exact absurd HA.out (by simp [impl_towerOf.j1])
    |succ kj7 =>
     have H:=HA.out;clear HA;simp only [impl_towerOf.j1] at H;by_cases c10:x18_7=true;rotate_left
     · replace c10:=Bool.eq_false_iff.mpr c10
       subst c10;replace H:=iN H;obtain rfl:=zI H;go_wp2;go_ret;exact ⟨re,bel⟩
     subst c10;replace H:=iP H;have H':=AsZ.mk H;clear H;go_wp2;go_roundg kj7
     case measure=>have:=HK1.out;have:=HJ7.out;omega
     case rel=>exact ⟨(x5_1 / 4),(wrap64 (x6_1 + 1)),rs,rs,H',⟨by have:=HK1.out;have:=HJ7.out;omega⟩,⟨bel⟩⟩
end Go.Proofs.YtffjlpphcjfdgaaDoor.MFnExactInsertSkip
