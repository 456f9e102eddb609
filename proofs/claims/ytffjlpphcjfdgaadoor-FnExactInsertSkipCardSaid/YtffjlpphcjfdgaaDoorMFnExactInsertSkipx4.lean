-- Written by a program of this session out of the translation. Not trusted: Lean checks it.
import Derived.Test.YtffjlpphcjfdgaaDoorMFnExactInsertSkipx0
import Derived.Test.YtffjlpphcjfdgaaDoorMFnExactInsertSkipx1
import Derived.Test.YtffjlpphcjfdgaaDoorMFnExactInsertSkipx2
import Derived.Test.YtffjlpphcjfdgaaDoorMFnExactInsertSkipx3
namespace Go.Proofs.YtffjlpphcjfdgaaDoor.MFnExactInsertSkip
-- joined
-- short
-- shrunk
-- TAB
-- RD
open Go.Proofs.YtffjlpphcjfdgaaDoor Go.RowKit Go.Proofs.YtffjlpphcjfdgaaDoorW.PrintWords Go.Proofs.YtffjlpphcjfdgaaDoorW.PrintLast Go.Proofs.YtffjlpphcjfdgaaDoorW.PrintMore Go.Proofs.YtffjlpphcjfdgaaDoorX
attribute [local go_sem] max2_int min2_int max_two min_two max_three min_three max_four min_four str_gtr str_leq str_geq cell_twice
set_option linter.unusedVariables false
set_option linter.unusedSimpArgs false
-- COMPACT
/-! ### impl_GoodSkip: function 15 -/
mutual
def impl_GoodSkip.j0:Nat→Bool→List Int→List (S77)→Option (Bool)
  |0,_,_,_=>none
  |k + 1,x15,x146000,x146001=>if x15=true then (some false) else (impl_GoodSkip.l0 k x146001 (x146001.length:Int) 0 x146000 x146001)
def impl_GoodSkip.l0:Nat→List (S77)→Int→Int→List Int→List (S77)→Option (Bool)
  |0,_,_,_,_,_=>none
  |k + 1,x17,x18,x19,x146000,x146001=>if x19 < x18 then (if 0≤x19 then (if x19 < (x17.length:Int) then ((impl_GoodItem.f ((rd_T77 x17 x19).f0.f0) ((rd_T77 x17 x19).f0.f1) ((rd_T77 x17 x19).f0.f2) ((rd_T77 x17 x19).f0.f3)).bind fun t148=>(if t148=true then ((impl_towerOf.f k ((rd_T77 x17 x19).f0.f0) ((rd_T77 x17 x19).f0.f1)).bind fun t149=>(impl_GoodSkip.j2 k x17 x18 x19 ((((rd_T77 x17 x19).f1).length:Int) != t149) x146000 x146001)) else (impl_GoodSkip.j2 k x17 x18 x19 true x146000 x146001))) else (none)) else (none)) else (impl_GoodSkip.l1 k 0 x146000 x146001)
def impl_GoodSkip.j2:Nat→List (S77)→Int→Int→Bool→List Int→List (S77)→Option (Bool)
  |0,_,_,_,_,_,_=>none
  |k + 1,x17,x18,x19,x39,x146000,x146001=>if x39=true then (some false) else (impl_GoodSkip.l0 k x17 x18 (wrap64 (x19 + 1)) x146000 x146001)
def impl_GoodSkip.l1:Nat→Int→List Int→List (S77)→Option (Bool)
  |0,_,_,_=>none
  |k + 1,x41,x146000,x146001=>if x41 < 5 then ((impl_Skip_levelOk.f k x146000 x146001 x41).bind fun t150=>(if t150=true then (impl_GoodSkip.l1 k (wrap64 (x41 + 1)) x146000 x146001) else (some false))) else (some true)
end
def impl_GoodSkip.f (k:Nat) (l0_0:List Int) (l0_1:List (S77)):Option (Bool):=if (l0_0.length:Int)=5 then (impl_GoodSkip.j0 k (decide ((l0_1.length:Int) > 60)) l0_0 l0_1) else (impl_GoodSkip.j0 k true l0_0 l0_1)
theorem impl_GoodSkip.mono_l:∀ k,(∀ y0 y1 y2,LeO (impl_GoodSkip.j0 k y0 y1 y2) (impl_GoodSkip.j0 (k + 1) y0 y1 y2))∧(∀ y0 y1 y2 y3 y4,LeO (impl_GoodSkip.l0 k y0 y1 y2 y3 y4) (impl_GoodSkip.l0 (k + 1) y0 y1 y2 y3 y4))∧(∀ y0 y1 y2 y3 y4 y5,LeO (impl_GoodSkip.j2 k y0 y1 y2 y3 y4 y5) (impl_GoodSkip.j2 (k + 1) y0 y1 y2 y3 y4 y5))∧(∀ y0 y1 y2,LeO (impl_GoodSkip.l1 k y0 y1 y2) (impl_GoodSkip.l1 (k + 1) y0 y1 y2))
  |0=>⟨fun _ _ _ r h=>by simp [impl_GoodSkip.j0] at h,fun _ _ _ _ _ r h=>by simp [impl_GoodSkip.l0] at h,fun _ _ _ _ _ _ r h=>by simp [impl_GoodSkip.j2] at h,fun _ _ _ r h=>by simp [impl_GoodSkip.l1] at h⟩
  |k + 1=>by
    obtain ⟨ih0,ih1,ih2,ih3⟩:=impl_GoodSkip.mono_l k;refine ⟨?_,?_,?_,?_⟩
    · intro y0 y1 y2
      unfold impl_GoodSkip.j0;have j0:=@impl_Skip_levelOk.mono;have j1:=@impl_towerOf.mono;exact mo
    · intro y0 y1 y2 y3 y4
      unfold impl_GoodSkip.l0;have j0:=@impl_Skip_levelOk.mono;have j1:=@impl_towerOf.mono;exact mo
    · intro y0 y1 y2 y3 y4 y5
      unfold impl_GoodSkip.j2;have j0:=@impl_Skip_levelOk.mono;have j1:=@impl_towerOf.mono;exact mo
    · intro y0 y1 y2
      unfold impl_GoodSkip.l1;have j0:=@impl_Skip_levelOk.mono;have j1:=@impl_towerOf.mono;exact mo
theorem impl_GoodSkip.mono:∀ a0 a1 k,LeO (impl_GoodSkip.f k a0 a1) (impl_GoodSkip.f (k + 1) a0 a1):=by
  intro a0 a1 k;obtain ⟨ih0,ih1,ih2,ih3⟩:=impl_GoodSkip.mono_l k;unfold impl_GoodSkip.f;have j0:=@impl_Skip_levelOk.mono;have j1:=@impl_towerOf.mono;exact mo
def impl_GoodSkip.T6:Bool × List (List Nat × List Nat):=(true,[([],[]),([0],[0]),([1],[1]),([2],[2]),([3,2],[3]),([4],[4]),([5,4],[4,5]),([6,4],[4,6]),([4],[4]),([8,4],[4,8]),([9,4],[4,9]),([4],[4]),([11,4],[4,11]),([12,4],[4,12]),([10,13,4,4],[4,10,13]),([7,14,4],[4,7,14]),([4,15],[4,15])])
def impl_GoodSkip.B6:List Nat:=[0,1,3,7,15,31,63,127,31,287,799,31,2079,6175,16159,32767,65535]
theorem impl_GoodSkip.tab6:rtab .any (opsOf Tryd.f15 6)=impl_GoodSkip.T6:=by kernel_rfl
theorem impl_GoodSkip.bits6:waitsOk impl_GoodSkip.T6.2 impl_GoodSkip.B6=true:=by kernel_rfl
set_option maxHeartbeats 8000000 in
set_option maxRecDepth 100000 in
theorem impl_GoodSkip.calls (k:Nat) (A0_0:Option Addr) (c0_0:Nat) (l0_0:List Int) (A0_1:Option Addr) (c0_1:Nat) (l0_1:List (S77)) (r:Bool) (w:World) (hr0_0:Kd.C (Kd.int .i64) w A0_0 l0_0.length l0_0) (hc0_0:l0_0.length≤c0_0) (hr0_1:Kd.C k77 w A0_1 l0_1.length l0_1) (hc0_1:l0_1.length≤c0_1) (hT:Tab w) (h:impl_GoodSkip.f k l0_0 l0_1=some r) :
    Calls Tryd.prog 15 #[.agg #[.slice A0_0 l0_0.length c0_0,.slice A0_1 l0_1.length c0_1]] w fun e w'=>e = .returned (.bool r)∧Below w.heap.size w w':=by
 have HT:=AsZ.mk hT;clear hT;have hu26:=Tryd.underlying26;have hu77:=Tryd.underlying77;have hu28:=Tryd.underlying28;have HR0_0:=AsZ.mk hr0_0;have HC0_0:=AsZ.mk hc0_0;clear hr0_0 hc0_0;have HR0_1:=AsZ.mk hr0_1;have HC0_1:=AsZ.mk hc0_1;clear hr0_1 hc0_1;have HB:=AsZ.mk (Below.refl w.heap.size w);have H:(if (l0_0.length:Int)=5 then (impl_GoodSkip.j0 k (decide ((l0_1.length:Int) > 60)) l0_0 l0_1) else (impl_GoodSkip.j0 k true l0_0 l0_1))=some r:=h;clear h;have HC2:=AsZ.mk H;clear H;go_enter Tryd.func15,Tryd.ntmps15;go_upto_region 1 with (first|((with_reducible refine gate_dst (N:=1) rfl ?_);(try (refine gate_guard (by rfl) ?_;dsimp only));refine bev 1 26 (cs:=#[.slice A0_0 l0_0.length c0_0,.slice A0_1 l0_1.length c0_1]) ?_;intro gb145 hg w3 hbox hb;have GW145:=gz HB hg;have GE145:=gz HB hg;have HI145:=AsZ.mk ((show IsS26F A0_0 c0_0 A0_1 c0_1 w w3 gb145 l0_0 l0_1 from ⟨hbox,(by rw [hg];exact (bwz bel)),HR0_0.out,HC0_0.out,HR0_1.out,HC0_1.out⟩));replace HB:=bp hb;clear hb hbox hg))
 (try simp only [Act.put,zS,zT,zU])
 go_cut [15] (fun v15 wc => ∃ (kq:Nat) (x15_1:Bool),v15 = .bool x15_1∧AsZ (impl_GoodSkip.j0 kq x15_1 l0_0 l0_1=some r)∧AsZ (kq≤k)∧AsZ (IsS26F A0_0 c0_0 A0_1 c0_1 w wc gb145 l0_0 l0_1)∧AsZ (Below w.heap.size w wc))
 case first =>
  have H:=HC2.out;clear HC2;by_cases c4:(l0_0.length:Int)=5;rotate_left
  · rw [if_neg c4] at H
    have c4b0:((l0_0.length:Int) == 5)=false:=beq_eq_false_iff_ne.mpr c4;have c4b1:((l0_0.length:Int) != 5)=true:=bne_iff_ne.mpr c4;(first|rw [c4b0]|(simp only [i64_w,i32_w];rw [c4b0])|rw [c4b1]|skip);have H':=AsZ.mk H;clear H;obtain ⟨ASz6_0,cSz6_0,ASz6_1,cSz6_1,⟨es0_,es1_,es2_,es3_⟩,HGz6,hgz6,HSz6_0,HSCz6_0,HSz6_1,HSCz6_1⟩:=IsS26F.ex HI145.out;subst es0_;subst es1_;subst es2_;subst es3_;have hcz6_0:=cellS26_0 HGz6;have hcz6_1:=cellS26_1 HGz6;clear HGz6 hgz6;go_wp2;go_meet
    case rel=>exact ⟨_,(true),rs,H',⟨lo⟩,⟨st26F HI145⟩,⟨bel⟩⟩
  rw [if_pos c4] at H;have c4b0:((l0_0.length:Int) == 5)=true:=beq_iff_eq.mpr c4;have c4b1:((l0_0.length:Int) != 5)=false:=bne_eq_false_iff_eq.mpr c4;clear c4;(first|rw [c4b0]|(simp only [i64_w,i32_w];rw [c4b0])|rw [c4b1]|skip);have H':=AsZ.mk H;clear H;obtain ⟨ASz5_0,cSz5_0,ASz5_1,cSz5_1,⟨es0_,es1_,es2_,es3_⟩,HGz5,hgz5,HSz5_0,HSCz5_0,HSz5_1,HSCz5_1⟩:=IsS26F.ex HI145.out;subst es0_;subst es1_;subst es2_;subst es3_;have hcz5_0:=cellS26_0 HGz5;have hcz5_1:=cellS26_1 HGz5;clear HGz5 hgz5;go_wp2;go_meet
  case rel=>exact ⟨_,(decide ((l0_1.length:Int) > 60)),rs,H',⟨lo⟩,⟨st26F HI145⟩,⟨bel⟩⟩
 case rest =>
  clear HC2
  try clear p2
  try clear c4b0
  try clear c4b1
  try clear hcz5_0 hcz5_1
  try clear hcz6_0 hcz6_1
  obtain ⟨kq,x15_1,rfl,HA,HJ1,HI145,HB⟩:=hcut
  cases kq with
  |zero=>exact absurd HA.out (by simp [impl_GoodSkip.j0])
  |succ kj1 =>
   have H:=HA.out;clear HA;simp only [impl_GoodSkip.j0] at H;by_cases c7:x15_1=true
   · subst c7
     replace H:=iP H;obtain rfl:=zI H;go_wp2;go_ret;exact ⟨re,bel⟩
   replace c7:=Bool.eq_false_iff.mpr c7;subst c7;replace H:=iN H;have H':=AsZ.mk H;clear H;obtain ⟨ASz8_0,cSz8_0,ASz8_1,cSz8_1,⟨es0_,es1_,es2_,es3_⟩,HGz8,hgz8,HSz8_0,HSCz8_0,HSz8_1,HSCz8_1⟩:=IsS26F.ex HI145.out;subst es0_;subst es1_;subst es2_;subst es3_;have hcz8_0:=cellS26_0 HGz8;have hcz8_1:=cellS26_1 HGz8;clear HGz8 hgz8;go_wp2
   go_loopg [19] kj1 (fun kq v19 w' => ∃ (x19_2:Int),v19 = .int .i64 x19_2∧AsZ (impl_GoodSkip.l0 kq l0_1 (l0_1.length:Int) x19_2 l0_0 l0_1=some r)∧AsZ (kq≤kj1)∧AsZ (IsS26F ASz8_0 cSz8_0 ASz8_1 cSz8_1 w w' gb145 l0_0 l0_1)∧AsZ (Below w.heap.size w w'))
   case atStart=>exact ⟨(0),rs,H',⟨Nat.le_refl _⟩,⟨st26F HI145⟩,⟨bel⟩⟩
   case round =>
    clear H'
    try clear p2
    try clear c4b0
    try clear c4b1
    try clear hcz5_0 hcz5_1
    try clear hcz6_0 hcz6_1
    try clear hcz8_0 hcz8_1
    obtain ⟨x19_2,rfl,HA,HK2,HI145,HB⟩:=hrel
    cases gk with
    |zero=>exact absurd HA.out (by simp [impl_GoodSkip.l0])
    |succ k2 =>
     have H:=HA.out;clear HA;simp only [impl_GoodSkip.l0] at H;by_cases c9:x19_2 < (l0_1.length:Int);rotate_left
     · rw [if_neg c9] at H
       have c9b0:=decide_eq_false c9;clear c9;have H':=AsZ.mk H;clear H;go_wp2
       go_loopg [41] k2 (fun kq v41 w' => ∃ (x41_3:Int),v41 = .int .i64 x41_3∧AsZ (impl_GoodSkip.l1 kq x41_3 l0_0 l0_1=some r)∧AsZ (kq≤k2)∧AsZ (IsS26F ASz8_0 cSz8_0 ASz8_1 cSz8_1 w w' gb145 l0_0 l0_1)∧AsZ (Below w.heap.size w w'))
       case atStart=>exact ⟨(0),rs,H',⟨Nat.le_refl _⟩,⟨st26F HI145⟩,⟨bel⟩⟩
       case round =>
        clear H'
        try clear p1 q1
        try clear hx1
        try clear p2
        try clear c4b0
        try clear c4b1
        try clear p6
        try clear c9b0
        try clear c10b0
        try clear c11b0
        try clear p14 q14
        try clear hx14
        try clear hcz13_0 hcz13_1
        try clear hcz16_0 hcz16_1 hcz16_2 hcz16_3 hcz16_4 hfz16_0 hfz16_1 hfz16_2 hfz16_3 hfz16_4
        try clear hcz5_0 hcz5_1
        try clear hcz6_0 hcz6_1
        try clear hcz8_0 hcz8_1
        try clear hx146_0 hx146_1 hx146_2 hx146_3 hx146_4
        try clear p146 q146
        obtain ⟨x41_3,rfl,HA,HK3,HI145,HB⟩:=hrel
        cases gk with
        |zero=>exact absurd HA.out (by simp [impl_GoodSkip.l1])
        |succ k3 =>
         have H:=HA.out;clear HA;simp only [impl_GoodSkip.l1] at H;by_cases c28:x41_3 < 5;rotate_left
         · rw [if_neg c28] at H
           have c28b0:=decide_eq_false c28;clear c28;obtain rfl:=zI H;go_wp2;go_ret;exact ⟨re,bel⟩
         rw [if_pos c28] at H;have c28b0:=zE c28;clear c28;replace H:=bs H;obtain ⟨t150,A29,H⟩:=H;by_cases c30:t150=true;rotate_left
         · replace c30:=Bool.eq_false_iff.mpr c30
           subst c30;replace H:=iN H;obtain rfl:=zI H;go_wp2_with (first|((with_reducible refine gcl (f:=52) rfl ?_);refine gk (some 45) Tryd.func52 #[.pointer (some ⟨gb145,0,none⟩),.int .i64 x41_3] ?_;(with_reducible refine (impl_Skip_levelOk.calls k3 gb145 l0_0 l0_1 x41_3 false w _ ?side1 ?side2 A29.out).mono ?_);(case side1=>apply IsS26F.to;repeat (first|(with_reducible first|exact HI145.out|apply IsS26F.alloc|apply IsS26F.drewN|apply IsS26F.drew)|exact HI145.out));(case side2=>exact bel);rintro e w32 ⟨rfl,hi,hb,hk⟩;replace hi:=IsS26F.below (st26F HI145) hk;replace hk:=KeepF.keep hk;refine ⟨_,rfl,?_⟩;replace HB:=AsZ.mk (hb);replace HI145:=AsZ.mk (hi);(try clear hb);(try clear hb2);(try clear hk);(try clear hi)));go_ret;exact ⟨re,bel⟩
         subst c30;replace H:=iP H;have H':=AsZ.mk H;clear H;go_wp2_with (first|((with_reducible refine gcl (f:=52) rfl ?_);refine gk (some 45) Tryd.func52 #[.pointer (some ⟨gb145,0,none⟩),.int .i64 x41_3] ?_;(with_reducible refine (impl_Skip_levelOk.calls k3 gb145 l0_0 l0_1 x41_3 true w _ ?side1 ?side2 A29.out).mono ?_);(case side1=>apply IsS26F.to;repeat (first|(with_reducible first|exact HI145.out|apply IsS26F.alloc|apply IsS26F.drewN|apply IsS26F.drew)|exact HI145.out));(case side2=>exact bel);rintro e w31 ⟨rfl,hi,hb,hk⟩;replace hi:=IsS26F.below (st26F HI145) hk;replace hk:=KeepF.keep hk;refine ⟨_,rfl,?_⟩;replace HB:=AsZ.mk (hb);replace HI145:=AsZ.mk (hi);(try clear hb);(try clear hb2);(try clear hk);(try clear hi)));go_roundg k3
         case measure=>have:=HJ1.out;have:=HK2.out;have:=HK3.out;omega
         case rel=>exact ⟨(wrap64 (x41_3 + 1)),rs,H',⟨by have:=HJ1.out;have:=HK2.out;have:=HK3.out;omega⟩,⟨st26F HI145⟩,⟨bel⟩⟩
     rw [if_pos c9] at H;have c9b0:=zE c9;clear c9;by_cases c10:0≤x19_2;rotate_left
     · rw [if_neg c10] at H
       exact absurd H (by simp)
     rw [if_pos c10] at H;have c10b0:=zE c10;clear c10;by_cases c11:x19_2 < (l0_1.length:Int);rotate_left
     · rw [if_neg c11] at H
       exact absurd H (by simp)
     rw [if_pos c11] at H;have c11b0:=zE c11;clear c11;have HC12:=AsZ.mk H;clear H;obtain ⟨ASz13_0,cSz13_0,ASz13_1,cSz13_1,⟨es0_,es1_,es2_,es3_⟩,HGz13,hgz13,HSz13_0,HSCz13_0,HSz13_1,HSCz13_1⟩:=IsS26F.ex HI145.out;subst es0_;subst es1_;subst es2_;subst es3_;have hcz13_0:=cellS26_0 HGz13;have hcz13_1:=cellS26_1 HGz13;clear HGz13 hgz13;have p146:0≤(x19_2:Int):=dd;have q146:x19_2 < (l0_1.length:Int):=dd;obtain ⟨ad146,A146_4,c146_4,e146,hx146_0,hx146_1,hx146_2,hx146_3,hx146_4,hl146_4,hi146_4⟩:=at_T77 HSz13_1 x19_2 p146 q146;cases e146;replace hx146_0:=pcb HB.out hx146_0;replace hx146_1:=pcb HB.out hx146_1;replace hx146_2:=pcb HB.out hx146_2;replace hx146_3:=pcb HB.out hx146_3;replace hx146_4:=pcb HB.out hx146_4;have HR146_4:=AsZ.mk hi146_4;have HC146_4:=AsZ.mk hl146_4;clear hi146_4 hl146_4;replace p146:=eq_true p146;replace q146:=eq_true q146;go_upto_region 6 with (first|((with_reducible refine gate_dst (N:=4) rfl ?_);(try (refine gate_guard (by rfl) ?_;dsimp only));refine bev 4 77 (cs:=#[.string (⟨#[]⟩:ByteArray),.int .i64 0,.int .i64 0,.string (⟨#[]⟩:ByteArray),.slice none 0 0]) ?_;intro gb147 hg w14 hbox hb;have BK147:=AsZ.mk (hbox);have GW147:=gz HB hg;have GE147:=gz HB hg;have NB145_147:=AsZ.mk ((by rw [hg];exact Nat.ne_of_lt (IsS26F.lt (show IsS26F ASz13_0 cSz13_0 (some ad146) cSz13_1 w _ gb145 l0_0 l0_1 from st26F HI145)):gb145 ≠ gb147));have NB147_145:=AsZ.mk ((by rw [hg];exact Nat.ne_of_gt (IsS26F.lt (show IsS26F ASz13_0 cSz13_0 (some ad146) cSz13_1 w _ gb145 l0_0 l0_1 from st26F HI145)):gb147 ≠ gb145));replace HI145:=AsZ.mk (IsS26F.below (st26F HI145) hb);replace HB:=bp hb;clear hb hbox hg;have hnb15:=NB147_145.out;have hnc15:=NB145_147.out;obtain ⟨hcz16_0,hcz16_1,hcz16_2,hcz16_3,hcz16_4,hfz16_0,hfz16_1,hfz16_2,hfz16_3,hfz16_4⟩:=bx5 BK147))
     (try simp only [Act.put,zS,zT,zU])
     go_cut [39] (fun v39 wc => ∃ (kq:Nat) (x39_11:Bool),v39 = .bool x39_11∧AsZ (impl_GoodSkip.j2 kq l0_1 (l0_1.length:Int) x19_2 x39_11 l0_0 l0_1=some r)∧AsZ (kq≤k2)∧AsZ (wc.heap[gb147]? = some (.cells #[.string ((rd_T77 l0_1 x19_2).f0.f0),.int .i64 ((rd_T77 l0_1 x19_2).f0.f1),.int .i64 ((rd_T77 l0_1 x19_2).f0.f2),.string ((rd_T77 l0_1 x19_2).f0.f3),(.slice A146_4 ((rd_T77 l0_1 x19_2).f1).length c146_4)] 77 (0,0)))∧AsZ (IsS26F ASz13_0 cSz13_0 (some ad146) cSz13_1 w wc gb145 l0_0 l0_1)∧AsZ (Below w.heap.size w wc))
     case first =>
      have H:=HC12.out;clear HC12;replace H:=bs H;obtain ⟨t148,A17,H⟩:=H;by_cases c18:t148=true;rotate_left
      · replace c18:=Bool.eq_false_iff.mpr c18
        subst c18;replace H:=iN H;have H':=AsZ.mk H;clear H
        try go_wp2
        have n0_:AsZ ((((((w14.setCell ⟨gb147,0,none⟩ (.string ((rd_T77 l0_1 x19_2).f0.f0))).setCell ⟨gb147,1,none⟩ (.int .i64 ((rd_T77 l0_1 x19_2).f0.f1))).setCell ⟨gb147,2,none⟩ (.int .i64 ((rd_T77 l0_1 x19_2).f0.f2))).setCell ⟨gb147,3,none⟩ (.string ((rd_T77 l0_1 x19_2).f0.f3))).setCell ⟨gb147,4,none⟩ (.slice A146_4 ((rd_T77 l0_1 x19_2).f1).length c146_4)).heap[gb147]? = some (.cells #[.string ((rd_T77 l0_1 x19_2).f0.f0),.int .i64 ((rd_T77 l0_1 x19_2).f0.f1),.int .i64 ((rd_T77 l0_1 x19_2).f0.f2),.string ((rd_T77 l0_1 x19_2).f0.f3),.slice A146_4 ((rd_T77 l0_1 x19_2).f1).length c146_4] 77 (0,0))):=⟨bq BK147⟩;have n1_:AsZ (IsS26F ASz13_0 cSz13_0 (some ad146) cSz13_1 w (((((w14.setCell ⟨gb147,0,none⟩ (.string ((rd_T77 l0_1 x19_2).f0.f0))).setCell ⟨gb147,1,none⟩ (.int .i64 ((rd_T77 l0_1 x19_2).f0.f1))).setCell ⟨gb147,2,none⟩ (.int .i64 ((rd_T77 l0_1 x19_2).f0.f2))).setCell ⟨gb147,3,none⟩ (.string ((rd_T77 l0_1 x19_2).f0.f3))).setCell ⟨gb147,4,none⟩ (.slice A146_4 ((rd_T77 l0_1 x19_2).f1).length c146_4)) gb145 l0_0 l0_1):=⟨st26F HI145⟩;have n2_:AsZ (Below w.heap.size w (((((w14.setCell ⟨gb147,0,none⟩ (.string ((rd_T77 l0_1 x19_2).f0.f0))).setCell ⟨gb147,1,none⟩ (.int .i64 ((rd_T77 l0_1 x19_2).f0.f1))).setCell ⟨gb147,2,none⟩ (.int .i64 ((rd_T77 l0_1 x19_2).f0.f2))).setCell ⟨gb147,3,none⟩ (.string ((rd_T77 l0_1 x19_2).f0.f3))).setCell ⟨gb147,4,none⟩ (.slice A146_4 ((rd_T77 l0_1 x19_2).f1).length c146_4))):=⟨bel⟩;(try clear BK147);(try clear HI145);(try clear HB);generalize (((((w14.setCell ⟨gb147,0,none⟩ (.string ((rd_T77 l0_1 x19_2).f0.f0))).setCell ⟨gb147,1,none⟩ (.int .i64 ((rd_T77 l0_1 x19_2).f0.f1))).setCell ⟨gb147,2,none⟩ (.int .i64 ((rd_T77 l0_1 x19_2).f0.f2))).setCell ⟨gb147,3,none⟩ (.string ((rd_T77 l0_1 x19_2).f0.f3))).setCell ⟨gb147,4,none⟩ (.slice A146_4 ((rd_T77 l0_1 x19_2).f1).length c146_4))=w24 at n0_ n1_ n2_ ⊢;have BK147:=n0_;have HI145:=n1_;have HB:=n2_;clear n0_ n1_ n2_;replace BK147:=db BK147;replace HI145:=AsZ.mk (IsS26F.drew HI145.out);replace HB:=dB HB;refine start_ (n:=17) (S:=fun w'=>w'.cell? ⟨gb147,0,none⟩=some (.string ((rd_T77 l0_1 x19_2).f0.f0))∧w'.cell? ⟨gb147,1,none⟩=some (.int .i64 ((rd_T77 l0_1 x19_2).f0.f1))∧w'.cell? ⟨gb147,2,none⟩=some (.int .i64 ((rd_T77 l0_1 x19_2).f0.f2))∧w'.cell? ⟨gb147,3,none⟩=some (.string ((rd_T77 l0_1 x19_2).f0.f3))∧w'.cell? ⟨gb147,4,none⟩=some (.slice A146_4 ((rd_T77 l0_1 x19_2).f1).length c146_4)) (ds:=[]) (b_ 0 17) (by kernel_rfl) rfl rfl cl (fun hHeld=>?_);refine with_tabW impl_GoodSkip.tab6 impl_GoodSkip.bits6 (fun HT_ HW_=>?_);generalize w24.drew=w25 at BK147 HI145 HB hHeld ⊢;refine pu 0 23 (b_ 1 16) HT_.out ?_;refine tk5 1 24 (b_ 2 15) HT_.out HW_.out hHeld ?_;refine on 2 (some 25) (b_ 3 14) HT_.out (fun K hK=>?_);refine gs Tryd.func39 #[.agg #[.string ((rd_T77 l0_1 x19_2).f0.f0),.int .i64 ((rd_T77 l0_1 x19_2).f0.f1),.int .i64 ((rd_T77 l0_1 x19_2).f0.f2),.string ((rd_T77 l0_1 x19_2).f0.f3)]] ?_
        with_reducible refine (impl_GoodItem.calls ((rd_T77 l0_1 x19_2).f0.f0) ((rd_T77 l0_1 x19_2).f0.f1) ((rd_T77 l0_1 x19_2).f0.f2) ((rd_T77 l0_1 x19_2).f0.f3) false _ A17.out).mono ?_
        rintro e w26 ⟨rfl,hb⟩;refine ⟨_,rfl,?_⟩;replace HI145:=AsZ.mk (IsS26F.below (st26F HI145) hb);replace BK147:=bb BK147 hb;replace HB:=bp hb;(try clear hb);(try clear hb2);(try clear hk);(try clear hi);refine hK.out _ _ cl (fun hHeld=>?_);clear hK K;refine norm_ (a':=?_) ?_ ?_;rotate_left
        · show Act.put _ (some 25) _=_
          simp only [Act.put,zS,zT,zU,i64_w,i32_w]
          rfl
        refine pu 3 26 (b_ 4 13) HT_.out ?_;refine pu 4 27 (b_ 5 12) HT_.out ?_;refine pd 5 28 (b_ 6 11) HT_.out ?_;refine pd 6 29 (b_ 7 10) HT_.out ?_;refine pd 7 30 (b_ 8 9) HT_.out ?_;refine pd 8 31 (b_ 9 8) HT_.out ?_;refine pd 9 32 (b_ 10 7) HT_.out ?_;refine pd 10 33 (b_ 11 6) HT_.out ?_;refine pd 11 34 (b_ 12 5) HT_.out ?_;refine pd 12 35 (b_ 13 4) HT_.out ?_;refine pd 13 36 (b_ 14 3) HT_.out ?_;refine pd 14 37 (b_ 15 2) HT_.out ?_;refine pd 15 38 (b_ 16 1) HT_.out ?_;refine pu 16 39 (b_ 17 0) HT_.out ?_;refine dn_ (dnO HT_.out (by kernel_rfl)) ?_
        try go_wp2
        go_meet
        case rel=>exact ⟨_,(true),rs,H',⟨by have:=HJ1.out;have:=HK2.out;first|omega|exact Nat.le_refl _⟩,⟨bk BK147⟩,⟨st26F HI145⟩,⟨bel⟩⟩
      subst c18;replace H:=iP H;replace H:=bs H;obtain ⟨t149,A19,H⟩:=H;have H':=AsZ.mk H;clear H
      try go_wp2
      have n0_:AsZ ((((((w14.setCell ⟨gb147,0,none⟩ (.string ((rd_T77 l0_1 x19_2).f0.f0))).setCell ⟨gb147,1,none⟩ (.int .i64 ((rd_T77 l0_1 x19_2).f0.f1))).setCell ⟨gb147,2,none⟩ (.int .i64 ((rd_T77 l0_1 x19_2).f0.f2))).setCell ⟨gb147,3,none⟩ (.string ((rd_T77 l0_1 x19_2).f0.f3))).setCell ⟨gb147,4,none⟩ (.slice A146_4 ((rd_T77 l0_1 x19_2).f1).length c146_4)).heap[gb147]? = some (.cells #[.string ((rd_T77 l0_1 x19_2).f0.f0),.int .i64 ((rd_T77 l0_1 x19_2).f0.f1),.int .i64 ((rd_T77 l0_1 x19_2).f0.f2),.string ((rd_T77 l0_1 x19_2).f0.f3),.slice A146_4 ((rd_T77 l0_1 x19_2).f1).length c146_4] 77 (0,0))):=⟨bq BK147⟩;have n1_:AsZ (IsS26F ASz13_0 cSz13_0 (some ad146) cSz13_1 w (((((w14.setCell ⟨gb147,0,none⟩ (.string ((rd_T77 l0_1 x19_2).f0.f0))).setCell ⟨gb147,1,none⟩ (.int .i64 ((rd_T77 l0_1 x19_2).f0.f1))).setCell ⟨gb147,2,none⟩ (.int .i64 ((rd_T77 l0_1 x19_2).f0.f2))).setCell ⟨gb147,3,none⟩ (.string ((rd_T77 l0_1 x19_2).f0.f3))).setCell ⟨gb147,4,none⟩ (.slice A146_4 ((rd_T77 l0_1 x19_2).f1).length c146_4)) gb145 l0_0 l0_1):=⟨st26F HI145⟩;have n2_:AsZ (Below w.heap.size w (((((w14.setCell ⟨gb147,0,none⟩ (.string ((rd_T77 l0_1 x19_2).f0.f0))).setCell ⟨gb147,1,none⟩ (.int .i64 ((rd_T77 l0_1 x19_2).f0.f1))).setCell ⟨gb147,2,none⟩ (.int .i64 ((rd_T77 l0_1 x19_2).f0.f2))).setCell ⟨gb147,3,none⟩ (.string ((rd_T77 l0_1 x19_2).f0.f3))).setCell ⟨gb147,4,none⟩ (.slice A146_4 ((rd_T77 l0_1 x19_2).f1).length c146_4))):=⟨bel⟩;(try clear BK147);(try clear HI145);(try clear HB);generalize (((((w14.setCell ⟨gb147,0,none⟩ (.string ((rd_T77 l0_1 x19_2).f0.f0))).setCell ⟨gb147,1,none⟩ (.int .i64 ((rd_T77 l0_1 x19_2).f0.f1))).setCell ⟨gb147,2,none⟩ (.int .i64 ((rd_T77 l0_1 x19_2).f0.f2))).setCell ⟨gb147,3,none⟩ (.string ((rd_T77 l0_1 x19_2).f0.f3))).setCell ⟨gb147,4,none⟩ (.slice A146_4 ((rd_T77 l0_1 x19_2).f1).length c146_4))=w20 at n0_ n1_ n2_ ⊢;have BK147:=n0_;have HI145:=n1_;have HB:=n2_;clear n0_ n1_ n2_;replace BK147:=db BK147;replace HI145:=AsZ.mk (IsS26F.drew HI145.out);replace HB:=dB HB;refine start_ (n:=17) (S:=fun w'=>w'.cell? ⟨gb147,0,none⟩=some (.string ((rd_T77 l0_1 x19_2).f0.f0))∧w'.cell? ⟨gb147,1,none⟩=some (.int .i64 ((rd_T77 l0_1 x19_2).f0.f1))∧w'.cell? ⟨gb147,2,none⟩=some (.int .i64 ((rd_T77 l0_1 x19_2).f0.f2))∧w'.cell? ⟨gb147,3,none⟩=some (.string ((rd_T77 l0_1 x19_2).f0.f3))∧w'.cell? ⟨gb147,4,none⟩=some (.slice A146_4 ((rd_T77 l0_1 x19_2).f1).length c146_4)) (ds:=[]) (b_ 0 17) (by kernel_rfl) rfl rfl cl (fun hHeld=>?_);refine with_tabW impl_GoodSkip.tab6 impl_GoodSkip.bits6 (fun HT_ HW_=>?_);generalize w20.drew=w21 at BK147 HI145 HB hHeld ⊢;refine pu 0 23 (b_ 1 16) HT_.out ?_;refine tk5 1 24 (b_ 2 15) HT_.out HW_.out hHeld ?_;refine on 2 (some 25) (b_ 3 14) HT_.out (fun K hK=>?_);refine gs Tryd.func39 #[.agg #[.string ((rd_T77 l0_1 x19_2).f0.f0),.int .i64 ((rd_T77 l0_1 x19_2).f0.f1),.int .i64 ((rd_T77 l0_1 x19_2).f0.f2),.string ((rd_T77 l0_1 x19_2).f0.f3)]] ?_
      with_reducible refine (impl_GoodItem.calls ((rd_T77 l0_1 x19_2).f0.f0) ((rd_T77 l0_1 x19_2).f0.f1) ((rd_T77 l0_1 x19_2).f0.f2) ((rd_T77 l0_1 x19_2).f0.f3) true _ A17.out).mono ?_
      rintro e w22 ⟨rfl,hb⟩;refine ⟨_,rfl,?_⟩;replace HI145:=AsZ.mk (IsS26F.below (st26F HI145) hb);replace BK147:=bb BK147 hb;replace HB:=bp hb;(try clear hb);(try clear hb2);(try clear hk);(try clear hi);refine hK.out _ _ cl (fun hHeld=>?_);clear hK K;refine norm_ (a':=?_) ?_ ?_;rotate_left
      · show Act.put _ (some 25) _=_
        simp only [Act.put,zS,zT,zU,i64_w,i32_w]
        rfl
      refine pu 3 26 (b_ 4 13) HT_.out ?_;refine pu 4 27 (b_ 5 12) HT_.out ?_;refine pu 5 28 (b_ 6 11) HT_.out ?_;refine pu 8 31 #[true,true,true,true,true,true,false,false,true,false,false,false,false,false,false,false,false] HT_.out ?_;refine pu 9 32 #[true,true,true,true,true,true,false,false,true,true,false,false,false,false,false,false,false] HT_.out ?_;refine pu 11 34 #[true,true,true,true,true,true,false,false,true,true,false,true,false,false,false,false,false] HT_.out ?_;refine pu 12 35 #[true,true,true,true,true,true,false,false,true,true,false,true,true,false,false,false,false] HT_.out ?_;refine tk5 6 29 #[true,true,true,true,true,true,true,false,true,true,false,true,true,false,false,false,false] HT_.out HW_.out hHeld ?_;refine pu 7 30 #[true,true,true,true,true,true,true,true,true,true,false,true,true,false,false,false,false] HT_.out ?_;refine tk5 10 33 (b_ 13 4) HT_.out HW_.out hHeld ?_;refine tk5 13 36 (b_ 14 3) HT_.out HW_.out hHeld ?_;refine on 14 (some 37) (b_ 15 2) HT_.out (fun K hK=>?_);refine gs Tryd.func44 #[.string ((rd_T77 l0_1 x19_2).f0.f0),.int .i64 ((rd_T77 l0_1 x19_2).f0.f1)] ?_
      with_reducible refine (impl_towerOf.calls k2 ((rd_T77 l0_1 x19_2).f0.f0) ((rd_T77 l0_1 x19_2).f0.f1) t149 _ ?sideT A19.out).mono ?_
      case sideT=>exact tab_below HT.out (by repeat (first|(with_reducible first|exact HB.out|apply bwa|apply pbN|apply bw1|refine bws ?_ (AsZ.out (by assumption)))|exact HB.out))
      rintro e w23 ⟨rfl,hb⟩;refine ⟨_,rfl,?_⟩;replace HI145:=AsZ.mk (IsS26F.below (st26F HI145) hb);replace BK147:=bb BK147 hb;replace HB:=bp hb;(try clear hb);(try clear hb2);(try clear hk);(try clear hi);refine hK.out _ _ cl (fun hHeld=>?_);clear hK K;refine norm_ (a':=?_) ?_ ?_;rotate_left
      · show Act.put _ (some 37) _=_
        simp only [Act.put,zS,zT,zU,i64_w,i32_w]
        rfl
      refine pu 15 38 (b_ 16 1) HT_.out ?_;refine pu 16 39 (b_ 17 0) HT_.out ?_;refine dn_ (dnO HT_.out (by kernel_rfl)) ?_
      try go_wp2
      go_meet
      case rel=>exact ⟨_,(((((rd_T77 l0_1 x19_2).f1).length:Int) != t149)),rs,H',⟨by have:=HJ1.out;have:=HK2.out;first|omega|exact Nat.le_refl _⟩,⟨bk BK147⟩,⟨st26F HI145⟩,⟨bel⟩⟩
     case rest =>
      clear HC12
      try clear p1 q1
      try clear hx1
      try clear p2
      try clear c4b0
      try clear c4b1
      try clear c9b0
      try clear c10b0
      try clear c11b0
      try clear p14 q14
      try clear hx14
      try clear hcz13_0 hcz13_1
      try clear hcz16_0 hcz16_1 hcz16_2 hcz16_3 hcz16_4 hfz16_0 hfz16_1 hfz16_2 hfz16_3 hfz16_4
      try clear hcz5_0 hcz5_1
      try clear hcz6_0 hcz6_1
      try clear hcz8_0 hcz8_1
      try clear hx146_0 hx146_1 hx146_2 hx146_3 hx146_4
      try clear p146 q146
      obtain ⟨kq,x39_11,rfl,HA,HJ11,BK147,HI145,HB⟩:=hcut
      cases kq with
      |zero=>exact absurd HA.out (by simp [impl_GoodSkip.j2])
      |succ kj11 =>
       have H:=HA.out;clear HA;simp only [impl_GoodSkip.j2] at H;by_cases c27:x39_11=true
       · subst c27
         replace H:=iP H;obtain rfl:=zI H;go_wp2;go_ret;exact ⟨re,bel⟩
       replace c27:=Bool.eq_false_iff.mpr c27;subst c27;replace H:=iN H;have H':=AsZ.mk H;clear H;go_wp2;go_roundg kj11
       case measure=>have:=HJ1.out;have:=HK2.out;have:=HJ11.out;omega
       case rel=>exact ⟨(wrap64 (x19_2 + 1)),rs,H',⟨by have:=HJ1.out;have:=HK2.out;have:=HJ11.out;omega⟩,⟨st26F HI145⟩,⟨bel⟩⟩
end Go.Proofs.YtffjlpphcjfdgaaDoor.MFnExactInsertSkip
