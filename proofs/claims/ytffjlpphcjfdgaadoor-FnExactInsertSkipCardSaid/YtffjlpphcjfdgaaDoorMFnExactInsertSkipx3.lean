-- Written by a program of this session out of the translation. Not trusted: Lean checks it.
import Derived.Test.YtffjlpphcjfdgaaDoorMFnExactInsertSkipx0
import Derived.Test.YtffjlpphcjfdgaaDoorMFnExactInsertSkipx1
import Derived.Test.YtffjlpphcjfdgaaDoorMFnExactInsertSkipx2
namespace Go.Proofs.YtffjlpphcjfdgaaDoor.MFnExactInsertSkip
-- joined
-- short
-- shrunk
-- TAB
-- RD
open Go.Proofs.YtffjlpphcjfdgaaDoor Go.RowKit Go.Proofs.YtffjlpphcjfdgaaDoorW.PrintWords Go.Proofs.YtffjlpphcjfdgaaDoorW.PrintLast Go.Proofs.YtffjlpphcjfdgaaDoorW.PrintMore Go.Proofs.YtffjlpphcjfdgaaDoorX
attribute [local go_sem] max2_int min2_int max_two min_two max_three min_three max_four min_four str_gtr str_leq str_geq cell_twice
set_option linter.unusedVariables false
set_option linter.unusedSimpArgs false
-- COMPACT
/-! ### impl_Skip_levelOk: function 52 -/
mutual
def impl_Skip_levelOk.l0:Nat→Int→Int→Int→List Int→List (S77)→Option (Bool)
  |0,_,_,_,_,_=>none
  |k + 1,x1,x5,x6,x1000,x1001=>(impl_Skip_next.f x1000 x1001 x6 x1).bind fun t137=>(if t137=(-1) then (impl_Skip_levelOk.l1 k x1 x5 x1001 (x1001.length:Int) 0) else ((impl_in.f t137 0 (wrap64 ((x1001.length:Int) - 1))).bind fun t138=>(if t138=true then (if 0≤t137 then (if t137 < (x1001.length:Int) then (impl_Skip_levelOk.j1 k x1 x5 x6 t137 (decide ((((rd_T77 x1001 t137).f1).length:Int)≤x1)) x1000 x1001) else (none)) else (none)) else (impl_Skip_levelOk.j1 k x1 x5 x6 t137 true x1000 x1001))))
def impl_Skip_levelOk.l1:Nat→Int→Int→List (S77)→Int→Int→Option (Bool)
  |0,_,_,_,_,_=>none
  |k + 1,x1,x5,x66,x67,x68=>if x68 < x67 then (if 0≤x68 then (if x68 < (x66.length:Int) then (if (((rd_T77 x66 x68).f1).length:Int) > x1 then (impl_Skip_levelOk.l1 k x1 (wrap64 (x5 - 1)) x66 x67 (wrap64 (x68 + 1))) else (impl_Skip_levelOk.l1 k x1 x5 x66 x67 (wrap64 (x68 + 1)))) else (none)) else (none)) else (some (x5 == 0))
def impl_Skip_levelOk.j1:Nat→Int→Int→Int→Int→Bool→List Int→List (S77)→Option (Bool)
  |0,_,_,_,_,_,_,_=>none
  |k + 1,x1,x5,x6,x7,x37,x1000,x1001=>if x37=true then (some false) else (if x6=(-1) then (impl_Skip_levelOk.j2 k x1 x5 x7 false x1000 x1001) else (if 0≤x6 then (if x6 < (x1001.length:Int) then (if 0≤x7 then (if x7 < (x1001.length:Int) then ((impl_itemOrder.f k ((rd_T77 x1001 x6).f0.f0) ((rd_T77 x1001 x6).f0.f1) ((rd_T77 x1001 x6).f0.f2) ((rd_T77 x1001 x6).f0.f3) ((rd_T77 x1001 x7).f0.f0) ((rd_T77 x1001 x7).f0.f1) ((rd_T77 x1001 x7).f0.f2) ((rd_T77 x1001 x7).f0.f3)).bind fun t142=>(impl_Skip_levelOk.j2 k x1 x5 x7 (decide (t142 ≥ 0)) x1000 x1001)) else (none)) else (none)) else (none)) else (none)))
def impl_Skip_levelOk.j2:Nat→Int→Int→Int→Bool→List Int→List (S77)→Option (Bool)
  |0,_,_,_,_,_,_=>none
  |k + 1,x1,x5,x7,x59,x1000,x1001=>if x59=true then (some false) else (impl_Skip_levelOk.l0 k x1 (wrap64 (x5 + 1)) x7 x1000 x1001)
end
def impl_Skip_levelOk.f (k:Nat) (s0_0:List Int) (s0_1:List (S77)) (a1:Int):Option (Bool):=impl_Skip_levelOk.l0 k a1 0 (-1) s0_0 s0_1
theorem impl_Skip_levelOk.mono_l:∀ k,(∀ y0 y1 y2 y3 y4,LeO (impl_Skip_levelOk.l0 k y0 y1 y2 y3 y4) (impl_Skip_levelOk.l0 (k + 1) y0 y1 y2 y3 y4))∧(∀ y0 y1 y2 y3 y4,LeO (impl_Skip_levelOk.l1 k y0 y1 y2 y3 y4) (impl_Skip_levelOk.l1 (k + 1) y0 y1 y2 y3 y4))∧(∀ y0 y1 y2 y3 y4 y5 y6,LeO (impl_Skip_levelOk.j1 k y0 y1 y2 y3 y4 y5 y6) (impl_Skip_levelOk.j1 (k + 1) y0 y1 y2 y3 y4 y5 y6))∧(∀ y0 y1 y2 y3 y4 y5,LeO (impl_Skip_levelOk.j2 k y0 y1 y2 y3 y4 y5) (impl_Skip_levelOk.j2 (k + 1) y0 y1 y2 y3 y4 y5))
  |0=>⟨fun _ _ _ _ _ r h=>by simp [impl_Skip_levelOk.l0] at h,fun _ _ _ _ _ r h=>by simp [impl_Skip_levelOk.l1] at h,fun _ _ _ _ _ _ _ r h=>by simp [impl_Skip_levelOk.j1] at h,fun _ _ _ _ _ _ r h=>by simp [impl_Skip_levelOk.j2] at h⟩
  |k + 1=>by
    obtain ⟨ih0,ih1,ih2,ih3⟩:=impl_Skip_levelOk.mono_l k;refine ⟨?_,?_,?_,?_⟩
    · intro y0 y1 y2 y3 y4
      unfold impl_Skip_levelOk.l0;have j0:=@impl_itemOrder.mono;exact mo
    · intro y0 y1 y2 y3 y4
      unfold impl_Skip_levelOk.l1;have j0:=@impl_itemOrder.mono;exact mo
    · intro y0 y1 y2 y3 y4 y5 y6
      unfold impl_Skip_levelOk.j1;have j0:=@impl_itemOrder.mono;exact mo
    · intro y0 y1 y2 y3 y4 y5
      unfold impl_Skip_levelOk.j2;have j0:=@impl_itemOrder.mono;exact mo
theorem impl_Skip_levelOk.mono:∀ a0 a1 a2 k,LeO (impl_Skip_levelOk.f k a0 a1 a2) (impl_Skip_levelOk.f (k + 1) a0 a1 a2):=by
  intro a0 a1 a2 k;obtain ⟨ih0,ih1,ih2,ih3⟩:=impl_Skip_levelOk.mono_l k;unfold impl_Skip_levelOk.f;have j0:=@impl_itemOrder.mono;exact mo
def impl_Skip_levelOk.T6:Bool × List (List Nat × List Nat):=(true,[([],[]),([0],[0]),([1],[1]),([2],[2]),([3,2],[2,3]),([4,2],[2,4]),([5,2],[2,5]),([2],[2]),([6,7,2],[2,6,7]),([8,2],[2,8]),([9,2],[2,9]),([2],[2]),([11,2],[2,11]),([12,2],[2,12]),([13,2],[2,13]),([2],[2]),([14,15,2],[2,14,15]),([16,2],[2,16]),([17,2],[2,17]),([10,18,2,2],[2,10,18]),([19,2],[2,19]),([2,20],[2,20])])
def impl_Skip_levelOk.B6:List Nat:=[0,1,3,7,15,31,63,7,255,511,1023,7,2055,6151,14343,7,63495,129031,260103,524287,1048575,2097151]
theorem impl_Skip_levelOk.tab6:rtab .any (opsOf Tryd.f52 6)=impl_Skip_levelOk.T6:=by kernel_rfl
theorem impl_Skip_levelOk.bits6:waitsOk impl_Skip_levelOk.T6.2 impl_Skip_levelOk.B6=true:=by kernel_rfl
set_option maxHeartbeats 8000000 in
set_option maxRecDepth 100000 in
theorem impl_Skip_levelOk.calls (k:Nat) (g:Nat) (s0_0:List Int) (s0_1:List (S77)) (a1:Int) (r:Bool) (w0 w:World) (hI:IsS26 w0 w g s0_0 s0_1) (hB:Below w0.heap.size w0 w) (h:impl_Skip_levelOk.f k s0_0 s0_1 a1=some r) :
    Calls Tryd.prog 52 #[.pointer (some ⟨g,0,none⟩),.int .i64 a1] w fun e w'=>e = .returned (.bool r)∧IsS26 w0 w' g s0_0 s0_1∧Below w0.heap.size w0 w'∧KeepF w w' g none:=by
 have hu28:=Tryd.underlying28;have hu77:=Tryd.underlying77;have HI0:=AsZ.mk hI;obtain ⟨A0q_,c0q_,A1q_,c1q_,HGq_,_⟩:=hI;have HGq:=AsZ.mk HGq_;clear HGq_;have HK:=AsZ.mk (KeepF.refl w g none);have HL:=AsZ.mk hB.size;have HW0:=AsZ.mk hB.size;have HB:=AsZ.mk hB;clear hB;have H:(impl_Skip_levelOk.l0 k a1 0 (-1) s0_0 s0_1)=some r:=h;clear h;have H':=AsZ.mk H;clear H;go_enter Tryd.func52,Tryd.ntmps52;go_wp2
 go_loopg [5,6] k (fun kq v5 v6 w' => ∃ (x5_1:Int) (x6_1:Int),v5 = .int .i64 x5_1∧v6 = .int .i64 x6_1∧AsZ (impl_Skip_levelOk.l0 kq a1 x5_1 x6_1 s0_0 s0_1=some r)∧AsZ (kq≤k)∧AsZ (IsS26 w0 w' g s0_0 s0_1)∧AsZ (KeepF w w' g none)∧AsZ (Below w0.heap.size w0 w'))
 case atStart=>exact ⟨(0),((-1)),rs,rs,H',⟨Nat.le_refl _⟩,⟨st26 HI0⟩,⟨kF HK⟩,⟨bel⟩⟩
 case round =>
  clear H'
  try clear p2
  obtain ⟨x5_1,x6_1,rfl,rfl,HA,HK1,HI0,HK,HB⟩:=hrel
  cases gk with
  |zero=>exact absurd HA.out (by simp [impl_Skip_levelOk.l0])
  |succ k1 =>
   have H:=HA.out;clear HA;simp only [impl_Skip_levelOk.l0] at H;replace H:=bs H;obtain ⟨t137,A3,H⟩:=H;by_cases c4:t137=(-1)
   · rw [if_pos c4] at H
     have c4b0:(t137 == (-1))=true:=beq_iff_eq.mpr c4;have c4b1:(t137 != (-1))=false:=bne_eq_false_iff_eq.mpr c4;clear c4;have H':=AsZ.mk H;clear H;go_wp2_with (first|((with_reducible refine gcl (f:=41) rfl ?_);refine gk (some 13) Tryd.func41 #[.pointer (some ⟨g,0,none⟩),.int .i64 x6_1,.int .i64 a1] ?_;(with_reducible refine (impl_Skip_next.calls g s0_0 s0_1 x6_1 a1 t137 w0 _ ?side1 ?side2 A3.out).mono ?_);(case side1=>exact st26 HI0);(case side2=>exact bel);rintro e w' ⟨rfl,⟨nd,rfl⟩⟩;refine ⟨_,rfl,?_⟩;obtain ⟨ASz5_0,cSz5_0,ASz5_1,cSz5_1,HGz5,hgz5,HSz5_0,HSCz5_0,HSz5_1,HSCz5_1⟩:=HI0.out;obtain ⟨es0_,es1_,es2_,es3_⟩:=IsS26.same_ HGq.out HK.out HGz5;subst es0_;subst es1_;subst es2_;subst es3_;have hcz5_0:=cellS26_0 HGz5;have hcz5_1:=cellS26_1 HGz5;clear HGz5 hgz5))
     go_loopg [5,68] k1 (fun kq v5 v68 w' => ∃ (x5_2:Int) (x68_2:Int),v5 = .int .i64 x5_2∧v68 = .int .i64 x68_2∧AsZ (impl_Skip_levelOk.l1 kq a1 x5_2 s0_1 (s0_1.length:Int) x68_2=some r)∧AsZ (kq≤k1)∧AsZ (IsS26 w0 w' g s0_0 s0_1)∧AsZ (KeepF w w' g none)∧AsZ (Below w0.heap.size w0 w'))
     case atStart=>exact ⟨(x5_1),(0),rs,rs,H',⟨Nat.le_refl _⟩,⟨st26 HI0⟩,⟨kF HK⟩,⟨bel⟩⟩
     case round =>
      clear H'
      try clear p2
      try clear c4b0
      try clear c4b1
      try clear hcz5_0 hcz5_1
      obtain ⟨x5_2,x68_2,rfl,rfl,HA,HK2,HI0,HK,HB⟩:=hrel
      cases gk with
      |zero=>exact absurd HA.out (by simp [impl_Skip_levelOk.l1])
      |succ k2 =>
       have H:=HA.out;clear HA;simp only [impl_Skip_levelOk.l1] at H;by_cases c6:x68_2 < (s0_1.length:Int);rotate_left
       · rw [if_neg c6] at H
         have c6b0:=decide_eq_false c6;clear c6;obtain rfl:=zI H;go_wp2;go_ret;exact ⟨re,st26 HI0,bel,kF HK⟩
       rw [if_pos c6] at H;have c6b0:=zE c6;clear c6;by_cases c7:0≤x68_2;rotate_left
       · rw [if_neg c7] at H
         exact absurd H (by simp)
       rw [if_pos c7] at H;have c7b0:=zE c7;clear c7;by_cases c8:x68_2 < (s0_1.length:Int);rotate_left
       · rw [if_neg c8] at H
         exact absurd H (by simp)
       rw [if_pos c8] at H;have c8b0:=zE c8;clear c8;by_cases c9:(((rd_T77 s0_1 x68_2).f1).length:Int) > a1;rotate_left
       · rw [if_neg c9] at H
         have c9b0:decide (a1 < (((rd_T77 s0_1 x68_2).f1).length:Int))=false:=decide_eq_false c9;clear c9;have H':=AsZ.mk H;clear H;obtain ⟨ASz14_0,cSz14_0,ASz14_1,cSz14_1,HGz14,hgz14,HSz14_0,HSCz14_0,HSz14_1,HSCz14_1⟩:=HI0.out;obtain ⟨es0_,es1_,es2_,es3_⟩:=IsS26.same_ HGq.out HK.out HGz14;subst es0_;subst es1_;subst es2_;subst es3_;have hcz14_0:=cellS26_0 HGz14;have hcz14_1:=cellS26_1 HGz14;clear HGz14 hgz14;have p143:0≤(x68_2:Int):=dd;have q143:x68_2 < (s0_1.length:Int):=dd;obtain ⟨ad143,A143_4,c143_4,e143,hx143_0,hx143_1,hx143_2,hx143_3,hx143_4,hl143_4,hi143_4⟩:=at_T77 HSz14_1 x68_2 p143 q143;cases e143;replace hx143_0:=pcb HB.out hx143_0;replace hx143_1:=pcb HB.out hx143_1;replace hx143_2:=pcb HB.out hx143_2;replace hx143_3:=pcb HB.out hx143_3;replace hx143_4:=pcb HB.out hx143_4;have HR143_4:=AsZ.mk hi143_4;have HC143_4:=AsZ.mk hl143_4;clear hi143_4 hl143_4;replace p143:=eq_true p143;replace q143:=eq_true q143;go_wp2_with (first|((with_reducible refine gate_dst (N:=9) rfl ?_);(try (refine gate_guard (by rfl) ?_;dsimp only));refine bev 9 77 (cs:=#[.string (⟨#[]⟩:ByteArray),.int .i64 0,.int .i64 0,.string (⟨#[]⟩:ByteArray),.slice none 0 0]) ?_;intro gb144 hg w15 hbox hb;have BK144:=AsZ.mk (hbox);have GW144:=AsZ.mk ((by rw [hg];exact (keep_size (w:=w) (g:=g) (row:=none) (kF HK)):w.heap.size≤gb144));have GE144:=AsZ.mk ((Nat.le_trans HW0.out (by rw [hg];exact (keep_size (w:=w) (g:=g) (row:=none) (kF HK)):w.heap.size≤gb144):w0.heap.size≤gb144));have NB0_144:=AsZ.mk ((by rw [hg];exact Nat.ne_of_lt (IsS26.lt (show IsS26 w0 _ g s0_0 s0_1 from st26 HI0)):g ≠ gb144));have NB144_0:=AsZ.mk ((by rw [hg];exact Nat.ne_of_gt (IsS26.lt (show IsS26 w0 _ g s0_0 s0_1 from st26 HI0)):gb144 ≠ g));replace HI0:=AsZ.mk (IsS26.below (st26 HI0) hb);replace HK:=AsZ.mk (KeepF.trans (kF HK) (KeepF.of_below hb g none) (.inl rfl));replace HB:=bp hb;clear hb hbox hg;have hnb16:=NB144_0.out;have hnc16:=NB0_144.out;obtain ⟨hcz17_0,hcz17_1,hcz17_2,hcz17_3,hcz17_4,hfz17_0,hfz17_1,hfz17_2,hfz17_3,hfz17_4⟩:=bx5 BK144));go_roundg k2
         case measure=>have:=HK1.out;have:=HK2.out;omega
         case rel=>exact ⟨(x5_2),(wrap64 (x68_2 + 1)),rs,rs,H',⟨by have:=HK1.out;have:=HK2.out;omega⟩,⟨st26 HI0⟩,⟨kF HK⟩,⟨bel⟩⟩
       rw [if_pos c9] at H;have c9b0:decide (a1 < (((rd_T77 s0_1 x68_2).f1).length:Int))=true:=zE c9;clear c9;have H':=AsZ.mk H;clear H;obtain ⟨ASz10_0,cSz10_0,ASz10_1,cSz10_1,HGz10,hgz10,HSz10_0,HSCz10_0,HSz10_1,HSCz10_1⟩:=HI0.out;obtain ⟨es0_,es1_,es2_,es3_⟩:=IsS26.same_ HGq.out HK.out HGz10;subst es0_;subst es1_;subst es2_;subst es3_;have hcz10_0:=cellS26_0 HGz10;have hcz10_1:=cellS26_1 HGz10;clear HGz10 hgz10;have p143:0≤(x68_2:Int):=dd;have q143:x68_2 < (s0_1.length:Int):=dd;obtain ⟨ad143,A143_4,c143_4,e143,hx143_0,hx143_1,hx143_2,hx143_3,hx143_4,hl143_4,hi143_4⟩:=at_T77 HSz10_1 x68_2 p143 q143;cases e143;replace hx143_0:=pcb HB.out hx143_0;replace hx143_1:=pcb HB.out hx143_1;replace hx143_2:=pcb HB.out hx143_2;replace hx143_3:=pcb HB.out hx143_3;replace hx143_4:=pcb HB.out hx143_4;have HR143_4:=AsZ.mk hi143_4;have HC143_4:=AsZ.mk hl143_4;clear hi143_4 hl143_4;replace p143:=eq_true p143;replace q143:=eq_true q143;go_wp2_with (first|((with_reducible refine gate_dst (N:=9) rfl ?_);(try (refine gate_guard (by rfl) ?_;dsimp only));refine bev 9 77 (cs:=#[.string (⟨#[]⟩:ByteArray),.int .i64 0,.int .i64 0,.string (⟨#[]⟩:ByteArray),.slice none 0 0]) ?_;intro gb144 hg w11 hbox hb;have BK144:=AsZ.mk (hbox);have GW144:=AsZ.mk ((by rw [hg];exact (keep_size (w:=w) (g:=g) (row:=none) (kF HK)):w.heap.size≤gb144));have GE144:=AsZ.mk ((Nat.le_trans HW0.out (by rw [hg];exact (keep_size (w:=w) (g:=g) (row:=none) (kF HK)):w.heap.size≤gb144):w0.heap.size≤gb144));have NB0_144:=AsZ.mk ((by rw [hg];exact Nat.ne_of_lt (IsS26.lt (show IsS26 w0 _ g s0_0 s0_1 from st26 HI0)):g ≠ gb144));have NB144_0:=AsZ.mk ((by rw [hg];exact Nat.ne_of_gt (IsS26.lt (show IsS26 w0 _ g s0_0 s0_1 from st26 HI0)):gb144 ≠ g));replace HI0:=AsZ.mk (IsS26.below (st26 HI0) hb);replace HK:=AsZ.mk (KeepF.trans (kF HK) (KeepF.of_below hb g none) (.inl rfl));replace HB:=bp hb;clear hb hbox hg;have hnb12:=NB144_0.out;have hnc12:=NB0_144.out;obtain ⟨hcz13_0,hcz13_1,hcz13_2,hcz13_3,hcz13_4,hfz13_0,hfz13_1,hfz13_2,hfz13_3,hfz13_4⟩:=bx5 BK144));go_roundg k2
       case measure=>have:=HK1.out;have:=HK2.out;omega
       case rel=>exact ⟨(wrap64 (x5_2 - 1)),(wrap64 (x68_2 + 1)),rs,rs,H',⟨by have:=HK1.out;have:=HK2.out;omega⟩,⟨st26 HI0⟩,⟨kF HK⟩,⟨bel⟩⟩
   rw [if_neg c4] at H;have c4b0:(t137 == (-1))=false:=beq_eq_false_iff_ne.mpr c4;have c4b1:(t137 != (-1))=true:=bne_iff_ne.mpr c4;have HC18:=AsZ.mk H;clear H;go_upto_region 4 with (first|((with_reducible refine gcl (f:=41) rfl ?_);refine gk (some 13) Tryd.func41 #[.pointer (some ⟨g,0,none⟩),.int .i64 x6_1,.int .i64 a1] ?_;(with_reducible refine (impl_Skip_next.calls g s0_0 s0_1 x6_1 a1 t137 w0 _ ?side1 ?side2 A3.out).mono ?_);(case side1=>exact st26 HI0);(case side2=>exact bel);rintro e w' ⟨rfl,⟨nd,rfl⟩⟩;refine ⟨_,rfl,?_⟩))
   (try simp only [Act.put,zS,zT,zU])
   go_cut [37] (fun v37 wc => ∃ (kq:Nat) (x37_17:Bool),v37 = .bool x37_17∧AsZ (impl_Skip_levelOk.j1 kq a1 x5_1 x6_1 t137 x37_17 s0_0 s0_1=some r)∧AsZ (kq≤k1)∧AsZ (IsS26 w0 wc g s0_0 s0_1)∧AsZ (KeepF w wc g none)∧AsZ (Below w0.heap.size w0 wc))
   case first =>
    have H:=HC18.out;clear HC18;replace H:=bs H;obtain ⟨t138,A19,H⟩:=H;by_cases c20:t138=true;rotate_left
    · replace c20:=Bool.eq_false_iff.mpr c20
      subst c20;replace H:=iN H;have H':=AsZ.mk H;clear H;obtain ⟨ASz24_0,cSz24_0,ASz24_1,cSz24_1,HGz24,hgz24,HSz24_0,HSCz24_0,HSz24_1,HSCz24_1⟩:=HI0.out;obtain ⟨es0_,es1_,es2_,es3_⟩:=IsS26.same_ HGq.out HK.out HGz24;subst es0_;subst es1_;subst es2_;subst es3_;have hcz24_0:=cellS26_0 HGz24;have hcz24_1:=cellS26_1 HGz24;clear HGz24 hgz24;go_wp2_with (first|((with_reducible refine gcl (f:=50) rfl ?_);refine gk (some 23) Tryd.func50 #[.int .i64 t137,.int .i64 0,.int .i64 (wrap64 ((s0_1.length:Int) - 1))] ?_;(with_reducible refine (impl_in.calls t137 0 (wrap64 ((s0_1.length:Int) - 1)) false _ A19.out).mono ?_);rintro e w' ⟨rfl,⟨nd,rfl⟩⟩;refine ⟨_,rfl,?_⟩));go_meet
      case rel=>exact ⟨_,(true),rs,H',⟨by have:=HK1.out;first|omega|exact Nat.le_refl _⟩,⟨st26 HI0⟩,⟨kF HK⟩,⟨bel⟩⟩
    subst c20;replace H:=iP H;by_cases c21:0≤t137;rotate_left
    · rw [if_neg c21] at H
      exact absurd H (by simp)
    rw [if_pos c21] at H;have c21b0:=zE c21;clear c21;(first|rw [c21b0]|(simp only [i64_w,i32_w];rw [c21b0])|rw [c21b1]|skip);by_cases c22:t137 < (s0_1.length:Int);rotate_left
    · rw [if_neg c22] at H
      exact absurd H (by simp)
    rw [if_pos c22] at H;have c22b0:=zE c22;clear c22;have H':=AsZ.mk H;clear H;obtain ⟨ASz23_0,cSz23_0,ASz23_1,cSz23_1,HGz23,hgz23,HSz23_0,HSCz23_0,HSz23_1,HSCz23_1⟩:=HI0.out;obtain ⟨es0_,es1_,es2_,es3_⟩:=IsS26.same_ HGq.out HK.out HGz23;subst es0_;subst es1_;subst es2_;subst es3_;have hcz23_0:=cellS26_0 HGz23;have hcz23_1:=cellS26_1 HGz23;clear HGz23 hgz23;go_wp2_with (first|((with_reducible refine gcl (f:=50) rfl ?_);refine gk (some 23) Tryd.func50 #[.int .i64 t137,.int .i64 0,.int .i64 (wrap64 ((s0_1.length:Int) - 1))] ?_;(with_reducible refine (impl_in.calls t137 0 (wrap64 ((s0_1.length:Int) - 1)) true _ A19.out).mono ?_);rintro e w' ⟨rfl,⟨nd,rfl⟩⟩;refine ⟨_,rfl,?_⟩;have p139:0≤(t137:Int):=dd;have q139:t137 < (s0_1.length:Int):=dd;obtain ⟨ad139,A139_4,c139_4,e139,hx139_0,hx139_1,hx139_2,hx139_3,hx139_4,hl139_4,hi139_4⟩:=at_T77 HSz23_1 t137 p139 q139;cases e139;replace hx139_0:=pcb HB.out hx139_0;replace hx139_1:=pcb HB.out hx139_1;replace hx139_2:=pcb HB.out hx139_2;replace hx139_3:=pcb HB.out hx139_3;replace hx139_4:=pcb HB.out hx139_4;have HR139_4:=AsZ.mk hi139_4;have HC139_4:=AsZ.mk hl139_4;clear hi139_4 hl139_4;replace p139:=eq_true p139;replace q139:=eq_true q139));go_meet
    case rel=>exact ⟨_,(decide ((((rd_T77 s0_1 t137).f1).length:Int)≤a1)),rs,H',⟨by have:=HK1.out;first|omega|exact Nat.le_refl _⟩,⟨st26 HI0⟩,⟨kF HK⟩,⟨bel⟩⟩
   case rest =>
    clear HC18
    try clear p1 q1
    try clear hx1
    try clear p2
    try clear c4b0
    try clear c4b1
    try clear c6b0
    try clear p6
    try clear c7b0
    try clear c8b0
    try clear c9b0
    try clear p13 q13
    try clear hx13
    try clear p14 q14
    try clear hx14
    try clear c21b0
    try clear c21b1
    try clear c22b0
    try clear hcz10_0 hcz10_1
    try clear hcz13_0 hcz13_1 hcz13_2 hcz13_3 hcz13_4 hfz13_0 hfz13_1 hfz13_2 hfz13_3 hfz13_4
    try clear hcz14_0 hcz14_1
    try clear hcz17_0 hcz17_1 hcz17_2 hcz17_3 hcz17_4 hfz17_0 hfz17_1 hfz17_2 hfz17_3 hfz17_4
    try clear hcz23_0 hcz23_1
    try clear hcz24_0 hcz24_1
    try clear hcz5_0 hcz5_1
    try clear hx139_0 hx139_1 hx139_2 hx139_3 hx139_4
    try clear hx143_0 hx143_1 hx143_2 hx143_3 hx143_4
    try clear p139 q139
    try clear p143 q143
    obtain ⟨kq,x37_17,rfl,HA,HJ17,HI0,HK,HB⟩:=hcut
    cases kq with
    |zero=>exact absurd HA.out (by simp [impl_Skip_levelOk.j1])
    |succ kj17 =>
     have H:=HA.out;clear HA;simp only [impl_Skip_levelOk.j1] at H;by_cases c25:x37_17=true
     · subst c25
       replace H:=iP H;obtain rfl:=zI H;go_wp2;go_ret;exact ⟨re,st26 HI0,bel,kF HK⟩
     replace c25:=Bool.eq_false_iff.mpr c25;subst c25;replace H:=iN H;have HC26:=AsZ.mk H;clear H;go_upto_region 6 with (fail)
     go_cut [59] (fun v59 wc => ∃ (kq:Nat) (x59_25:Bool),v59 = .bool x59_25∧AsZ (impl_Skip_levelOk.j2 kq a1 x5_1 t137 x59_25 s0_0 s0_1=some r)∧AsZ (kq≤kj17)∧AsZ (IsS26 w0 wc g s0_0 s0_1)∧AsZ (KeepF w wc g none)∧AsZ (Below w0.heap.size w0 wc))
     case first =>
      have H:=HC26.out;clear HC26;by_cases c27:x6_1=(-1)
      · rw [if_pos c27] at H
        have c27b0:(x6_1 == (-1))=true:=beq_iff_eq.mpr c27;have c27b1:(x6_1 != (-1))=false:=bne_eq_false_iff_eq.mpr c27;clear c27;(first|rw [c27b0]|(simp only [i64_w,i32_w];rw [c27b0])|rw [c27b1]|skip);have H':=AsZ.mk H;clear H
        try go_wp2
        replace HI0:=AsZ.mk (IsS26.drew HI0.out);replace HK:=AsZ.mk (KeepF.drew HK.out);replace HB:=dB HB;refine start_ (n:=22) (S:=fun w'=>True) (ds:=[]) (b_ 0 22) (by kernel_rfl) rfl rfl trivial (fun hHeld=>?_);refine with_tabW impl_Skip_levelOk.tab6 impl_Skip_levelOk.bits6 (fun HT_ HW_=>?_);generalize wc.drew=w28 at HI0 HK HB hHeld ⊢;refine pu 0 38 (b_ 1 21) HT_.out ?_;refine pu 1 39 (b_ 2 20) HT_.out ?_;refine pu 2 40 (b_ 3 19) HT_.out ?_;refine pd 3 41 (b_ 4 18) HT_.out ?_;refine pd 4 42 (b_ 5 17) HT_.out ?_;refine pd 5 43 (b_ 6 16) HT_.out ?_;refine pd 6 44 (b_ 7 15) HT_.out ?_;refine pd 7 45 (b_ 8 14) HT_.out ?_;refine pd 8 46 (b_ 9 13) HT_.out ?_;refine pd 9 47 (b_ 10 12) HT_.out ?_;refine pd 10 48 (b_ 11 11) HT_.out ?_;refine pd 11 49 (b_ 12 10) HT_.out ?_;refine pd 12 50 (b_ 13 9) HT_.out ?_;refine pd 13 51 (b_ 14 8) HT_.out ?_;refine pd 14 52 (b_ 15 7) HT_.out ?_;refine pd 15 53 (b_ 16 6) HT_.out ?_;refine pd 16 54 (b_ 17 5) HT_.out ?_;refine pd 17 55 (b_ 18 4) HT_.out ?_;refine pd 18 56 (b_ 19 3) HT_.out ?_;refine pd 19 57 (b_ 20 2) HT_.out ?_;refine pd 20 58 (b_ 21 1) HT_.out ?_;refine pu 21 59 (b_ 22 0) HT_.out ?_;refine dn_ (dnO HT_.out (by kernel_rfl)) ?_
        try go_wp2
        go_meet
        case rel=>exact ⟨_,(false),rs,H',⟨by have:=HK1.out;have:=HJ17.out;first|omega|exact Nat.le_refl _⟩,⟨st26 HI0⟩,⟨kF HK⟩,⟨bel⟩⟩
      rw [if_neg c27] at H;have c27b0:(x6_1 == (-1))=false:=beq_eq_false_iff_ne.mpr c27;have c27b1:(x6_1 != (-1))=true:=bne_iff_ne.mpr c27;(first|rw [c27b0]|(simp only [i64_w,i32_w];rw [c27b0])|rw [c27b1]|skip);by_cases c29:0≤x6_1;rotate_left
      · rw [if_neg c29] at H
        exact absurd H (by simp)
      rw [if_pos c29] at H;have c29b0:=zE c29;clear c29;by_cases c30:x6_1 < (s0_1.length:Int);rotate_left
      · rw [if_neg c30] at H
        exact absurd H (by simp)
      rw [if_pos c30] at H;have c30b0:=zE c30;clear c30;by_cases c31:0≤t137;rotate_left
      · rw [if_neg c31] at H
        exact absurd H (by simp)
      rw [if_pos c31] at H;have c31b0:=zE c31;clear c31;by_cases c32:t137 < (s0_1.length:Int);rotate_left
      · rw [if_neg c32] at H
        exact absurd H (by simp)
      rw [if_pos c32] at H;have c32b0:=zE c32;clear c32;replace H:=bs H;obtain ⟨t142,A33,H⟩:=H;have H':=AsZ.mk H;clear H
      try go_wp2
      replace HI0:=AsZ.mk (IsS26.drew HI0.out);replace HK:=AsZ.mk (KeepF.drew HK.out);replace HB:=dB HB;obtain ⟨ASz35_0,cSz35_0,ASz35_1,cSz35_1,HGz35,hgz35,HSz35_0,HSCz35_0,HSz35_1,HSCz35_1⟩:=HI0.out;obtain ⟨es0_,es1_,es2_,es3_⟩:=IsS26.same_ HGq.out HK.out HGz35;subst es0_;subst es1_;subst es2_;subst es3_;have hcz35_0:=cellS26_0 HGz35;have hcz35_1:=cellS26_1 HGz35;clear HGz35 hgz35;have p140:0≤(x6_1:Int):=dd;have q140:x6_1 < (s0_1.length:Int):=dd;obtain ⟨ad140,A140_4,c140_4,e140,hx140_0,hx140_1,hx140_2,hx140_3,hx140_4,hl140_4,hi140_4⟩:=at_T77 HSz35_1 x6_1 p140 q140;have hw140_4:=hx140_4;have hw140_3:=hx140_3;have hw140_2:=hx140_2;have hw140_1:=hx140_1;have hw140_0:=hx140_0;cases e140;replace hx140_0:=pcb HB.out hx140_0;replace hx140_1:=pcb HB.out hx140_1;replace hx140_2:=pcb HB.out hx140_2;replace hx140_3:=pcb HB.out hx140_3;replace hx140_4:=pcb HB.out hx140_4;have HR140_4:=AsZ.mk hi140_4;have HC140_4:=AsZ.mk hl140_4;clear hi140_4 hl140_4;replace p140:=eq_true p140;replace q140:=eq_true q140;have p141:0≤(t137:Int):=dd;have q141:t137 < (s0_1.length:Int):=dd;obtain ⟨ad141,A141_4,c141_4,e141,hx141_0,hx141_1,hx141_2,hx141_3,hx141_4,hl141_4,hi141_4⟩:=at_T77 HSz35_1 t137 p141 q141;have hw141_4:=hx141_4;have hw141_3:=hx141_3;have hw141_2:=hx141_2;have hw141_1:=hx141_1;have hw141_0:=hx141_0;obtain rfl:ad140=ad141:=(by injection e141);replace hx141_0:=pcb HB.out hx141_0;replace hx141_1:=pcb HB.out hx141_1;replace hx141_2:=pcb HB.out hx141_2;replace hx141_3:=pcb HB.out hx141_3;replace hx141_4:=pcb HB.out hx141_4;have HR141_4:=AsZ.mk hi141_4;have HC141_4:=AsZ.mk hl141_4;clear hi141_4 hl141_4;replace p141:=eq_true p141;replace q141:=eq_true q141;refine start_ (n:=22) (S:=fun w'=>w'.cell? ⟨g,0,none⟩=some (.slice ASz35_0 s0_0.length cSz35_0)∧w'.cell? ⟨g,1,none⟩=some (.slice (some ad140) s0_1.length cSz35_1)∧w'.cell? (ad140.add ((x6_1).toNat * 5))=some (.string ((rd_T77 s0_1 x6_1).f0.f0))∧w'.cell? ⟨(ad140.add ((x6_1).toNat * 5)).block,(ad140.add ((x6_1).toNat * 5)).off + 1,none⟩=some (.int .i64 ((rd_T77 s0_1 x6_1).f0.f1))∧w'.cell? ⟨(ad140.add ((x6_1).toNat * 5)).block,(ad140.add ((x6_1).toNat * 5)).off + 2,none⟩=some (.int .i64 ((rd_T77 s0_1 x6_1).f0.f2))∧w'.cell? ⟨(ad140.add ((x6_1).toNat * 5)).block,(ad140.add ((x6_1).toNat * 5)).off + 3,none⟩=some (.string ((rd_T77 s0_1 x6_1).f0.f3))∧w'.cell? ⟨(ad140.add ((x6_1).toNat * 5)).block,(ad140.add ((x6_1).toNat * 5)).off + 4,none⟩=some (.slice A140_4 ((rd_T77 s0_1 x6_1).f1).length c140_4)∧w'.cell? (ad140.add ((t137).toNat * 5))=some (.string ((rd_T77 s0_1 t137).f0.f0))∧w'.cell? ⟨(ad140.add ((t137).toNat * 5)).block,(ad140.add ((t137).toNat * 5)).off + 1,none⟩=some (.int .i64 ((rd_T77 s0_1 t137).f0.f1))∧w'.cell? ⟨(ad140.add ((t137).toNat * 5)).block,(ad140.add ((t137).toNat * 5)).off + 2,none⟩=some (.int .i64 ((rd_T77 s0_1 t137).f0.f2))∧w'.cell? ⟨(ad140.add ((t137).toNat * 5)).block,(ad140.add ((t137).toNat * 5)).off + 3,none⟩=some (.string ((rd_T77 s0_1 t137).f0.f3))∧w'.cell? ⟨(ad140.add ((t137).toNat * 5)).block,(ad140.add ((t137).toNat * 5)).off + 4,none⟩=some (.slice A141_4 ((rd_T77 s0_1 t137).f1).length c141_4)) (ds:=[]) (b_ 0 22) (by kernel_rfl) rfl rfl ⟨hcz35_0,hcz35_1,(pcb HB.out hw140_0),(pcb HB.out hw140_1),(pcb HB.out hw140_2),(pcb HB.out hw140_3),(pcb HB.out hw140_4),(pcb HB.out hw141_0),(pcb HB.out hw141_1),(pcb HB.out hw141_2),(pcb HB.out hw141_3),(pcb HB.out hw141_4)⟩ (fun hHeld=>?_);refine with_tabW impl_Skip_levelOk.tab6 impl_Skip_levelOk.bits6 (fun HT_ HW_=>?_);generalize wc.drew=w34 at HI0 HK HB HR140_4 HR141_4 hx140_0 hx140_1 hx140_2 hx140_3 hx140_4 hx141_0 hx141_1 hx141_2 hx141_3 hx141_4 hHeld ⊢;refine pu 0 38 (b_ 1 21) HT_.out ?_;refine pu 1 39 (b_ 2 20) HT_.out ?_;refine pu 2 40 (b_ 3 19) HT_.out ?_;refine pu 3 41 (b_ 4 18) HT_.out ?_;refine pu 4 42 (b_ 5 17) HT_.out ?_;refine pu 5 43 (b_ 6 16) HT_.out ?_;refine pu 7 45 #[true,true,true,true,true,true,false,true,false,false,false,false,false,false,false,false,false,false,false,false,false,false] HT_.out ?_;refine pu 11 49 #[true,true,true,true,true,true,false,true,false,false,false,true,false,false,false,false,false,false,false,false,false,false] HT_.out ?_;refine pu 12 50 #[true,true,true,true,true,true,false,true,false,false,false,true,true,false,false,false,false,false,false,false,false,false] HT_.out ?_;refine pu 13 51 #[true,true,true,true,true,true,false,true,false,false,false,true,true,true,false,false,false,false,false,false,false,false] HT_.out ?_;refine pu 15 53 #[true,true,true,true,true,true,false,true,false,false,false,true,true,true,false,true,false,false,false,false,false,false] HT_.out ?_;refine tk12 6 44 #[true,true,true,true,true,true,true,true,false,false,false,true,true,true,false,true,false,false,false,false,false,false] HT_.out HW_.out hHeld ?_;refine pu 8 46 #[true,true,true,true,true,true,true,true,true,false,false,true,true,true,false,true,false,false,false,false,false,false] HT_.out ?_;refine pu 9 47 #[true,true,true,true,true,true,true,true,true,true,false,true,true,true,false,true,false,false,false,false,false,false] HT_.out ?_;refine tk12 10 48 #[true,true,true,true,true,true,true,true,true,true,true,true,true,true,false,true,false,false,false,false,false,false] HT_.out HW_.out hHeld ?_;refine tk12 14 52 (b_ 16 6) HT_.out HW_.out hHeld ?_;refine pu 16 54 (b_ 17 5) HT_.out ?_;refine pu 17 55 (b_ 18 4) HT_.out ?_;refine tk12 18 56 (b_ 19 3) HT_.out HW_.out hHeld ?_;refine on 19 (some 57) (b_ 20 2) HT_.out (fun K hK=>?_);refine gs Tryd.func42 #[.agg #[.string ((rd_T77 s0_1 x6_1).f0.f0),.int .i64 ((rd_T77 s0_1 x6_1).f0.f1),.int .i64 ((rd_T77 s0_1 x6_1).f0.f2),.string ((rd_T77 s0_1 x6_1).f0.f3)],.agg #[.string ((rd_T77 s0_1 t137).f0.f0),.int .i64 ((rd_T77 s0_1 t137).f0.f1),.int .i64 ((rd_T77 s0_1 t137).f0.f2),.string ((rd_T77 s0_1 t137).f0.f3)]] ?_
      with_reducible refine (impl_itemOrder.calls kj17 ((rd_T77 s0_1 x6_1).f0.f0) ((rd_T77 s0_1 x6_1).f0.f1) ((rd_T77 s0_1 x6_1).f0.f2) ((rd_T77 s0_1 x6_1).f0.f3) ((rd_T77 s0_1 t137).f0.f0) ((rd_T77 s0_1 t137).f0.f1) ((rd_T77 s0_1 t137).f0.f2) ((rd_T77 s0_1 t137).f0.f3) t142 _ A33.out).mono ?_
      rintro e w36 ⟨rfl,hb⟩;have HS0_:=(hb.cell (zB _ _ (hHeld.1))).trans (hHeld.1);have HS1_:=(hb.cell (zB _ _ (hHeld.2.1))).trans (hHeld.2.1);refine ⟨_,rfl,?_⟩;replace HI0:=AsZ.mk (IsS26.below (st26 HI0) hb);replace HK:=AsZ.mk (KeepF.trans (kF HK) (KeepF.of_below hb g none) (.inl rfl));replace HB:=bp hb;(try clear hb);(try clear hb2);(try clear hk);(try clear hi);refine hK.out _ _ ⟨HS0_,HS1_,(pcb HB.out hw140_0),(pcb HB.out hw140_1),(pcb HB.out hw140_2),(pcb HB.out hw140_3),(pcb HB.out hw140_4),(pcb HB.out hw141_0),(pcb HB.out hw141_1),(pcb HB.out hw141_2),(pcb HB.out hw141_3),(pcb HB.out hw141_4)⟩ (fun hHeld=>?_);clear hK K;refine norm_ (a':=?_) ?_ ?_;rotate_left
      · show Act.put _ (some 57) _=_
        simp only [Act.put,zS,zT,zU,i64_w,i32_w]
        rfl
      refine pu 20 58 (b_ 21 1) HT_.out ?_;refine pu 21 59 (b_ 22 0) HT_.out ?_;refine dn_ (dnO HT_.out (by kernel_rfl)) ?_
      try go_wp2
      go_meet
      case rel=>exact ⟨_,(decide (t142 ≥ 0)),rs,H',⟨by have:=HK1.out;have:=HJ17.out;first|omega|exact Nat.le_refl _⟩,⟨st26 HI0⟩,⟨kF HK⟩,⟨bel⟩⟩
     case rest =>
      clear HC26
      try clear p1 q1
      try clear hx1
      try clear p2
      try clear c4b0
      try clear c4b1
      try clear c6b0
      try clear p6
      try clear c7b0
      try clear c8b0
      try clear c9b0
      try clear p13 q13
      try clear hx13
      try clear p14 q14
      try clear hx14
      try clear c21b0
      try clear c21b1
      try clear c22b0
      try clear c27b0
      try clear c27b1
      try clear c29b0
      try clear c30b0
      try clear c31b0
      try clear c32b0
      try clear hcz10_0 hcz10_1
      try clear hcz13_0 hcz13_1 hcz13_2 hcz13_3 hcz13_4 hfz13_0 hfz13_1 hfz13_2 hfz13_3 hfz13_4
      try clear hcz14_0 hcz14_1
      try clear hcz17_0 hcz17_1 hcz17_2 hcz17_3 hcz17_4 hfz17_0 hfz17_1 hfz17_2 hfz17_3 hfz17_4
      try clear hcz23_0 hcz23_1
      try clear hcz24_0 hcz24_1
      try clear hcz35_0 hcz35_1
      try clear hcz5_0 hcz5_1
      try clear hx139_0 hx139_1 hx139_2 hx139_3 hx139_4
      try clear hx140_0 hx140_1 hx140_2 hx140_3 hx140_4
      try clear hx141_0 hx141_1 hx141_2 hx141_3 hx141_4
      try clear hx143_0 hx143_1 hx143_2 hx143_3 hx143_4
      try clear p139 q139
      try clear p140 q140
      try clear p141 q141
      try clear p143 q143
      obtain ⟨kq,x59_25,rfl,HA,HJ25,HI0,HK,HB⟩:=hcut
      cases kq with
      |zero=>exact absurd HA.out (by simp [impl_Skip_levelOk.j2])
      |succ kj25 =>
       have H:=HA.out;clear HA;simp only [impl_Skip_levelOk.j2] at H;by_cases c37:x59_25=true
       · subst c37
         replace H:=iP H;obtain rfl:=zI H;go_wp2;go_ret;exact ⟨re,st26 HI0,bel,kF HK⟩
       replace c37:=Bool.eq_false_iff.mpr c37;subst c37;replace H:=iN H;have H':=AsZ.mk H;clear H;go_wp2;go_roundg kj25
       case measure=>have:=HK1.out;have:=HJ17.out;have:=HJ25.out;omega
       case rel=>exact ⟨(wrap64 (x5_1 + 1)),(t137),rs,rs,H',⟨by have:=HK1.out;have:=HJ17.out;have:=HJ25.out;omega⟩,⟨st26 HI0⟩,⟨kF HK⟩,⟨bel⟩⟩
end Go.Proofs.YtffjlpphcjfdgaaDoor.MFnExactInsertSkip
