-- Written by a program of this session out of the translation. Not trusted: Lean checks it.
import Derived.Test.YtffjlpphcjfdgaaDoorMFnFoundx0
import Derived.Test.YtffjlpphcjfdgaaDoorMFnFoundx3
import Derived.Test.YtffjlpphcjfdgaaDoorMFnFoundx6
import Derived.Test.YtffjlpphcjfdgaaDoorMFnFoundx8
import Derived.Test.YtffjlpphcjfdgaaDoorMFnFoundx9
namespace Go.Proofs.YtffjlpphcjfdgaaDoor.MFnFound
-- short
-- shrunk
-- TAB
-- RD
open Go.Proofs.YtffjlpphcjfdgaaDoor Go.RowKit Go.Proofs.YtffjlpphcjfdgaaDoorW.PrintWords Go.Proofs.YtffjlpphcjfdgaaDoorW.PrintLast Go.Proofs.YtffjlpphcjfdgaaDoorW.PrintMore Go.Proofs.YtffjlpphcjfdgaaDoorX
attribute [local go_sem] max2_int min2_int max_two min_two max_three min_three max_four min_four str_gtr str_leq str_geq cell_twice
set_option linter.unusedVariables false
set_option linter.unusedSimpArgs false
-- COMPACT
/-! ### spec_SeekSkip: function 31 -/
def spec_SeekSkip.j0:Nat→ByteArray→Int→Bool→List Int→List (S77)→Option (ByteArray × Int × Int × ByteArray × Int × Bool)
  |0,_,_,_,_,_=>none
  |k + 1,x1,x2,x23,x242000,x242001=>if x23=true then (some ((⟨#[]⟩:ByteArray),0,0,(⟨#[]⟩:ByteArray),0,false)) else ((spec_l4First.f k x242000 x242001 x1 x2 0 (⟨#[]⟩:ByteArray)).bind fun bt246=>(if bt246.1 < 0 then (some ((⟨#[]⟩:ByteArray),0,0,(⟨#[]⟩:ByteArray),0,false)) else (if 0≤bt246.1 then (if bt246.1 < (x242001.length:Int) then (some ((rd_T77 x242001 bt246.1).f0.f0,(rd_T77 x242001 bt246.1).f0.f1,(rd_T77 x242001 bt246.1).f0.f2,(rd_T77 x242001 bt246.1).f0.f3,bt246.2,true)) else (none)) else (none))))
def spec_SeekSkip.f (k:Nat) (l0_0:List Int) (l0_1:List (S77)) (a1:ByteArray) (a2:Int):Option (ByteArray × Int × Int × ByteArray × Int × Bool):=(spec_GoodSkip.f k l0_0 l0_1).bind fun t243=>(if t243=true then ((spec_l4Key.f a1).bind fun t244=>(if t244=true then ((spec_l4Seq.f a2).bind fun t245=>(spec_SeekSkip.j0 k a1 a2 (!t245) l0_0 l0_1)) else (spec_SeekSkip.j0 k a1 a2 true l0_0 l0_1))) else (spec_SeekSkip.j0 k a1 a2 true l0_0 l0_1))
theorem spec_SeekSkip.mono_l:∀ k,(∀ y0 y1 y2 y3 y4,LeO (spec_SeekSkip.j0 k y0 y1 y2 y3 y4) (spec_SeekSkip.j0 (k + 1) y0 y1 y2 y3 y4))
  |0=>fun _ _ _ _ _ r h=>by simp [spec_SeekSkip.j0] at h
  |k + 1=>by
    have ih0:=spec_SeekSkip.mono_l k
    · intro y0 y1 y2 y3 y4
      unfold spec_SeekSkip.j0
      repeat' first|(with_reducible first|exact ih0 _ _ _ _ _|exact spec_GoodSkip.mono _ _ _|exact spec_l4First.mono _ _ _ _ _ _ _|exact LeO.refl _|exact LeO.none _|refine LeO.ite ?_ ?_|refine LeO.bind ?_ (fun _=>?_))|exact ih0 _ _ _ _ _|exact spec_GoodSkip.mono _ _ _|exact spec_l4First.mono _ _ _ _ _ _ _|exact LeO.none _|refine LeO.ite ?_ ?_|refine LeO.bind ?_ (fun _=>?_)
theorem spec_SeekSkip.mono:∀ a0 a1 a2 a3 k,LeO (spec_SeekSkip.f k a0 a1 a2 a3) (spec_SeekSkip.f (k + 1) a0 a1 a2 a3):=by
  intro a0 a1 a2 a3 k
  have ih0:=spec_SeekSkip.mono_l k
  unfold spec_SeekSkip.f
  repeat' first|(with_reducible first|exact ih0 _ _ _ _ _|exact spec_GoodSkip.mono _ _ _|exact spec_l4First.mono _ _ _ _ _ _ _|exact LeO.refl _|exact LeO.none _|refine LeO.ite ?_ ?_|refine LeO.bind ?_ (fun _=>?_))|exact ih0 _ _ _ _ _|exact spec_GoodSkip.mono _ _ _|exact spec_l4First.mono _ _ _ _ _ _ _|exact LeO.none _|refine LeO.ite ?_ ?_|refine LeO.bind ?_ (fun _=>?_)
set_option maxHeartbeats 8000000 in
set_option maxRecDepth 100000 in
theorem spec_SeekSkip.calls (k:Nat) (A0_0:Option Addr) (c0_0:Nat) (l0_0:List Int) (A0_1:Option Addr) (c0_1:Nat) (l0_1:List (S77)) (a1:ByteArray) (a2:Int) (r1:ByteArray) (r2:Int) (r3:Int) (r4:ByteArray) (r5:Int) (r6:Bool) (w:World) (hr0_0:Kd.C (Kd.int .i64) w A0_0 l0_0.length l0_0) (hc0_0:l0_0.length≤c0_0) (hr0_1:Kd.C k77 w A0_1 l0_1.length l0_1) (hc0_1:l0_1.length≤c0_1) (h:spec_SeekSkip.f k l0_0 l0_1 a1 a2=some (r1,r2,r3,r4,r5,r6)) :
    Calls Tryd.prog 31 #[.agg #[.slice A0_0 l0_0.length c0_0,.slice A0_1 l0_1.length c0_1],.string a1,.int .i64 a2] w fun e w'=>e = .returned (.tuple #[.agg #[.string r1,.int .i64 r2,.int .i64 r3,.string r4],.int .i64 r5,.bool r6])∧Below w.heap.size w w':=by
 have hu26:=Tryd.underlying26
 have hu28:=Tryd.underlying28
 have HR0_0:=AsZ.mk hr0_0
 have HC0_0:=AsZ.mk hc0_0
 clear hr0_0 hc0_0
 have HR0_1:=AsZ.mk hr0_1
 have HC0_1:=AsZ.mk hc0_1
 clear hr0_1 hc0_1
 have HB:=AsZ.mk (Below.refl w.heap.size w)
 have H:((spec_GoodSkip.f k l0_0 l0_1).bind fun t243=>(if t243=true then ((spec_l4Key.f a1).bind fun t244=>(if t244=true then ((spec_l4Seq.f a2).bind fun t245=>(spec_SeekSkip.j0 k a1 a2 (!t245) l0_0 l0_1)) else (spec_SeekSkip.j0 k a1 a2 true l0_0 l0_1))) else (spec_SeekSkip.j0 k a1 a2 true l0_0 l0_1)))=some (r1,r2,r3,r4,r5,r6):=h
 clear h
 have HC4:=AsZ.mk H
 clear H
 go_enter Tryd.func31,Tryd.ntmps31
 go_upto_region 1 with (first|((with_reducible refine gate_dst (N:=3) rfl ?_);refine bev 3 26 (cs:=#[.slice A0_0 l0_0.length c0_0,.slice A0_1 l0_1.length c0_1]) ?_;intro gb241 hg w5 hbox hb;have BK241:=AsZ.mk (hbox);have GW241:=gz HB hg;have GE241:=gz HB hg;replace HB:=bp hb;clear hb hbox hg)|((with_reducible refine gate_dst (N:=6) rfl ?_);refine bev 6 28 (cs:=#[.string (⟨#[]⟩:ByteArray),.int .i64 0,.int .i64 0,.string (⟨#[]⟩:ByteArray)]) ?_;intro gb242 hg w6 hbox hb;have BK242:=AsZ.mk (hbox);have GW242:=gz HB hg;have GE242:=gz HB hg;have NB241_242:=nl BK241 hg;have NB242_241:=nr BK241 hg;replace BK241:=bb BK241 hb;replace HB:=bp hb;clear hb hbox hg))
 (try simp only [Act.put,zS,zT,zU])
 go_cut [23] (fun v23 wc => ∃ (kq:Nat) (x23_3:Bool),v23 = .bool x23_3∧AsZ (spec_SeekSkip.j0 kq a1 a2 x23_3 l0_0 l0_1=some (r1,r2,r3,r4,r5,r6))∧AsZ (kq≤k)∧AsZ (wc.heap[gb241]? = some (.cells #[(.slice A0_0 l0_0.length c0_0),(.slice A0_1 l0_1.length c0_1)] 26 (0,0)))∧AsZ (wc.heap[gb242]? = some (.cells #[.string (⟨#[]⟩:ByteArray),.int .i64 0,.int .i64 0,.string (⟨#[]⟩:ByteArray)] 28 (0,0)))∧AsZ (Below w.heap.size w wc))
 case first =>
  have H:=HC4.out
  clear HC4
  replace H:=bs H
  obtain ⟨t243,A7,H⟩:=H
  by_cases c8:t243=true
  rotate_left
  · replace c8:=Bool.eq_false_iff.mpr c8
    subst c8
    replace H:=iN H
    have H':=AsZ.mk H
    clear H
    have hnb18:=NB241_242.out
    have hnc18:=NB242_241.out
    obtain ⟨hcz19_0,hcz19_1,hfz19_0,hfz19_1⟩:=bx2 BK241
    go_wp2_with (first|((with_reducible refine gcl (f:=30) rfl ?_);refine goesL_ (some 12) rfl rfl Tryd.func30 (by kernel_rfl) rfl #[.agg #[.slice A0_0 l0_0.length c0_0,.slice A0_1 l0_1.length c0_1]] rfl gl ?_;(with_reducible refine (spec_GoodSkip.calls k _ _ l0_0 _ _ l0_1 false _ ?side1 ?side2 ?side3 ?side4 A7.out).mono ?_);(case side1=>exact cC (Kd.C_below HR0_0.out HB.out));(case side2=>exact HC0_0.out);(case side3=>exact cC (Kd.C_below HR0_1.out HB.out));(case side4=>exact HC0_1.out);rintro e w20 ⟨rfl,hb⟩;refine ⟨_,rfl,?_⟩;replace BK241:=bb BK241 hb;replace BK242:=bb BK242 hb;replace HB:=bp hb;(try clear hb);(try clear hb2);(try clear hk);(try clear hi)))
    go_meet
    case rel=>exact ⟨_,(true),rs,H',⟨lo⟩,⟨bk BK241⟩,⟨bk BK242⟩,⟨bel⟩⟩
  subst c8
  replace H:=iP H
  replace H:=bs H
  obtain ⟨t244,A9,H⟩:=H
  by_cases c10:t244=true
  rotate_left
  · replace c10:=Bool.eq_false_iff.mpr c10
    subst c10
    replace H:=iN H
    have H':=AsZ.mk H
    clear H
    have hnb15:=NB241_242.out
    have hnc15:=NB242_241.out
    obtain ⟨hcz16_0,hcz16_1,hfz16_0,hfz16_1⟩:=bx2 BK241
    go_wp2_with (first|((with_reducible refine gcl (f:=30) rfl ?_);refine goesL_ (some 12) rfl rfl Tryd.func30 (by kernel_rfl) rfl #[.agg #[.slice A0_0 l0_0.length c0_0,.slice A0_1 l0_1.length c0_1]] rfl gl ?_;(with_reducible refine (spec_GoodSkip.calls k _ _ l0_0 _ _ l0_1 true _ ?side1 ?side2 ?side3 ?side4 A7.out).mono ?_);(case side1=>exact cC (Kd.C_below HR0_0.out HB.out));(case side2=>exact HC0_0.out);(case side3=>exact cC (Kd.C_below HR0_1.out HB.out));(case side4=>exact HC0_1.out);rintro e w17 ⟨rfl,hb⟩;refine ⟨_,rfl,?_⟩;replace BK241:=bb BK241 hb;replace BK242:=bb BK242 hb;replace HB:=bp hb;(try clear hb);(try clear hb2);(try clear hk);(try clear hi))|(go_at_call 53;(with_reducible refine (spec_l4Key.calls a1 false _ A9.out).mono ?_);rintro e w' ⟨rfl,⟨nd,rfl⟩⟩))
    go_meet
    case rel=>exact ⟨_,(true),rs,H',⟨lo⟩,⟨bk BK241⟩,⟨bk BK242⟩,⟨bel⟩⟩
  subst c10
  replace H:=iP H
  replace H:=bs H
  obtain ⟨t245,A11,H⟩:=H
  have H':=AsZ.mk H
  clear H
  have hnb12:=NB241_242.out
  have hnc12:=NB242_241.out
  obtain ⟨hcz13_0,hcz13_1,hfz13_0,hfz13_1⟩:=bx2 BK241
  go_wp2_with (first|((with_reducible refine gcl (f:=30) rfl ?_);refine goesL_ (some 12) rfl rfl Tryd.func30 (by kernel_rfl) rfl #[.agg #[.slice A0_0 l0_0.length c0_0,.slice A0_1 l0_1.length c0_1]] rfl gl ?_;(with_reducible refine (spec_GoodSkip.calls k _ _ l0_0 _ _ l0_1 true _ ?side1 ?side2 ?side3 ?side4 A7.out).mono ?_);(case side1=>exact cC (Kd.C_below HR0_0.out HB.out));(case side2=>exact HC0_0.out);(case side3=>exact cC (Kd.C_below HR0_1.out HB.out));(case side4=>exact HC0_1.out);rintro e w14 ⟨rfl,hb⟩;refine ⟨_,rfl,?_⟩;replace BK241:=bb BK241 hb;replace BK242:=bb BK242 hb;replace HB:=bp hb;(try clear hb);(try clear hb2);(try clear hk);(try clear hi))|(go_at_call 53;(with_reducible refine (spec_l4Key.calls a1 true _ A9.out).mono ?_);rintro e w' ⟨rfl,⟨nd,rfl⟩⟩)|(go_at_call 54;(with_reducible refine (spec_l4Seq.calls a2 t245 _ A11.out).mono ?_);rintro e w' ⟨rfl,⟨nd,rfl⟩⟩))
  go_meet
  case rel=>exact ⟨_,(!t245),rs,H',⟨lo⟩,⟨bk BK241⟩,⟨bk BK242⟩,⟨bel⟩⟩
 case rest =>
  clear HC4
  try clear p2
  try clear hcz13_0 hcz13_1 hfz13_0 hfz13_1
  try clear hcz16_0 hcz16_1 hfz16_0 hfz16_1
  try clear hcz19_0 hcz19_1 hfz19_0 hfz19_1
  obtain ⟨kq,x23_3,rfl,HA,HJ3,BK241,BK242,HB⟩:=hcut
  cases kq with
  |zero=>exact absurd HA.out (by simp [spec_SeekSkip.j0])
  |succ kj3 =>
   have H:=HA.out
   clear HA
   simp only [spec_SeekSkip.j0] at H
   by_cases c21:x23_3=true
   · subst c21
     replace H:=iP H
     simp only [Option.some.injEq,Prod.mk.injEq] at H
     obtain ⟨rfl,rfl,rfl,rfl,rfl,rfl⟩:=H
     have hnb22:=NB242_241.out
     have hnc22:=NB241_242.out
     obtain ⟨hcz23_0,hcz23_1,hcz23_2,hcz23_3,hfz23_0,hfz23_1,hfz23_2,hfz23_3⟩:=bx4 BK242
     go_wp2
     refine bodyPost_ret (results_ctt rfl _ _ gb242 28 #[.string (⟨#[]⟩:ByteArray),.int .i64 0,.int .i64 0,.string (⟨#[]⟩:ByteArray)] (0,0) _ rfl (bq BK242) Tryd.underlying28 rfl (by kernel_rfl)) rfl ?_
     exact ⟨re,bel⟩
   replace c21:=Bool.eq_false_iff.mpr c21
   subst c21
   replace H:=iN H
   replace H:=bs H
   obtain ⟨⟨t246,t247⟩,A24,H⟩:=H
   by_cases c25:t246 < 0
   · rw [if_pos c25] at H
     have c25b0:decide (t246 < 0)=true:=zE c25
     clear c25
     simp only [Option.some.injEq,Prod.mk.injEq] at H
     obtain ⟨rfl,rfl,rfl,rfl,rfl,rfl⟩:=H
     have hnb26:=NB241_242.out
     have hnc26:=NB242_241.out
     obtain ⟨hcz27_0,hcz27_1,hfz27_0,hfz27_1⟩:=bx2 BK241
     go_wp2_with (first|((with_reducible refine gcl (f:=46) rfl ?_);refine goesL_ (some 30) rfl rfl Tryd.func46 (by kernel_rfl) rfl #[.agg #[.slice A0_0 l0_0.length c0_0,.slice A0_1 l0_1.length c0_1],.agg #[.string a1,.int .i64 a2,.int .i64 0,.string (⟨#[]⟩:ByteArray)]] rfl gl ?_;(with_reducible refine (spec_l4First.calls kj3 _ _ l0_0 _ _ l0_1 a1 a2 0 (⟨#[]⟩:ByteArray) t246 t247 _ ?side1 ?side2 ?side3 ?side4 A24.out).mono ?_);(case side1=>exact cC (Kd.C_below HR0_0.out HB.out));(case side2=>exact HC0_0.out);(case side3=>exact cC (Kd.C_below HR0_1.out HB.out));(case side4=>exact HC0_1.out);rintro e w28 ⟨rfl,hb⟩;refine ⟨_,rfl,?_⟩;replace BK241:=bb BK241 hb;replace BK242:=bb BK242 hb;replace HB:=bp hb;(try clear hb);(try clear hb2);(try clear hk);(try clear hi);obtain ⟨hcz29_0,hcz29_1,hcz29_2,hcz29_3,hfz29_0,hfz29_1,hfz29_2,hfz29_3⟩:=bx4 BK242))
     refine bodyPost_ret (results_ctt rfl _ _ gb242 28 #[.string (⟨#[]⟩:ByteArray),.int .i64 0,.int .i64 0,.string (⟨#[]⟩:ByteArray)] (0,0) _ rfl (bq BK242) Tryd.underlying28 rfl (by kernel_rfl)) rfl ?_
     exact ⟨re,bel⟩
   rw [if_neg c25] at H
   have c25b0:decide (t246 < 0)=false:=decide_eq_false c25
   clear c25
   by_cases c30:0≤t246
   rotate_left
   · rw [if_neg c30] at H
     exact absurd H (by simp)
   rw [if_pos c30] at H
   have c30b0:decide (0≤t246)=true:=zE c30
   clear c30
   by_cases c31:t246 < (l0_1.length:Int)
   rotate_left
   · rw [if_neg c31] at H
     exact absurd H (by simp)
   rw [if_pos c31] at H
   have c31b0:decide (t246 < (l0_1.length:Int))=true:=zE c31
   clear c31
   simp only [Option.some.injEq,Prod.mk.injEq] at H
   obtain ⟨rfl,rfl,rfl,rfl,rfl,rfl⟩:=H
   have hnb32:=NB241_242.out
   have hnc32:=NB242_241.out
   obtain ⟨hcz33_0,hcz33_1,hfz33_0,hfz33_1⟩:=bx2 BK241
   go_wp2_with (first|((with_reducible refine gcl (f:=46) rfl ?_);refine goesL_ (some 30) rfl rfl Tryd.func46 (by kernel_rfl) rfl #[.agg #[.slice A0_0 l0_0.length c0_0,.slice A0_1 l0_1.length c0_1],.agg #[.string a1,.int .i64 a2,.int .i64 0,.string (⟨#[]⟩:ByteArray)]] rfl gl ?_;(with_reducible refine (spec_l4First.calls kj3 _ _ l0_0 _ _ l0_1 a1 a2 0 (⟨#[]⟩:ByteArray) t246 t247 _ ?side1 ?side2 ?side3 ?side4 A24.out).mono ?_);(case side1=>exact cC (Kd.C_below HR0_0.out HB.out));(case side2=>exact HC0_0.out);(case side3=>exact cC (Kd.C_below HR0_1.out HB.out));(case side4=>exact HC0_1.out);rintro e w34 ⟨rfl,hb⟩;refine ⟨_,rfl,?_⟩;replace BK241:=bb BK241 hb;replace BK242:=bb BK242 hb;replace HB:=bp hb;(try clear hb);(try clear hb2);(try clear hk);(try clear hi);obtain ⟨hcz35_0,hcz35_1,hfz35_0,hfz35_1⟩:=bx2 BK241;have p248:0≤(t246:Int):=dd;have q248:t246 < (l0_1.length:Int):=dd;obtain ⟨ad248,A248_4,c248_4,e248,hx248_0,hx248_1,hx248_2,hx248_3,hx248_4,hl248_4,hi248_4⟩:=at_T77 HR0_1.out t246 p248 q248;cases e248;replace hx248_0:=(HB.out.cell (zB w _ hx248_0)).trans hx248_0;replace hx248_1:=(HB.out.cell (zB w _ hx248_1)).trans hx248_1;replace hx248_2:=(HB.out.cell (zB w _ hx248_2)).trans hx248_2;replace hx248_3:=(HB.out.cell (zB w _ hx248_3)).trans hx248_3;replace hx248_4:=(HB.out.cell (zB w _ hx248_4)).trans hx248_4;have HR248_4:=AsZ.mk hi248_4;have HC248_4:=AsZ.mk hl248_4;clear hi248_4 hl248_4;replace p248:=eq_true p248;replace q248:=eq_true q248;obtain ⟨hcz36_0,hcz36_1,hcz36_2,hcz36_3,hfz36_0,hfz36_1,hfz36_2,hfz36_3⟩:=bx4 BK242))
   refine bodyPost_ret (results_ctt rfl _ _ gb242 28 #[.string ((rd_T77 l0_1 t246).f0.f0),.int .i64 ((rd_T77 l0_1 t246).f0.f1),.int .i64 ((rd_T77 l0_1 t246).f0.f2),.string ((rd_T77 l0_1 t246).f0.f3)] (0,0) _ rfl (bq BK242) Tryd.underlying28 rfl (by kernel_rfl)) rfl ?_
   exact ⟨re,bel⟩
/-! ### impl_Skip_seek: function 40 -/
mutual
def impl_Skip_seek.l0:Nat→List Int→Int→Int→Int→List Int→List (S77)→ByteArray→Int→Int→ByteArray→Option (List Int × Int)
  |0,_,_,_,_,_,_,_,_,_,_=>none
  |k + 1,x6,x7,x8,x9,x1000,x1001,x250000,x250001,x250002,x250003=>if x9 ≥ 0 then (impl_Skip_seek.l1 k x6 x7 x8 x9 x1000 x1001 x250000 x250001 x250002 x250003) else (some (x6,x8))
def impl_Skip_seek.l1:Nat→List Int→Int→Int→Int→List Int→List (S77)→ByteArray→Int→Int→ByteArray→Option (List Int × Int)
  |0,_,_,_,_,_,_,_,_,_,_=>none
  |k + 1,x6,x7,x8,x9,x1000,x1001,x250000,x250001,x250002,x250003=>(impl_Skip_next.f x1000 x1001 x7 x9).bind fun t253=>(if t253=(-1) then (if 0≤x9 then (if x9 < (x6.length:Int) then (impl_Skip_seek.l0 k (x6.set (x9:Int).toNat x7) x7 x8 (wrap64 (x9 - 1)) x1000 x1001 x250000 x250001 x250002 x250003) else (none)) else (none)) else (if 0≤t253 then (if t253 < (x1001.length:Int) then ((impl_itemOrder.f k ((rd_T77 x1001 t253).f0.f0) ((rd_T77 x1001 t253).f0.f1) ((rd_T77 x1001 t253).f0.f2) ((rd_T77 x1001 t253).f0.f3) x250000 x250001 x250002 x250003).bind fun t256=>(if t256 ≥ 0 then (if 0≤x9 then (if x9 < (x6.length:Int) then (impl_Skip_seek.l0 k (x6.set (x9:Int).toNat x7) x7 (wrap64 (x8 + 1)) (wrap64 (x9 - 1)) x1000 x1001 x250000 x250001 x250002 x250003) else (none)) else (none)) else (impl_Skip_seek.l1 k x6 t253 (wrap64 (x8 + 1)) x9 x1000 x1001 x250000 x250001 x250002 x250003))) else (none)) else (none)))
end
def impl_Skip_seek.f (k:Nat) (s0_0:List Int) (s0_1:List (S77)) (a1_0:ByteArray) (a1_1:Int) (a1_2:Int) (a1_3:ByteArray):Option (List Int × Int):=if 5≤35184372088832 then (impl_Skip_seek.l0 k (List.replicate 5 0) (-1) 0 4 s0_0 s0_1 a1_0 a1_1 a1_2 a1_3) else (none)
theorem impl_Skip_seek.mono_l:∀ k,(∀ y0 y1 y2 y3 y4 y5 y6 y7 y8 y9,LeO (impl_Skip_seek.l0 k y0 y1 y2 y3 y4 y5 y6 y7 y8 y9) (impl_Skip_seek.l0 (k + 1) y0 y1 y2 y3 y4 y5 y6 y7 y8 y9))∧(∀ y0 y1 y2 y3 y4 y5 y6 y7 y8 y9,LeO (impl_Skip_seek.l1 k y0 y1 y2 y3 y4 y5 y6 y7 y8 y9) (impl_Skip_seek.l1 (k + 1) y0 y1 y2 y3 y4 y5 y6 y7 y8 y9))
  |0=>⟨fun _ _ _ _ _ _ _ _ _ _ r h=>by simp [impl_Skip_seek.l0] at h,fun _ _ _ _ _ _ _ _ _ _ r h=>by simp [impl_Skip_seek.l1] at h⟩
  |k + 1=>by
    obtain ⟨ih0,ih1⟩:=impl_Skip_seek.mono_l k
    refine ⟨?_,?_⟩
    · intro y0 y1 y2 y3 y4 y5 y6 y7 y8 y9
      unfold impl_Skip_seek.l0
      repeat' first|(with_reducible first|exact ih0 _ _ _ _ _ _ _ _ _ _|exact ih1 _ _ _ _ _ _ _ _ _ _|exact impl_itemOrder.mono _ _ _ _ _ _ _ _ _|exact LeO.refl _|exact LeO.none _|refine LeO.ite ?_ ?_|refine LeO.bind ?_ (fun _=>?_))|exact ih0 _ _ _ _ _ _ _ _ _ _|exact ih1 _ _ _ _ _ _ _ _ _ _|exact impl_itemOrder.mono _ _ _ _ _ _ _ _ _|exact LeO.none _|refine LeO.ite ?_ ?_|refine LeO.bind ?_ (fun _=>?_)
    · intro y0 y1 y2 y3 y4 y5 y6 y7 y8 y9
      unfold impl_Skip_seek.l1
      repeat' first|(with_reducible first|exact ih0 _ _ _ _ _ _ _ _ _ _|exact ih1 _ _ _ _ _ _ _ _ _ _|exact impl_itemOrder.mono _ _ _ _ _ _ _ _ _|exact LeO.refl _|exact LeO.none _|refine LeO.ite ?_ ?_|refine LeO.bind ?_ (fun _=>?_))|exact ih0 _ _ _ _ _ _ _ _ _ _|exact ih1 _ _ _ _ _ _ _ _ _ _|exact impl_itemOrder.mono _ _ _ _ _ _ _ _ _|exact LeO.none _|refine LeO.ite ?_ ?_|refine LeO.bind ?_ (fun _=>?_)
theorem impl_Skip_seek.mono:∀ a0 a1 a2 a3 a4 a5 k,LeO (impl_Skip_seek.f k a0 a1 a2 a3 a4 a5) (impl_Skip_seek.f (k + 1) a0 a1 a2 a3 a4 a5):=by
  intro a0 a1 a2 a3 a4 a5 k
  obtain ⟨ih0,ih1⟩:=impl_Skip_seek.mono_l k
  unfold impl_Skip_seek.f
  repeat' first|(with_reducible first|exact ih0 _ _ _ _ _ _ _ _ _ _|exact ih1 _ _ _ _ _ _ _ _ _ _|exact impl_itemOrder.mono _ _ _ _ _ _ _ _ _|exact LeO.refl _|exact LeO.none _|refine LeO.ite ?_ ?_|refine LeO.bind ?_ (fun _=>?_))|exact ih0 _ _ _ _ _ _ _ _ _ _|exact ih1 _ _ _ _ _ _ _ _ _ _|exact impl_itemOrder.mono _ _ _ _ _ _ _ _ _|exact LeO.none _|refine LeO.ite ?_ ?_|refine LeO.bind ?_ (fun _=>?_)
def impl_Skip_seek.T8:Bool × List (List Nat × List Nat):=(true,[([],[]),([0],[0]),([1],[1]),([2],[2]),([],[]),([3,4],[3,4]),([5],[5]),([6],[6]),([],[]),([7,8],[7,8]),([9],[9])])
def impl_Skip_seek.B8:List Nat:=[0,1,3,7,0,31,63,127,0,511,1023]
theorem impl_Skip_seek.tab8:rtab .any (opsOf Tryd.f40 8)=impl_Skip_seek.T8:=by kernel_rfl
theorem impl_Skip_seek.bits8:waitsOk impl_Skip_seek.T8.2 impl_Skip_seek.B8=true:=by kernel_rfl
set_option maxHeartbeats 8000000 in
set_option maxRecDepth 100000 in
theorem impl_Skip_seek.calls (k:Nat) (g:Nat) (s0_0:List Int) (s0_1:List (S77)) (a1_0:ByteArray) (a1_1:Int) (a1_2:Int) (a1_3:ByteArray) (r1:List Int) (r2:Int) (w0 w:World) (hI:IsS26 w0 w g s0_0 s0_1) (hB:Below w0.heap.size w0 w) (h:impl_Skip_seek.f k s0_0 s0_1 a1_0 a1_1 a1_2 a1_3=some (r1,r2)) :
    Calls Tryd.prog 40 #[.pointer (some ⟨g,0,none⟩),.agg #[.string a1_0,.int .i64 a1_1,.int .i64 a1_2,.string a1_3]] w fun e w' => ∃ v0_:Value,e = .returned (.tuple #[v0_,.int .i64 r2])∧Kd.R (Kd.int .i64) 3 w' w.heap.size (fun _=>True) v0_ r1∧IsS26 w0 w' g s0_0 s0_1∧Below w0.heap.size w0 w'∧KeepF w w' g none:=by
 have hu28:=Tryd.underlying28
 have HI0:=AsZ.mk hI
 obtain ⟨A0q_,c0q_,A1q_,c1q_,HGq_,_⟩:=hI
 have HGq:=AsZ.mk HGq_
 clear HGq_
 have HK:=AsZ.mk (KeepF.refl w g none)
 have HL:=AsZ.mk hB.size
 have HW0:=AsZ.mk hB.size
 have HB:=AsZ.mk hB
 clear hB
 have H:(if 5≤35184372088832 then (impl_Skip_seek.l0 k (List.replicate 5 0) (-1) 0 4 s0_0 s0_1 a1_0 a1_1 a1_2 a1_3) else (none))=some (r1,r2):=h
 clear h
 by_cases c3:5≤35184372088832
 rotate_left
 · rw [if_neg c3] at H
   exact absurd H (by simp)
 rw [if_pos c3] at H
 have c3b0:=eq_true c3
 have c3b1:decide (5≤35184372088832)=true:=zE c3
 clear c3
 obtain ⟨y250,hy250⟩:∃ y_:List Int,y_=(List.replicate 5 0):=⟨_,rfl⟩
 replace H:(impl_Skip_seek.l0 k y250 (-1) 0 4 s0_0 s0_1 a1_0 a1_1 a1_2 a1_3)=some (r1,r2):=ry hy250 H
 have Ny250:=AsZ.mk hy250
 clear hy250
 have H':=AsZ.mk H
 clear H
 go_enter Tryd.func40,Tryd.ntmps40
 go_wp2_with (first|((with_reducible refine gate_dst (N:=3) rfl ?_);refine bev 3 28 (cs:=#[.string a1_0,.int .i64 a1_1,.int .i64 a1_2,.string a1_3]) ?_;intro gb249 hg w4 hbox hb;have BK249:=AsZ.mk (hbox);have GW249:=AsZ.mk ((by rw [hg];exact (keep_size (w:=w) (g:=g) (row:=none) (kF HK)):w.heap.size≤gb249));have GE249:=AsZ.mk ((Nat.le_trans HW0.out (by rw [hg];exact (keep_size (w:=w) (g:=g) (row:=none) (kF HK)):w.heap.size≤gb249):w0.heap.size≤gb249));have NB0_249:=AsZ.mk ((by rw [hg];exact Nat.ne_of_lt (IsS26.lt (show IsS26 w0 _ g s0_0 s0_1 from st26 HI0)):g ≠ gb249));have NB249_0:=AsZ.mk ((by rw [hg];exact Nat.ne_of_gt (IsS26.lt (show IsS26 w0 _ g s0_0 s0_1 from st26 HI0)):gb249 ≠ g));replace HI0:=AsZ.mk (IsS26.below (st26 HI0) hb);replace HK:=AsZ.mk (KeepF.trans (kF HK) (KeepF.of_below hb g none) (.inl rfl));replace HB:=bp hb;clear hb hbox hg)|((with_reducible refine gate_dst (N:=11) rfl ?_);refine Kd.R_make (Kd.int .i64) _ 3 rfl (N:=11) rfl 23 _ _ rfl 5 rfl rfl Tryd.underlying23 (.int .i64 0) 8 info3 rfl (by decide) (by omega) 0 (ok:=fun _=>True) (okp:=fun _=>True) rfl (fun _ hk=>hk) trivial (by omega) (by omega) (Below.refl _ _) (Nat.le_refl _) ?_;intro v251 w5 ho6 hb hg_ hnew_;clear hg_ hnew_;(first|rw [← Ny250.out] at ho6|(simp only [Int.reduceToNat] at ho6;rw [← Ny250.out] at ho6));have HO252:=AsZ.mk (Kd.R_lower ho6 (keep_size (w:=w) (g:=g) (row:=none) (kF HK)));replace HI0:=AsZ.mk (IsS26.below (st26 HI0) hb);replace BK249:=bb BK249 hb;replace HK:=AsZ.mk (KeepF.trans (kF HK) (KeepF.of_below hb g none) (.inl rfl));replace HB:=bp hb;clear hb ho6))
 go_loopg [7,8,9] k (fun kq v7 v8 v9 w' => ∃ (x6_1:List Int) (x7_1:Int) (x8_1:Int) (x9_1:Int),v7 = .int .i64 x7_1∧v8 = .int .i64 x8_1∧v9 = .int .i64 x9_1∧AsZ (impl_Skip_seek.l0 kq x6_1 x7_1 x8_1 x9_1 s0_0 s0_1 a1_0 a1_1 a1_2 a1_3=some (r1,r2))∧AsZ (kq≤k)∧AsZ (Kd.R (Kd.int .i64) 3 w' w.heap.size (fun _=>True) v251 x6_1)∧AsZ (w'.heap[gb249]? = some (.cells #[.string a1_0,.int .i64 a1_1,.int .i64 a1_2,.string a1_3] 28 (0,0)))∧AsZ (IsS26 w0 w' g s0_0 s0_1)∧AsZ (KeepF w w' g none)∧AsZ (Below w0.heap.size w0 w'))
 case atStart=>exact ⟨(y250),((-1)),(0),(4),rs,rs,rs,H',⟨Nat.le_refl _⟩,⟨kR HO252⟩,⟨bk BK249⟩,⟨st26 HI0⟩,⟨kF HK⟩,⟨bel⟩⟩
 case round =>
  clear H'
  try clear p2
  try clear c3b0
  try clear c3b1
  obtain ⟨x6_1,x7_1,x8_1,x9_1,rfl,rfl,rfl,HA,HK1,HO_6,BK249,HI0,HK,HB⟩:=hrel
  cases gk with
  |zero=>exact absurd HA.out (by simp [impl_Skip_seek.l0])
  |succ k1 =>
   have H:=HA.out
   clear HA
   simp only [impl_Skip_seek.l0] at H
   by_cases c7:x9_1 ≥ 0
   rotate_left
   · rw [if_neg c7] at H
     have c7b0:decide (0≤x9_1)=false:=decide_eq_false c7
     clear c7
     simp only [Option.some.injEq,Prod.mk.injEq] at H
     obtain ⟨rfl,rfl⟩:=H
     go_wp2
     go_ret2
     exact ⟨_,re,kR HO_6,st26 HI0,bel,kF HK⟩
   rw [if_pos c7] at H
   have c7b0:decide (0≤x9_1)=true:=zE c7
   clear c7
   have H':=AsZ.mk H
   clear H
   go_wp2
   go_loopg [7,8] k1 (fun kq v7 v8 w' => ∃ (x7_2:Int) (x8_2:Int),v7 = .int .i64 x7_2∧v8 = .int .i64 x8_2∧AsZ (impl_Skip_seek.l1 kq x6_1 x7_2 x8_2 x9_1 s0_0 s0_1 a1_0 a1_1 a1_2 a1_3=some (r1,r2))∧AsZ (kq≤k1)∧AsZ (Kd.R (Kd.int .i64) 3 w' w.heap.size (fun _=>True) v251 x6_1)∧AsZ (w'.heap[gb249]? = some (.cells #[.string a1_0,.int .i64 a1_1,.int .i64 a1_2,.string a1_3] 28 (0,0)))∧AsZ (IsS26 w0 w' g s0_0 s0_1)∧AsZ (KeepF w w' g none)∧AsZ (Below w0.heap.size w0 w'))
   case atStart=>exact ⟨(x7_1),(x8_1),rs,rs,H',⟨Nat.le_refl _⟩,⟨kR HO_6⟩,⟨bk BK249⟩,⟨st26 HI0⟩,⟨kF HK⟩,⟨bel⟩⟩
   case round =>
    clear H'
    try clear p2
    try clear c3b0
    try clear c3b1
    try clear c7b0
    obtain ⟨x7_2,x8_2,rfl,rfl,HA,HK2,HO_6,BK249,HI0,HK,HB⟩:=hrel
    cases gk with
    |zero=>exact absurd HA.out (by simp [impl_Skip_seek.l1])
    |succ k2 =>
     have H:=HA.out
     clear HA
     simp only [impl_Skip_seek.l1] at H
     replace H:=bs H
     obtain ⟨t253,A8,H⟩:=H
     by_cases c9:t253=(-1)
     · rw [if_pos c9] at H
       have c9b0:(t253 == (-1))=true:=beq_iff_eq.mpr c9
       have c9b1:(t253 != (-1))=false:=bne_eq_false_iff_eq.mpr c9
       clear c9
       by_cases c10:0≤x9_1
       rotate_left
       · rw [if_neg c10] at H
         exact absurd H (by simp)
       rw [if_pos c10] at H
       have c10b0:decide (0≤x9_1)=true:=zE c10
       clear c10
       by_cases c11:x9_1 < (x6_1.length:Int)
       rotate_left
       · rw [if_neg c11] at H
         exact absurd H (by simp)
       rw [if_pos c11] at H
       have c11b0:decide (x9_1 < (x6_1.length:Int))=true:=zE c11
       clear c11
       obtain ⟨y254,hy254⟩:∃ y_:List Int,y_=(x6_1.set (x9_1:Int).toNat x7_2):=⟨_,rfl⟩
       replace H:(impl_Skip_seek.l0 k2 y254 x7_2 x8_2 (wrap64 (x9_1 - 1)) s0_0 s0_1 a1_0 a1_1 a1_2 a1_3)=some (r1,r2):=ry hy254 H
       have Ny254:=AsZ.mk hy254
       clear hy254
       have H':=AsZ.mk H
       clear H
       go_wp2_with (first|((with_reducible refine gcl (f:=41) rfl ?_);refine goesL_ (some 19) rfl rfl Tryd.func41 (by kernel_rfl) rfl #[.pointer (some ⟨g,0,none⟩),.int .i64 x7_2,.int .i64 x9_1] rfl gl ?_;(with_reducible refine (impl_Skip_next.calls g s0_0 s0_1 x7_2 x9_1 t253 w0 _ ?side1 ?side2 A8.out).mono ?_);(case side1=>exact st26 HI0);(case side2=>exact bel);rintro e w' ⟨rfl,⟨nd,rfl⟩⟩;refine ⟨_,rfl,?_⟩;(try (rw [drewN_self wr];generalize hq_:World.drewN wr _=wr;have n0_:AsZ (Kd.R (Kd.int .i64) 3 wr w.heap.size (fun _=>True) v251 x6_1):=⟨by rw [← hq_];exact (kR HO_6)⟩;have n1_:AsZ (wr.heap[gb249]? = some (.cells #[.string a1_0,.int .i64 a1_1,.int .i64 a1_2,.string a1_3] 28 (0,0))):=⟨by rw [← hq_];exact (bk BK249)⟩;have n2_:AsZ (IsS26 w0 wr g s0_0 s0_1):=⟨by rw [← hq_];exact (st26 HI0)⟩;have n3_:AsZ (KeepF w wr g none):=⟨by rw [← hq_];exact (kF HK)⟩;have n4_:AsZ (Below w0.heap.size w0 wr):=⟨by rw [← hq_];exact bel⟩;clear HO_6 BK249 HI0 HK HB hq_;have HO_6:=n0_;have BK249:=n1_;have HI0:=n2_;have HK:=n3_;have HB:=n4_;clear n0_ n1_ n2_ n3_ n4_));have p12:0≤(x9_1:Int):=dd;have q12:(x9_1:Int) < ((x6_1.length:Int):Int):=dd;obtain ⟨go12,co12,eo12,gb12,gl12,cl12,HG12⟩:=Kd.R_form HO_6.out (by omega);(first|cases eo12|(injection eo12 with ea_ en_ ec_;(first|subst ea_|(injection ea_ with ea_;subst ea_));subst ec_;clear en_));have GB12:=AsZ.mk gb12;have GG12:=AsZ.mk HG12;clear gb12 gl12 HG12;obtain ⟨hx12_0,hf12_0⟩:=Kd.R_celln 0 HO_6.out (x9_1:Int) p12 q12;replace p12:=eq_true p12;replace q12:=eq_true q12;obtain ⟨hy13_,hz13_⟩:=Kd.R_celln 0 HO_6.out (x9_1:Int) dd dd;have HP13:=Kd.R_putg HO_6.out (x9_1:Int) x7_2)|((with_reducible refine gate_store (t:=3) (p:=39) rfl ?_);refine store_event (t:=3) (p:=39) (v:=?vo_w14) (w1:=(wr.setCell ⟨go12,(x9_1:Int).toNat,none⟩ (.int .i64 x7_2))) ?hg ?ho ?hn ?hr ?_;(case ho=>rfl);(case hg=>rfl);(case hn=>rfl);(case hr=>first|(go_simp;done)|(go_simp;rfl));intro w14 hw;have hg:wr.grownBy w14 (some go12):=(by rw [hw];exact HP13.2);have hp_:Kd.R (Kd.int .i64) 3 w14 w.heap.size (fun _=>True) (.slice (some ⟨go12,0,none⟩) x6_1.length co12) y254:=(by rw [hw,Ny254.out];exact HP13.1);clear HP13;replace BK249:=AsZ.mk (blk_grown (bk BK249) hg (Kd.R_ne HO_6.out BK249.out (by decide)));replace HI0:=AsZ.mk (IsS26.grown (st26 HI0) hg (IsS26.own_ne HI0.out HO_6.out (by decide)));replace HB:=AsZ.mk ((by rw [hw];exact bws (HB.out) (Nat.le_trans HL.out GB12.out):Below w0.heap.size w0 w14));replace HK:=AsZ.mk (KeepF.put (kF HK) hg (Kd.R_base2 HO_6.out));replace HO_6:=AsZ.mk (hp_);clear hg hw hp_))
       go_roundg k2
       case measure=>have:=HK1.out;have:=HK2.out;omega
       case rel=>exact ⟨(y254),(x7_2),(x8_2),(wrap64 (x9_1 - 1)),rs,rs,rs,H',⟨by have:=HK1.out;have:=HK2.out;omega⟩,⟨kR HO_6⟩,⟨bk BK249⟩,⟨st26 HI0⟩,⟨kF HK⟩,⟨bel⟩⟩
     rw [if_neg c9] at H
     have c9b0:(t253 == (-1))=false:=beq_eq_false_iff_ne.mpr c9
     have c9b1:(t253 != (-1))=true:=bne_iff_ne.mpr c9
     by_cases c15:0≤t253
     rotate_left
     · rw [if_neg c15] at H
       exact absurd H (by simp)
     rw [if_pos c15] at H
     have c15b0:decide (0≤t253)=true:=zE c15
     clear c15
     by_cases c16:t253 < (s0_1.length:Int)
     rotate_left
     · rw [if_neg c16] at H
       exact absurd H (by simp)
     rw [if_pos c16] at H
     have c16b0:decide (t253 < (s0_1.length:Int))=true:=zE c16
     clear c16
     replace H:=bs H
     obtain ⟨t256,A17,H⟩:=H
     by_cases c18:t256 ≥ 0
     rotate_left
     · rw [if_neg c18] at H
       have c18b0:decide (0≤t256)=false:=decide_eq_false c18
       clear c18
       have H':=AsZ.mk H
       clear H
       try go_wp2_with (first|((with_reducible refine gcl (f:=41) rfl ?_);refine goesL_ (some 19) rfl rfl Tryd.func41 (by kernel_rfl) rfl #[.pointer (some ⟨g,0,none⟩),.int .i64 x7_2,.int .i64 x9_1] rfl gl ?_;(with_reducible refine (impl_Skip_next.calls g s0_0 s0_1 x7_2 x9_1 t253 w0 _ ?side1 ?side2 A8.out).mono ?_);(case side1=>exact st26 HI0);(case side2=>exact bel);rintro e w' ⟨rfl,⟨nd,rfl⟩⟩;refine ⟨_,rfl,?_⟩))
       (try (rw [drewN_self wr];generalize hq_:World.drewN wr _=wr;have n0_:AsZ (Kd.R (Kd.int .i64) 3 wr w.heap.size (fun _=>True) v251 x6_1):=⟨by rw [← hq_];exact (kR HO_6)⟩;have n1_:AsZ (wr.heap[gb249]? = some (.cells #[.string a1_0,.int .i64 a1_1,.int .i64 a1_2,.string a1_3] 28 (0,0))):=⟨by rw [← hq_];exact (bk BK249)⟩;have n2_:AsZ (IsS26 w0 wr g s0_0 s0_1):=⟨by rw [← hq_];exact (st26 HI0)⟩;have n3_:AsZ (KeepF w wr g none):=⟨by rw [← hq_];exact (kF HK)⟩;have n4_:AsZ (Below w0.heap.size w0 wr):=⟨by rw [← hq_];exact bel⟩;clear HO_6 BK249 HI0 HK HB hq_;have HO_6:=n0_;have BK249:=n1_;have HI0:=n2_;have HK:=n3_;have HB:=n4_;clear n0_ n1_ n2_ n3_ n4_))
       replace HO_6:=dR HO_6
       replace BK249:=db BK249
       replace HI0:=AsZ.mk (IsS26.drew HI0.out)
       replace HK:=AsZ.mk (KeepF.drew HK.out)
       replace HB:=dB HB
       obtain ⟨ASz28_0,cSz28_0,ASz28_1,cSz28_1,HGz28,hgz28,HSz28_0,HSCz28_0,HSz28_1,HSCz28_1⟩:=HI0.out
       obtain ⟨es0_,es1_,es2_,es3_⟩:=IsS26.same_ HGq.out HK.out HGz28
       subst es0_
       subst es1_
       subst es2_
       subst es3_
       have hcz28_0:=cellS26_0 HGz28
       have hcz28_1:=cellS26_1 HGz28
       clear HGz28 hgz28
       have p255:0≤(t253:Int):=dd
       have q255:t253 < (s0_1.length:Int):=dd
       obtain ⟨ad255,A255_4,c255_4,e255,hx255_0,hx255_1,hx255_2,hx255_3,hx255_4,hl255_4,hi255_4⟩:=at_T77 HSz28_1 t253 p255 q255
       have hw255_4:=hx255_4
       have hw255_3:=hx255_3
       have hw255_2:=hx255_2
       have hw255_1:=hx255_1
       have hw255_0:=hx255_0
       cases e255
       replace hx255_0:=pcb HB.out hx255_0
       replace hx255_1:=pcb HB.out hx255_1
       replace hx255_2:=pcb HB.out hx255_2
       replace hx255_3:=pcb HB.out hx255_3
       replace hx255_4:=pcb HB.out hx255_4
       have HR255_4:=AsZ.mk hi255_4
       have HC255_4:=AsZ.mk hl255_4
       clear hi255_4 hl255_4
       replace p255:=eq_true p255
       replace q255:=eq_true q255
       refine start_ (n:=11) (S:=fun w'=>w'.cell? ⟨g,0,none⟩=some (.slice ASz28_0 s0_0.length cSz28_0)∧w'.cell? ⟨g,1,none⟩=some (.slice (some ad255) s0_1.length cSz28_1)∧w'.cell? ⟨gb249,0,none⟩=some (.string a1_0)∧w'.cell? ⟨gb249,1,none⟩=some (.int .i64 a1_1)∧w'.cell? ⟨gb249,2,none⟩=some (.int .i64 a1_2)∧w'.cell? ⟨gb249,3,none⟩=some (.string a1_3)∧w'.cell? (ad255.add ((t253).toNat * 5))=some (.string ((rd_T77 s0_1 t253).f0.f0))∧w'.cell? ⟨(ad255.add ((t253).toNat * 5)).block,(ad255.add ((t253).toNat * 5)).off + 1,none⟩=some (.int .i64 ((rd_T77 s0_1 t253).f0.f1))∧w'.cell? ⟨(ad255.add ((t253).toNat * 5)).block,(ad255.add ((t253).toNat * 5)).off + 2,none⟩=some (.int .i64 ((rd_T77 s0_1 t253).f0.f2))∧w'.cell? ⟨(ad255.add ((t253).toNat * 5)).block,(ad255.add ((t253).toNat * 5)).off + 3,none⟩=some (.string ((rd_T77 s0_1 t253).f0.f3))∧w'.cell? ⟨(ad255.add ((t253).toNat * 5)).block,(ad255.add ((t253).toNat * 5)).off + 4,none⟩=some (.slice A255_4 ((rd_T77 s0_1 t253).f1).length c255_4)) (ds:=[]) (b_ 0 11) (by kernel_rfl) rfl rfl ⟨hcz28_0,hcz28_1,(kc BK249.out 0).trans rfl,(kc BK249.out 1).trans rfl,(kc BK249.out 2).trans rfl,(kc BK249.out 3).trans rfl,(pcb HB.out hw255_0),(pcb HB.out hw255_1),(pcb HB.out hw255_2),(pcb HB.out hw255_3),(pcb HB.out hw255_4)⟩ (fun hHeld=>?_);refine with_tabW impl_Skip_seek.tab8 impl_Skip_seek.bits8 (fun HT_ HW_=>?_)
       generalize wr.drew=w27 at HO_6 BK249 HI0 HK HB HR255_4 hx255_0 hx255_1 hx255_2 hx255_3 hx255_4 hHeld ⊢
       refine pu 0 24 (b_ 1 10) HT_.out ?_
       refine pu 1 25 (b_ 2 9) HT_.out ?_
       refine pu 2 26 (b_ 3 8) HT_.out ?_
       refine pu 4 28 #[true,true,true,false,true,false,false,false,false,false,false] HT_.out ?_
       refine tk11 3 27 (b_ 5 6) HT_.out HW_.out hHeld ?_
       refine pu 5 29 (b_ 6 5) HT_.out ?_
       refine pu 6 30 (b_ 7 4) HT_.out ?_
       refine tk11 7 31 (b_ 8 3) HT_.out HW_.out hHeld ?_
       refine tk11 8 32 (b_ 9 2) HT_.out HW_.out hHeld ?_
       refine one_ (i:=9) (N:=some 33) (b_ 10 1) rfl rfl (one_of HT_.out (by kernel_rfl)) (by decide) (fun K hK=>?_)
       refine goes_ Tryd.func42 (by kernel_rfl) rfl #[.agg #[.string ((rd_T77 s0_1 t253).f0.f0),.int .i64 ((rd_T77 s0_1 t253).f0.f1),.int .i64 ((rd_T77 s0_1 t253).f0.f2),.string ((rd_T77 s0_1 t253).f0.f3)],.agg #[.string a1_0,.int .i64 a1_1,.int .i64 a1_2,.string a1_3]] (by rfl) rfl rfl gl ?_
       with_reducible refine (impl_itemOrder.calls k2 ((rd_T77 s0_1 t253).f0.f0) ((rd_T77 s0_1 t253).f0.f1) ((rd_T77 s0_1 t253).f0.f2) ((rd_T77 s0_1 t253).f0.f3) a1_0 a1_1 a1_2 a1_3 t256 _ A17.out).mono ?_
       rintro e w29 ⟨rfl,hb⟩
       have HS0_:=(hb.cell (zB _ _ (hHeld.1))).trans (hHeld.1)
       have HS1_:=(hb.cell (zB _ _ (hHeld.2.1))).trans (hHeld.2.1)
       refine ⟨_,rfl,?_⟩
       replace HO_6:=rR HO_6 hb
       replace BK249:=bb BK249 hb
       replace HI0:=AsZ.mk (IsS26.below (st26 HI0) hb)
       replace HK:=AsZ.mk (KeepF.trans (kF HK) (KeepF.of_below hb g none) (.inl rfl))
       replace HB:=bp hb
       (try clear hb)
       (try clear hb2)
       (try clear hk)
       (try clear hi)
       refine hK.out _ _ ⟨HS0_,HS1_,(kc BK249.out 0).trans rfl,(kc BK249.out 1).trans rfl,(kc BK249.out 2).trans rfl,(kc BK249.out 3).trans rfl,(pcb HB.out hw255_0),(pcb HB.out hw255_1),(pcb HB.out hw255_2),(pcb HB.out hw255_3),(pcb HB.out hw255_4)⟩ (fun hHeld=>?_)
       clear hK K
       refine norm_ (a':=?_) ?_ ?_
       rotate_left
       · show Act.put _ (some 33) _=_
         simp only [Act.put,zS,zT,zU,i64_w,i32_w]
         rfl
       refine pu 10 34 (b_ 11 0) HT_.out ?_
       refine dn_ (dnO HT_.out (by kernel_rfl)) ?_
       try go_wp2
       go_roundg k2
       case measure=>have:=HK1.out;have:=HK2.out;omega
       case rel=>exact ⟨(t253),(wrap64 (x8_2 + 1)),rs,rs,H',⟨by have:=HK1.out;have:=HK2.out;omega⟩,⟨kR HO_6⟩,⟨bk BK249⟩,⟨st26 HI0⟩,⟨kF HK⟩,⟨bel⟩⟩
     rw [if_pos c18] at H
     have c18b0:decide (0≤t256)=true:=zE c18
     clear c18
     by_cases c19:0≤x9_1
     rotate_left
     · rw [if_neg c19] at H
       exact absurd H (by simp)
     rw [if_pos c19] at H
     have c19b0:decide (0≤x9_1)=true:=zE c19
     clear c19
     by_cases c20:x9_1 < (x6_1.length:Int)
     rotate_left
     · rw [if_neg c20] at H
       exact absurd H (by simp)
     rw [if_pos c20] at H
     have c20b0:decide (x9_1 < (x6_1.length:Int))=true:=zE c20
     clear c20
     obtain ⟨y257,hy257⟩:∃ y_:List Int,y_=(x6_1.set (x9_1:Int).toNat x7_2):=⟨_,rfl⟩
     replace H:(impl_Skip_seek.l0 k2 y257 x7_2 (wrap64 (x8_2 + 1)) (wrap64 (x9_1 - 1)) s0_0 s0_1 a1_0 a1_1 a1_2 a1_3)=some (r1,r2):=ry hy257 H
     have Ny257:=AsZ.mk hy257
     clear hy257
     have H':=AsZ.mk H
     clear H
     try go_wp2_with (first|((with_reducible refine gcl (f:=41) rfl ?_);refine goesL_ (some 19) rfl rfl Tryd.func41 (by kernel_rfl) rfl #[.pointer (some ⟨g,0,none⟩),.int .i64 x7_2,.int .i64 x9_1] rfl gl ?_;(with_reducible refine (impl_Skip_next.calls g s0_0 s0_1 x7_2 x9_1 t253 w0 _ ?side1 ?side2 A8.out).mono ?_);(case side1=>exact st26 HI0);(case side2=>exact bel);rintro e w' ⟨rfl,⟨nd,rfl⟩⟩;refine ⟨_,rfl,?_⟩;(try (rw [drewN_self wr];generalize hq_:World.drewN wr _=wr;have n0_:AsZ (Kd.R (Kd.int .i64) 3 wr w.heap.size (fun _=>True) v251 x6_1):=⟨by rw [← hq_];exact (kR HO_6)⟩;have n1_:AsZ (wr.heap[gb249]? = some (.cells #[.string a1_0,.int .i64 a1_1,.int .i64 a1_2,.string a1_3] 28 (0,0))):=⟨by rw [← hq_];exact (bk BK249)⟩;have n2_:AsZ (IsS26 w0 wr g s0_0 s0_1):=⟨by rw [← hq_];exact (st26 HI0)⟩;have n3_:AsZ (KeepF w wr g none):=⟨by rw [← hq_];exact (kF HK)⟩;have n4_:AsZ (Below w0.heap.size w0 wr):=⟨by rw [← hq_];exact bel⟩;clear HO_6 BK249 HI0 HK HB hq_;have HO_6:=n0_;have BK249:=n1_;have HI0:=n2_;have HK:=n3_;have HB:=n4_;clear n0_ n1_ n2_ n3_ n4_))))
     replace HO_6:=dR HO_6
     replace BK249:=db BK249
     replace HI0:=AsZ.mk (IsS26.drew HI0.out)
     replace HK:=AsZ.mk (KeepF.drew HK.out)
     replace HB:=dB HB
     obtain ⟨ASz23_0,cSz23_0,ASz23_1,cSz23_1,HGz23,hgz23,HSz23_0,HSCz23_0,HSz23_1,HSCz23_1⟩:=HI0.out
     obtain ⟨es0_,es1_,es2_,es3_⟩:=IsS26.same_ HGq.out HK.out HGz23
     subst es0_
     subst es1_
     subst es2_
     subst es3_
     have hcz23_0:=cellS26_0 HGz23
     have hcz23_1:=cellS26_1 HGz23
     clear HGz23 hgz23
     have p255:0≤(t253:Int):=dd
     have q255:t253 < (s0_1.length:Int):=dd
     obtain ⟨ad255,A255_4,c255_4,e255,hx255_0,hx255_1,hx255_2,hx255_3,hx255_4,hl255_4,hi255_4⟩:=at_T77 HSz23_1 t253 p255 q255
     have hw255_4:=hx255_4
     have hw255_3:=hx255_3
     have hw255_2:=hx255_2
     have hw255_1:=hx255_1
     have hw255_0:=hx255_0
     cases e255
     replace hx255_0:=pcb HB.out hx255_0
     replace hx255_1:=pcb HB.out hx255_1
     replace hx255_2:=pcb HB.out hx255_2
     replace hx255_3:=pcb HB.out hx255_3
     replace hx255_4:=pcb HB.out hx255_4
     have HR255_4:=AsZ.mk hi255_4
     have HC255_4:=AsZ.mk hl255_4
     clear hi255_4 hl255_4
     replace p255:=eq_true p255
     replace q255:=eq_true q255
     refine start_ (n:=11) (S:=fun w'=>w'.cell? ⟨g,0,none⟩=some (.slice ASz23_0 s0_0.length cSz23_0)∧w'.cell? ⟨g,1,none⟩=some (.slice (some ad255) s0_1.length cSz23_1)∧w'.cell? ⟨gb249,0,none⟩=some (.string a1_0)∧w'.cell? ⟨gb249,1,none⟩=some (.int .i64 a1_1)∧w'.cell? ⟨gb249,2,none⟩=some (.int .i64 a1_2)∧w'.cell? ⟨gb249,3,none⟩=some (.string a1_3)∧w'.cell? (ad255.add ((t253).toNat * 5))=some (.string ((rd_T77 s0_1 t253).f0.f0))∧w'.cell? ⟨(ad255.add ((t253).toNat * 5)).block,(ad255.add ((t253).toNat * 5)).off + 1,none⟩=some (.int .i64 ((rd_T77 s0_1 t253).f0.f1))∧w'.cell? ⟨(ad255.add ((t253).toNat * 5)).block,(ad255.add ((t253).toNat * 5)).off + 2,none⟩=some (.int .i64 ((rd_T77 s0_1 t253).f0.f2))∧w'.cell? ⟨(ad255.add ((t253).toNat * 5)).block,(ad255.add ((t253).toNat * 5)).off + 3,none⟩=some (.string ((rd_T77 s0_1 t253).f0.f3))∧w'.cell? ⟨(ad255.add ((t253).toNat * 5)).block,(ad255.add ((t253).toNat * 5)).off + 4,none⟩=some (.slice A255_4 ((rd_T77 s0_1 t253).f1).length c255_4)) (ds:=[]) (b_ 0 11) (by kernel_rfl) rfl rfl ⟨hcz23_0,hcz23_1,(kc BK249.out 0).trans rfl,(kc BK249.out 1).trans rfl,(kc BK249.out 2).trans rfl,(kc BK249.out 3).trans rfl,(pcb HB.out hw255_0),(pcb HB.out hw255_1),(pcb HB.out hw255_2),(pcb HB.out hw255_3),(pcb HB.out hw255_4)⟩ (fun hHeld=>?_);refine with_tabW impl_Skip_seek.tab8 impl_Skip_seek.bits8 (fun HT_ HW_=>?_)
     generalize wr.drew=w22 at HO_6 BK249 HI0 HK HB HR255_4 hx255_0 hx255_1 hx255_2 hx255_3 hx255_4 hHeld ⊢
     refine pu 0 24 (b_ 1 10) HT_.out ?_
     refine pu 1 25 (b_ 2 9) HT_.out ?_
     refine pu 2 26 (b_ 3 8) HT_.out ?_
     refine pu 4 28 #[true,true,true,false,true,false,false,false,false,false,false] HT_.out ?_
     refine tk11 3 27 (b_ 5 6) HT_.out HW_.out hHeld ?_
     refine pu 5 29 (b_ 6 5) HT_.out ?_
     refine pu 6 30 (b_ 7 4) HT_.out ?_
     refine tk11 7 31 (b_ 8 3) HT_.out HW_.out hHeld ?_
     refine tk11 8 32 (b_ 9 2) HT_.out HW_.out hHeld ?_
     refine one_ (i:=9) (N:=some 33) (b_ 10 1) rfl rfl (one_of HT_.out (by kernel_rfl)) (by decide) (fun K hK=>?_)
     refine goes_ Tryd.func42 (by kernel_rfl) rfl #[.agg #[.string ((rd_T77 s0_1 t253).f0.f0),.int .i64 ((rd_T77 s0_1 t253).f0.f1),.int .i64 ((rd_T77 s0_1 t253).f0.f2),.string ((rd_T77 s0_1 t253).f0.f3)],.agg #[.string a1_0,.int .i64 a1_1,.int .i64 a1_2,.string a1_3]] (by rfl) rfl rfl gl ?_
     with_reducible refine (impl_itemOrder.calls k2 ((rd_T77 s0_1 t253).f0.f0) ((rd_T77 s0_1 t253).f0.f1) ((rd_T77 s0_1 t253).f0.f2) ((rd_T77 s0_1 t253).f0.f3) a1_0 a1_1 a1_2 a1_3 t256 _ A17.out).mono ?_
     rintro e w24 ⟨rfl,hb⟩
     have HS0_:=(hb.cell (zB _ _ (hHeld.1))).trans (hHeld.1)
     have HS1_:=(hb.cell (zB _ _ (hHeld.2.1))).trans (hHeld.2.1)
     refine ⟨_,rfl,?_⟩
     replace HO_6:=rR HO_6 hb
     replace BK249:=bb BK249 hb
     replace HI0:=AsZ.mk (IsS26.below (st26 HI0) hb)
     replace HK:=AsZ.mk (KeepF.trans (kF HK) (KeepF.of_below hb g none) (.inl rfl))
     replace HB:=bp hb
     (try clear hb)
     (try clear hb2)
     (try clear hk)
     (try clear hi)
     refine hK.out _ _ ⟨HS0_,HS1_,(kc BK249.out 0).trans rfl,(kc BK249.out 1).trans rfl,(kc BK249.out 2).trans rfl,(kc BK249.out 3).trans rfl,(pcb HB.out hw255_0),(pcb HB.out hw255_1),(pcb HB.out hw255_2),(pcb HB.out hw255_3),(pcb HB.out hw255_4)⟩ (fun hHeld=>?_)
     clear hK K
     refine norm_ (a':=?_) ?_ ?_
     rotate_left
     · show Act.put _ (some 33) _=_
       simp only [Act.put,zS,zT,zU,i64_w,i32_w]
       rfl
     refine pu 10 34 (b_ 11 0) HT_.out ?_
     refine dn_ (dnO HT_.out (by kernel_rfl)) ?_
     have p21:0≤(x9_1:Int):=dd
     have q21:(x9_1:Int) < ((x6_1.length:Int):Int):=dd
     obtain ⟨go21,co21,eo21,gb21,gl21,cl21,HG21⟩:=Kd.R_form HO_6.out (by omega)
     (first|cases eo21|(injection eo21 with ea_ en_ ec_;(first|subst ea_|(injection ea_ with ea_;subst ea_));subst ec_;clear en_))
     have GB21:=AsZ.mk gb21
     have GG21:=AsZ.mk HG21
     clear gb21 gl21 HG21
     obtain ⟨hx21_0,hf21_0⟩:=Kd.R_celln 0 HO_6.out (x9_1:Int) p21 q21
     replace p21:=eq_true p21
     replace q21:=eq_true q21
     obtain ⟨hy25_,hz25_⟩:=Kd.R_celln 0 HO_6.out (x9_1:Int) dd dd
     have HP25:=Kd.R_putg HO_6.out (x9_1:Int) x7_2
     try go_wp2_with (first|((with_reducible refine gate_store (t:=3) (p:=39) rfl ?_);refine store_event (t:=3) (p:=39) (v:=?vo_w26) (w1:=(w24.setCell ⟨go21,(x9_1:Int).toNat,none⟩ (.int .i64 x7_2))) ?hg ?ho ?hn ?hr ?_;(case ho=>rfl);(case hg=>rfl);(case hn=>rfl);(case hr=>first|(go_simp;done)|(go_simp;rfl));intro w26 hw;have hg:w24.grownBy w26 (some go21):=(by rw [hw];exact HP25.2);have hp_:Kd.R (Kd.int .i64) 3 w26 w.heap.size (fun _=>True) (.slice (some ⟨go21,0,none⟩) x6_1.length co21) y257:=(by rw [hw,Ny257.out];exact HP25.1);clear HP25;replace BK249:=AsZ.mk (blk_grown (bk BK249) hg (Kd.R_ne HO_6.out BK249.out (by decide)));replace HI0:=AsZ.mk (IsS26.grown (st26 HI0) hg (IsS26.own_ne HI0.out HO_6.out (by decide)));replace HB:=AsZ.mk ((by rw [hw];exact bws (HB.out) (Nat.le_trans HL.out GB21.out):Below w0.heap.size w0 w26));replace HK:=AsZ.mk (KeepF.put (kF HK) hg (Kd.R_base2 HO_6.out));replace HO_6:=AsZ.mk (hp_);clear hg hw hp_))
     go_roundg k2
     case measure=>have:=HK1.out;have:=HK2.out;omega
     case rel=>exact ⟨(y257),(x7_2),(wrap64 (x8_2 + 1)),(wrap64 (x9_1 - 1)),rs,rs,rs,H',⟨by have:=HK1.out;have:=HK2.out;omega⟩,⟨kR HO_6⟩,⟨bk BK249⟩,⟨st26 HI0⟩,⟨kF HK⟩,⟨bel⟩⟩
end Go.Proofs.YtffjlpphcjfdgaaDoor.MFnFound
