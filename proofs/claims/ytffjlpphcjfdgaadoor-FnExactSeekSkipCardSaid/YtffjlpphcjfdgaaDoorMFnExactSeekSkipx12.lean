-- Written by a program of this session out of the translation. Not trusted: Lean checks it.
import Derived.Test.YtffjlpphcjfdgaaDoorMFnExactSeekSkipx0
import Derived.Test.YtffjlpphcjfdgaaDoorMFnExactSeekSkipx1
import Derived.Test.YtffjlpphcjfdgaaDoorMFnExactSeekSkipx2
import Derived.Test.YtffjlpphcjfdgaaDoorMFnExactSeekSkipx7
import Derived.Test.YtffjlpphcjfdgaaDoorMFnExactSeekSkipx11
namespace Go.Proofs.YtffjlpphcjfdgaaDoor.MFnExactSeekSkip
-- short
-- shrunk
-- TAB
-- RD
open Go.Proofs.YtffjlpphcjfdgaaDoor Go.RowKit Go.Proofs.YtffjlpphcjfdgaaDoorW.PrintWords Go.Proofs.YtffjlpphcjfdgaaDoorW.PrintLast Go.Proofs.YtffjlpphcjfdgaaDoorW.PrintMore Go.Proofs.YtffjlpphcjfdgaaDoorX
attribute [local go_sem] max2_int min2_int max_two min_two max_three min_three max_four min_four str_gtr str_leq str_geq cell_twice
set_option linter.unusedVariables false
set_option linter.unusedSimpArgs false
/-! ### laws_FnExactSeekSkip: function 8 -/
def laws_FnExactSeekSkip.j0:Nat→Bool→List Int→List (S113)→List Int→List (S77)→Option (Bool)
  |0,_,_,_,_,_=>none
  |k + 1,x55,x319000,x319001,x340000,x340001=>if x55=true then (some false) else ((laws_toSkip.f k x319000 x319001).bind fun bt348=>((laws_eqSkip.f k x340000 x340001 bt348.1 bt348.2).bind fun t354=>(if t354=true then (some true) else (some false))))
def laws_FnExactSeekSkip.f (k:Nat) (l0_0:List Int) (l0_1:List (S113)) (a1:ByteArray) (a2:Int):Option (Bool):=if (a1.size:Int) > 1048576 then (some true) else ((laws_szSkip.f k l0_0 l0_1 1048576).bind fun t319=>(if t319 < 0 then (some true) else ((laws_toSkip.f k l0_0 l0_1).bind fun bt320=>((spec_SeekSkip.f k bt320.1 bt320.2 a1 a2).bind fun bt326=>((laws_toSkip.f k l0_0 l0_1).bind fun bt333=>((impl_SeekSkip.f k bt333.1 bt333.2 a1 a2).bind fun bt340=>((laws_eqItem.f bt340.1 bt340.2.1 bt340.2.2.1 bt340.2.2.2.1 bt326.1 bt326.2.1 bt326.2.2.1 bt326.2.2.2.1).bind fun t347=>(if t347=true then (if bt340.2.2.2.2.1=bt326.2.2.2.2.1 then (laws_FnExactSeekSkip.j0 k (bt340.2.2.2.2.2 != bt326.2.2.2.2.2) l0_0 l0_1 bt333.1 bt333.2) else (laws_FnExactSeekSkip.j0 k true l0_0 l0_1 bt333.1 bt333.2)) else (laws_FnExactSeekSkip.j0 k true l0_0 l0_1 bt333.1 bt333.2)))))))))
theorem laws_FnExactSeekSkip.mono_l:∀ k,(∀ y0 y1 y2 y3 y4,LeO (laws_FnExactSeekSkip.j0 k y0 y1 y2 y3 y4) (laws_FnExactSeekSkip.j0 (k + 1) y0 y1 y2 y3 y4))
  |0=>fun _ _ _ _ _ r h=>by simp [laws_FnExactSeekSkip.j0] at h
  |k + 1=>by
    have ih0:=laws_FnExactSeekSkip.mono_l k
    · intro y0 y1 y2 y3 y4
      unfold laws_FnExactSeekSkip.j0
      repeat' first
      |(with_reducible exact ih0 _ _ _ _ _)
      |(with_reducible exact impl_SeekSkip.mono _ _ _ _ _)
      |(with_reducible exact laws_eqSkip.mono _ _ _ _ _)
      |(with_reducible exact laws_szSkip.mono _ _ _ _)
      |(with_reducible exact laws_toSkip.mono _ _ _)
      |(with_reducible exact spec_SeekSkip.mono _ _ _ _ _)
      |(with_reducible exact LeO.refl _)
      |(with_reducible exact LeO.none _)
      |(with_reducible refine LeO.ite ?_ ?_)
      |(with_reducible refine LeO.bind ?_ (fun _=>?_))
      |exact ih0 _ _ _ _ _
      |exact impl_SeekSkip.mono _ _ _ _ _
      |exact laws_eqSkip.mono _ _ _ _ _
      |exact laws_szSkip.mono _ _ _ _
      |exact laws_toSkip.mono _ _ _
      |exact spec_SeekSkip.mono _ _ _ _ _
      |exact LeO.none _
      |refine LeO.ite ?_ ?_
      |refine LeO.bind ?_ (fun _=>?_)
theorem laws_FnExactSeekSkip.mono:∀ a0 a1 a2 a3 k,LeO (laws_FnExactSeekSkip.f k a0 a1 a2 a3) (laws_FnExactSeekSkip.f (k + 1) a0 a1 a2 a3):=by
  intro a0 a1 a2 a3 k
  have ih0:=laws_FnExactSeekSkip.mono_l k
  unfold laws_FnExactSeekSkip.f
  repeat' first
      |(with_reducible exact ih0 _ _ _ _ _)
      |(with_reducible exact impl_SeekSkip.mono _ _ _ _ _)
      |(with_reducible exact laws_eqSkip.mono _ _ _ _ _)
      |(with_reducible exact laws_szSkip.mono _ _ _ _)
      |(with_reducible exact laws_toSkip.mono _ _ _)
      |(with_reducible exact spec_SeekSkip.mono _ _ _ _ _)
      |(with_reducible exact LeO.refl _)
      |(with_reducible exact LeO.none _)
      |(with_reducible refine LeO.ite ?_ ?_)
      |(with_reducible refine LeO.bind ?_ (fun _=>?_))
      |exact ih0 _ _ _ _ _
      |exact impl_SeekSkip.mono _ _ _ _ _
      |exact laws_eqSkip.mono _ _ _ _ _
      |exact laws_szSkip.mono _ _ _ _
      |exact laws_toSkip.mono _ _ _
      |exact spec_SeekSkip.mono _ _ _ _ _
      |exact LeO.none _
      |refine LeO.ite ?_ ?_
      |refine LeO.bind ?_ (fun _=>?_)
set_option maxHeartbeats 8000000 in
set_option maxRecDepth 100000 in
theorem laws_FnExactSeekSkip.calls (k:Nat) (A0_0:Option Addr) (c0_0:Nat) (l0_0:List Int) (A0_1:Option Addr) (c0_1:Nat) (l0_1:List (S113)) (a1:ByteArray) (a2:Int) (r:Bool) (w:World) (hr0_0:Kd.C (Kd.int .i64) w A0_0 l0_0.length l0_0) (hc0_0:l0_0.length≤c0_0) (hr0_1:Kd.C k113 w A0_1 l0_1.length l0_1) (hc0_1:l0_1.length≤c0_1) (hT:Tab w) (h:laws_FnExactSeekSkip.f k l0_0 l0_1 a1 a2=some r) :
    Calls Tryd.prog 8 #[.agg #[.slice A0_0 l0_0.length c0_0,.slice A0_1 l0_1.length c0_1],.string a1,.int .i64 a2] w fun e w'=>e = .returned (.bool r)∧Below w.heap.size w w':=by
 have HT:=AsZ.mk hT
 clear hT
 have hu43:=Tryd.underlying43
 have hu28:=Tryd.underlying28
 have hu26:=Tryd.underlying26
 have HR0_0:=AsZ.mk hr0_0
 have HC0_0:=AsZ.mk hc0_0
 clear hr0_0 hc0_0
 have HR0_1:=AsZ.mk hr0_1
 have HC0_1:=AsZ.mk hc0_1
 clear hr0_1 hc0_1
 have HB:=AsZ.mk (Below.refl w.heap.size w)
 have H:(if (a1.size:Int) > 1048576 then (some true) else ((laws_szSkip.f k l0_0 l0_1 1048576).bind fun t319=>(if t319 < 0 then (some true) else ((laws_toSkip.f k l0_0 l0_1).bind fun bt320=>((spec_SeekSkip.f k bt320.1 bt320.2 a1 a2).bind fun bt326=>((laws_toSkip.f k l0_0 l0_1).bind fun bt333=>((impl_SeekSkip.f k bt333.1 bt333.2 a1 a2).bind fun bt340=>((laws_eqItem.f bt340.1 bt340.2.1 bt340.2.2.1 bt340.2.2.2.1 bt326.1 bt326.2.1 bt326.2.2.1 bt326.2.2.2.1).bind fun t347=>(if t347=true then (if bt340.2.2.2.2.1=bt326.2.2.2.2.1 then (laws_FnExactSeekSkip.j0 k (bt340.2.2.2.2.2 != bt326.2.2.2.2.2) l0_0 l0_1 bt333.1 bt333.2) else (laws_FnExactSeekSkip.j0 k true l0_0 l0_1 bt333.1 bt333.2)) else (laws_FnExactSeekSkip.j0 k true l0_0 l0_1 bt333.1 bt333.2))))))))))=some r:=h
 clear h
 by_cases c4:(a1.size:Int) > 1048576
 · rw [if_pos c4] at H
   have c4b0:decide (1048576 < (a1.size:Int))=true:=zE c4
   have c4b1:decide (1048576 < a1.size)=true:=zE (by omega)
   clear c4
   obtain rfl:=zI H
   go_enter Tryd.func8,Tryd.ntmps8
   go_wp2_with (first|((with_reducible refine gate_dst (N:=3) rfl ?_);refine box_event ?hg (N:=3) ?hd (cs:=#[.slice A0_0 l0_0.length c0_0,.slice A0_1 l0_1.length c0_1]) (t:=43) ?hr ?_;(case hd=>rfl);(case hg=>rfl);(case hr=>first|(go_simp;done)|(go_simp;rfl));intro gb318 hg w5 hbox hb;have n0_:=AsZ.mk (bwp (by repeat (first|(with_reducible first|exact HB.out|apply bwa|apply pbN|apply bw1)|exact HB.out)) hb);have n1_:=AsZ.mk (hbox);have n2_:=AsZ.mk ((by rw [hg];exact (bwz (by repeat (first|(with_reducible first|exact HB.out|apply bwa|apply pbN|apply bw1)|exact HB.out))):w.heap.size≤gb318));have n3_:=AsZ.mk ((by rw [hg];exact (bwz (by repeat (first|(with_reducible first|exact HB.out|apply bwa|apply pbN|apply bw1)|exact HB.out))):w.heap.size≤gb318));clear HB;have HB:=n0_;have BK318:=n1_;have GW318:=n2_;have GE318:=n3_;clear n0_ n1_ n2_ n3_;clear hb hbox hg))
   go_ret
   exact ⟨by first|rfl|(simp [errW_none,errW_some]<;>rfl)|(simp [*,errW_none,errW_some]<;>rfl),by repeat (first|(with_reducible first|exact HB.out|apply bwa|apply pbN|apply bw1|refine bws ?_ GE318.out)|exact HB.out)⟩
 rw [if_neg c4] at H
 have c4b0:decide (1048576 < (a1.size:Int))=false:=decide_eq_false c4
 have c4b1:decide (1048576 < a1.size)=false:=decide_eq_false (by omega)
 clear c4
 replace H:=Option.bind_eq_some_iff.mp H
 obtain ⟨t319,A60,H⟩:=H
 replace H:(if t319 < 0 then (some true) else ((laws_toSkip.f k l0_0 l0_1).bind fun bt320=>((spec_SeekSkip.f k bt320.1 bt320.2 a1 a2).bind fun bt326=>((laws_toSkip.f k l0_0 l0_1).bind fun bt333=>((impl_SeekSkip.f k bt333.1 bt333.2 a1 a2).bind fun bt340=>((laws_eqItem.f bt340.1 bt340.2.1 bt340.2.2.1 bt340.2.2.2.1 bt326.1 bt326.2.1 bt326.2.2.1 bt326.2.2.2.1).bind fun t347=>(if t347=true then (if bt340.2.2.2.2.1=bt326.2.2.2.2.1 then (laws_FnExactSeekSkip.j0 k (bt340.2.2.2.2.2 != bt326.2.2.2.2.2) l0_0 l0_1 bt333.1 bt333.2) else (laws_FnExactSeekSkip.j0 k true l0_0 l0_1 bt333.1 bt333.2)) else (laws_FnExactSeekSkip.j0 k true l0_0 l0_1 bt333.1 bt333.2))))))))=some r:=H
 have A6:=AsZ.mk A60
 clear A60
 by_cases c7:t319 < 0
 · rw [if_pos c7] at H
   have c7b0:decide (t319 < 0)=true:=zE c7
   clear c7
   obtain rfl:=zI H
   go_enter Tryd.func8,Tryd.ntmps8
   go_wp2_with (first|((with_reducible refine gate_dst (N:=3) rfl ?_);refine box_event ?hg (N:=3) ?hd (cs:=#[.slice A0_0 l0_0.length c0_0,.slice A0_1 l0_1.length c0_1]) (t:=43) ?hr ?_;(case hd=>rfl);(case hg=>rfl);(case hr=>first|(go_simp;done)|(go_simp;rfl));intro gb318 hg w8 hbox hb;have n0_:=AsZ.mk (bwp (by repeat (first|(with_reducible first|exact HB.out|apply bwa|apply pbN|apply bw1)|exact HB.out)) hb);have n1_:=AsZ.mk (hbox);have n2_:=AsZ.mk ((by rw [hg];exact (bwz (by repeat (first|(with_reducible first|exact HB.out|apply bwa|apply pbN|apply bw1)|exact HB.out))):w.heap.size≤gb318));have n3_:=AsZ.mk ((by rw [hg];exact (bwz (by repeat (first|(with_reducible first|exact HB.out|apply bwa|apply pbN|apply bw1)|exact HB.out))):w.heap.size≤gb318));clear HB;have HB:=n0_;have BK318:=n1_;have GW318:=n2_;have GE318:=n3_;clear n0_ n1_ n2_ n3_;clear hb hbox hg;have hcz9_0:w8.cell? ⟨gb318,0,none⟩=some (.slice A0_0 l0_0.length c0_0):=(kc BK318.out 0).trans rfl;have hcz9_1:w8.cell? ⟨gb318,1,none⟩=some (.slice A0_1 l0_1.length c0_1):=(kc BK318.out 1).trans rfl;have hfz9_0:=kf BK318.out 0;have hfz9_1:=kf BK318.out 1)|((with_reducible refine gcl (f:=18) rfl ?_);refine goesL_ (some 20) rfl rfl Tryd.func18 (by kernel_rfl) rfl #[.agg #[.slice A0_0 l0_0.length c0_0,.slice A0_1 l0_1.length c0_1],.int .i64 1048576] rfl (by (try simp only [zA,zC,zN]);first|done|rfl|(simp only [zM,zL];rfl)) ?_;(with_reducible refine (laws_szSkip.calls k _ _ l0_0 _ _ l0_1 1048576 t319 _ ?side1 ?side2 ?side3 ?side4 A6.out).mono ?_);(case side1=>repeat (first|exact (Kd.C_below HR0_0.out HB.out)|(with_reducible refine Kd.C_alloc ?_ _)|(with_reducible refine Kd.C_drewN ?_ _)|(with_reducible refine Kd.C_drew ?_)));(case side2=>exact HC0_0.out);(case side3=>repeat (first|exact (Kd.C_below HR0_1.out HB.out)|(with_reducible refine Kd.C_alloc ?_ _)|(with_reducible refine Kd.C_drewN ?_ _)|(with_reducible refine Kd.C_drew ?_)));(case side4=>exact HC0_1.out);rintro e w10 ⟨rfl,hb⟩;refine ⟨_,rfl,?_⟩;have n0_:=AsZ.mk (kb (g:=gb318) (o := .cells #[.slice A0_0 l0_0.length c0_0,.slice A0_1 l0_1.length c0_1] 43 (0,0)) (by (with_reducible repeat (first|refine kdN ?_ _|refine kd ?_|refine ka ?_ _));exact BK318.out) hb);have n1_:=AsZ.mk (bwp (by repeat (first|(with_reducible first|exact HB.out|apply bwa|apply pbN|apply bw1|refine bws ?_ GE318.out)|exact HB.out)) hb);clear BK318;clear HB;have BK318:=n0_;have HB:=n1_;clear n0_ n1_;(try clear hb);(try clear hb2);(try clear hk);(try clear hi)))
   go_ret
   exact ⟨by first|rfl|(simp [errW_none,errW_some]<;>rfl)|(simp [*,errW_none,errW_some]<;>rfl),by repeat (first|(with_reducible first|exact HB.out|apply bwa|apply pbN|apply bw1|refine bws ?_ GE318.out)|exact HB.out)⟩
 rw [if_neg c7] at H
 have c7b0:decide (t319 < 0)=false:=decide_eq_false c7
 clear c7
 replace H:=Option.bind_eq_some_iff.mp H
 obtain ⟨⟨t320,t323⟩,A110,H⟩:=H
 replace H:((spec_SeekSkip.f k t320 t323 a1 a2).bind fun bt326=>((laws_toSkip.f k l0_0 l0_1).bind fun bt333=>((impl_SeekSkip.f k bt333.1 bt333.2 a1 a2).bind fun bt340=>((laws_eqItem.f bt340.1 bt340.2.1 bt340.2.2.1 bt340.2.2.2.1 bt326.1 bt326.2.1 bt326.2.2.1 bt326.2.2.2.1).bind fun t347=>(if t347=true then (if bt340.2.2.2.2.1=bt326.2.2.2.2.1 then (laws_FnExactSeekSkip.j0 k (bt340.2.2.2.2.2 != bt326.2.2.2.2.2) l0_0 l0_1 bt333.1 bt333.2) else (laws_FnExactSeekSkip.j0 k true l0_0 l0_1 bt333.1 bt333.2)) else (laws_FnExactSeekSkip.j0 k true l0_0 l0_1 bt333.1 bt333.2))))))=some r:=H
 have A11:=AsZ.mk A110
 clear A110
 replace H:=Option.bind_eq_some_iff.mp H
 obtain ⟨⟨t326,t327,t328,t329,t330,t331⟩,A120,H⟩:=H
 replace H:((laws_toSkip.f k l0_0 l0_1).bind fun bt333=>((impl_SeekSkip.f k bt333.1 bt333.2 a1 a2).bind fun bt340=>((laws_eqItem.f bt340.1 bt340.2.1 bt340.2.2.1 bt340.2.2.2.1 t326 t327 t328 t329).bind fun t347=>(if t347=true then (if bt340.2.2.2.2.1=t330 then (laws_FnExactSeekSkip.j0 k (bt340.2.2.2.2.2 != t331) l0_0 l0_1 bt333.1 bt333.2) else (laws_FnExactSeekSkip.j0 k true l0_0 l0_1 bt333.1 bt333.2)) else (laws_FnExactSeekSkip.j0 k true l0_0 l0_1 bt333.1 bt333.2)))))=some r:=H
 have A12:=AsZ.mk A120
 clear A120
 replace H:=Option.bind_eq_some_iff.mp H
 obtain ⟨⟨t333,t336⟩,A130,H⟩:=H
 replace H:((impl_SeekSkip.f k t333 t336 a1 a2).bind fun bt340=>((laws_eqItem.f bt340.1 bt340.2.1 bt340.2.2.1 bt340.2.2.2.1 t326 t327 t328 t329).bind fun t347=>(if t347=true then (if bt340.2.2.2.2.1=t330 then (laws_FnExactSeekSkip.j0 k (bt340.2.2.2.2.2 != t331) l0_0 l0_1 t333 t336) else (laws_FnExactSeekSkip.j0 k true l0_0 l0_1 t333 t336)) else (laws_FnExactSeekSkip.j0 k true l0_0 l0_1 t333 t336))))=some r:=H
 have A13:=AsZ.mk A130
 clear A130
 replace H:=Option.bind_eq_some_iff.mp H
 obtain ⟨⟨t340,t341,t342,t343,t344,t345⟩,A140,H⟩:=H
 replace H:((laws_eqItem.f t340 t341 t342 t343 t326 t327 t328 t329).bind fun t347=>(if t347=true then (if t344=t330 then (laws_FnExactSeekSkip.j0 k (t345 != t331) l0_0 l0_1 t333 t336) else (laws_FnExactSeekSkip.j0 k true l0_0 l0_1 t333 t336)) else (laws_FnExactSeekSkip.j0 k true l0_0 l0_1 t333 t336)))=some r:=H
 have A14:=AsZ.mk A140
 clear A140
 have HC15:=AsZ.mk H
 clear H
 go_enter Tryd.func8,Tryd.ntmps8
 go_upto_region 10 with (first|((with_reducible refine gate_dst (N:=3) rfl ?_);refine box_event ?hg (N:=3) ?hd (cs:=#[.slice A0_0 l0_0.length c0_0,.slice A0_1 l0_1.length c0_1]) (t:=43) ?hr ?_;(case hd=>rfl);(case hg=>rfl);(case hr=>first|(go_simp;done)|(go_simp;rfl));intro gb318 hg w16 hbox hb;have n0_:=AsZ.mk (bwp (by repeat (first|(with_reducible first|exact HB.out|apply bwa|apply pbN|apply bw1)|exact HB.out)) hb);have n1_:=AsZ.mk (hbox);have n2_:=AsZ.mk ((by rw [hg];exact (bwz (by repeat (first|(with_reducible first|exact HB.out|apply bwa|apply pbN|apply bw1)|exact HB.out))):w.heap.size≤gb318));have n3_:=AsZ.mk ((by rw [hg];exact (bwz (by repeat (first|(with_reducible first|exact HB.out|apply bwa|apply pbN|apply bw1)|exact HB.out))):w.heap.size≤gb318));clear HB;have HB:=n0_;have BK318:=n1_;have GW318:=n2_;have GE318:=n3_;clear n0_ n1_ n2_ n3_;clear hb hbox hg;have hcz17_0:w16.cell? ⟨gb318,0,none⟩=some (.slice A0_0 l0_0.length c0_0):=(kc BK318.out 0).trans rfl;have hcz17_1:w16.cell? ⟨gb318,1,none⟩=some (.slice A0_1 l0_1.length c0_1):=(kc BK318.out 1).trans rfl;have hfz17_0:=kf BK318.out 0;have hfz17_1:=kf BK318.out 1)|((with_reducible refine gcl (f:=18) rfl ?_);refine goesL_ (some 20) rfl rfl Tryd.func18 (by kernel_rfl) rfl #[.agg #[.slice A0_0 l0_0.length c0_0,.slice A0_1 l0_1.length c0_1],.int .i64 1048576] rfl (by (try simp only [zA,zC,zN]);first|done|rfl|(simp only [zM,zL];rfl)) ?_;(with_reducible refine (laws_szSkip.calls k _ _ l0_0 _ _ l0_1 1048576 t319 _ ?side1 ?side2 ?side3 ?side4 A6.out).mono ?_);(case side1=>repeat (first|exact (Kd.C_below HR0_0.out HB.out)|(with_reducible refine Kd.C_alloc ?_ _)|(with_reducible refine Kd.C_drewN ?_ _)|(with_reducible refine Kd.C_drew ?_)));(case side2=>exact HC0_0.out);(case side3=>repeat (first|exact (Kd.C_below HR0_1.out HB.out)|(with_reducible refine Kd.C_alloc ?_ _)|(with_reducible refine Kd.C_drewN ?_ _)|(with_reducible refine Kd.C_drew ?_)));(case side4=>exact HC0_1.out);rintro e w18 ⟨rfl,hb⟩;refine ⟨_,rfl,?_⟩;have n0_:=AsZ.mk (kb (g:=gb318) (o := .cells #[.slice A0_0 l0_0.length c0_0,.slice A0_1 l0_1.length c0_1] 43 (0,0)) (by (with_reducible repeat (first|refine kdN ?_ _|refine kd ?_|refine ka ?_ _));exact BK318.out) hb);have n1_:=AsZ.mk (bwp (by repeat (first|(with_reducible first|exact HB.out|apply bwa|apply pbN|apply bw1|refine bws ?_ GE318.out)|exact HB.out)) hb);clear BK318;clear HB;have BK318:=n0_;have HB:=n1_;clear n0_ n1_;(try clear hb);(try clear hb2);(try clear hk);(try clear hi);have hcz19_0:w18.cell? ⟨gb318,0,none⟩=some (.slice A0_0 l0_0.length c0_0):=(kc BK318.out 0).trans rfl;have hcz19_1:w18.cell? ⟨gb318,1,none⟩=some (.slice A0_1 l0_1.length c0_1):=(kc BK318.out 1).trans rfl;have hfz19_0:=kf BK318.out 0;have hfz19_1:=kf BK318.out 1)|((with_reducible refine gcl (f:=20) rfl ?_);refine goesL_ (some 25) rfl rfl Tryd.func20 (by kernel_rfl) rfl #[.agg #[.slice A0_0 l0_0.length c0_0,.slice A0_1 l0_1.length c0_1]] rfl (by (try simp only [zA,zC,zN]);first|done|rfl|(simp only [zM,zL];rfl)) ?_;(with_reducible refine (laws_toSkip.calls k _ _ l0_0 _ _ l0_1 t320 t323 _ ?side1 ?side2 ?side3 ?side4 A11.out).mono ?_);(case side1=>repeat (first|exact (Kd.C_below HR0_0.out HB.out)|(with_reducible refine Kd.C_alloc ?_ _)|(with_reducible refine Kd.C_drewN ?_ _)|(with_reducible refine Kd.C_drew ?_)));(case side2=>exact HC0_0.out);(case side3=>repeat (first|exact (Kd.C_below HR0_1.out HB.out)|(with_reducible refine Kd.C_alloc ?_ _)|(with_reducible refine Kd.C_drewN ?_ _)|(with_reducible refine Kd.C_drew ?_)));(case side4=>exact HC0_1.out);rintro e w20 ⟨v321,v324,rfl,ho0,ho1,hb⟩;refine ⟨_,rfl,?_⟩;have n0_:=AsZ.mk (Kd.R_lower ho0 (bwz (by repeat (first|(with_reducible first|exact HB.out|apply bwa|apply pbN|apply bw1|refine bws ?_ GE318.out)|exact HB.out))));have n1_:=AsZ.mk (Kd.S_lower ho1 (bwz (by repeat (first|(with_reducible first|exact HB.out|apply bwa|apply pbN|apply bw1|refine bws ?_ GE318.out)|exact HB.out))));have n2_:=AsZ.mk (kb (g:=gb318) (o := .cells #[.slice A0_0 l0_0.length c0_0,.slice A0_1 l0_1.length c0_1] 43 (0,0)) (by (with_reducible repeat (first|refine kdN ?_ _|refine kd ?_|refine ka ?_ _));exact BK318.out) hb);have n3_:=AsZ.mk (bwp (by repeat (first|(with_reducible first|exact HB.out|apply bwa|apply pbN|apply bw1|refine bws ?_ GE318.out)|exact HB.out)) hb);clear BK318;clear HB;have HO322:=n0_;have HO325:=n1_;have BK318:=n2_;have HB:=n3_;clear n0_ n1_ n2_ n3_;(try clear hb);(try clear hb2);(try clear hk);(try clear hi);(try clear ho0);(try clear ho1);obtain ⟨Ao21,co21,eo21⟩:=Kd.R_slice HO322.out;subst eo21;obtain ⟨Ao22,co22,eo22⟩:=Kd.S_slice HO325.out;subst eo22)|((with_reducible refine gcl (f:=31) rfl ?_);refine goesL_ (some 28) rfl rfl Tryd.func31 (by kernel_rfl) rfl #[.agg #[.slice Ao21 t320.length co21,.slice Ao22 t323.length co22],.string a1,.int .i64 a2] rfl (by (try simp only [zA,zC,zN]);first|done|rfl|(simp only [zM,zL];rfl)) ?_;(with_reducible refine (spec_SeekSkip.calls k _ _ t320 _ _ t323 a1 a2 t326 t327 t328 t329 t330 t331 _ ?side1 ?side2 ?side3 ?side4 A12.out).mono ?_);(case side1=>repeat (first|exact (Kd.R_reads' HO322.out).2.2|(with_reducible refine Kd.C_alloc ?_ _)|(with_reducible refine Kd.C_drewN ?_ _)|(with_reducible refine Kd.C_drew ?_)));(case side2=>exact (Kd.R_reads' HO322.out).2.1);(case side3=>repeat (first|exact (Kd.S_reads' HO325.out).2.2|(with_reducible refine Kd.C_alloc ?_ _)|(with_reducible refine Kd.C_drewN ?_ _)|(with_reducible refine Kd.C_drew ?_)));(case side4=>exact (Kd.S_reads' HO325.out).2.1);rintro e w23 ⟨rfl,hb⟩;refine ⟨_,rfl,?_⟩;have n0_:=AsZ.mk (Kd.R_below (by (with_reducible repeat (first|apply Kd.R_alloc|apply Kd.R_drewN|apply Kd.R_drew));exact HO322.out) hb);have n1_:=AsZ.mk (Kd.S_below (by (with_reducible repeat (first|apply Kd.S_alloc|apply Kd.S_drewN|apply Kd.S_drew));exact HO325.out) hb);have n2_:=AsZ.mk (kb (g:=gb318) (o := .cells #[.slice A0_0 l0_0.length c0_0,.slice A0_1 l0_1.length c0_1] 43 (0,0)) (by (with_reducible repeat (first|refine kdN ?_ _|refine kd ?_|refine ka ?_ _));exact BK318.out) hb);have n3_:=AsZ.mk (bwp (by repeat (first|(with_reducible first|exact HB.out|apply bwa|apply pbN|apply bw1|refine bws ?_ GE318.out)|exact HB.out)) hb);clear HO322;clear HO325;clear BK318;clear HB;have HO322:=n0_;have HO325:=n1_;have BK318:=n2_;have HB:=n3_;clear n0_ n1_ n2_ n3_;(try clear hb);(try clear hb2);(try clear hk);(try clear hi))|((with_reducible refine gate_dst (N:=8) rfl ?_);refine box_event ?hg (N:=8) ?hd (cs:=#[.string (⟨#[]⟩:ByteArray),.int .i64 0,.int .i64 0,.string (⟨#[]⟩:ByteArray)]) (t:=28) ?hr ?_;(case hd=>rfl);(case hg=>rfl);(case hr=>first|(go_simp;done)|(go_simp;rfl));intro gb332 hg w24 hbox hb;have n0_:=AsZ.mk (Kd.R_below (by (with_reducible repeat (first|apply Kd.R_alloc|apply Kd.R_drewN|apply Kd.R_drew));exact HO322.out) hb);have n1_:=AsZ.mk (Kd.S_below (by (with_reducible repeat (first|apply Kd.S_alloc|apply Kd.S_drewN|apply Kd.S_drew));exact HO325.out) hb);have n2_:=AsZ.mk (kb (g:=gb318) (o := .cells #[.slice A0_0 l0_0.length c0_0,.slice A0_1 l0_1.length c0_1] 43 (0,0)) (by (with_reducible repeat (first|refine kdN ?_ _|refine kd ?_|refine ka ?_ _));exact BK318.out) hb);have n3_:=AsZ.mk (bwp (by repeat (first|(with_reducible first|exact HB.out|apply bwa|apply pbN|apply bw1|refine bws ?_ GE318.out)|exact HB.out)) hb);have n4_:=AsZ.mk (hbox);have n5_:=AsZ.mk ((by rw [hg];exact (bwz (by repeat (first|(with_reducible first|exact HB.out|apply bwa|apply pbN|apply bw1|refine bws ?_ GE318.out)|exact HB.out))):w.heap.size≤gb332));have n6_:=AsZ.mk ((by rw [hg];exact (bwz (by repeat (first|(with_reducible first|exact HB.out|apply bwa|apply pbN|apply bw1|refine bws ?_ GE318.out)|exact HB.out))):w.heap.size≤gb332));have n7_:=AsZ.mk ((by rw [hg];exact Nat.ne_of_lt (blk_lt (g:=gb318) (o := .cells #[.slice A0_0 l0_0.length c0_0,.slice A0_1 l0_1.length c0_1] 43 (0,0)) (by (with_reducible repeat (first|refine kdN ?_ _|refine kd ?_|refine ka ?_ _));exact BK318.out)):gb318 ≠ gb332));have n8_:=AsZ.mk ((by rw [hg];exact Nat.ne_of_gt (blk_lt (g:=gb318) (o := .cells #[.slice A0_0 l0_0.length c0_0,.slice A0_1 l0_1.length c0_1] 43 (0,0)) (by (with_reducible repeat (first|refine kdN ?_ _|refine kd ?_|refine ka ?_ _));exact BK318.out)):gb332 ≠ gb318));clear HO322;clear HO325;clear BK318;clear HB;have HO322:=n0_;have HO325:=n1_;have BK318:=n2_;have HB:=n3_;have BK332:=n4_;have GW332:=n5_;have GE332:=n6_;have NB318_332:=n7_;have NB332_318:=n8_;clear n0_ n1_ n2_ n3_ n4_ n5_ n6_ n7_ n8_;clear hb hbox hg;have hnb25:=NB332_318.out;have hnc25:=NB318_332.out;have hcz26_0:w24.cell? ⟨gb332,0,none⟩=some (.string (⟨#[]⟩:ByteArray)):=(kc BK332.out 0).trans rfl;have hcz26_1:w24.cell? ⟨gb332,1,none⟩=some (.int .i64 0):=(kc BK332.out 1).trans rfl;have hcz26_2:w24.cell? ⟨gb332,2,none⟩=some (.int .i64 0):=(kc BK332.out 2).trans rfl;have hcz26_3:w24.cell? ⟨gb332,3,none⟩=some (.string (⟨#[]⟩:ByteArray)):=(kc BK332.out 3).trans rfl;have hfz26_0:=kf BK332.out 0;have hfz26_1:=kf BK332.out 1;have hfz26_2:=kf BK332.out 2;have hfz26_3:=kf BK332.out 3;have hcz27_0:w24.cell? ⟨gb318,0,none⟩=some (.slice A0_0 l0_0.length c0_0):=(kc BK318.out 0).trans rfl;have hcz27_1:w24.cell? ⟨gb318,1,none⟩=some (.slice A0_1 l0_1.length c0_1):=(kc BK318.out 1).trans rfl;have hfz27_0:=kf BK318.out 0;have hfz27_1:=kf BK318.out 1)|((with_reducible refine gcl (f:=20) rfl ?_);refine goesL_ (some 33) rfl rfl Tryd.func20 (by kernel_rfl) rfl #[.agg #[.slice A0_0 l0_0.length c0_0,.slice A0_1 l0_1.length c0_1]] rfl (by (try simp only [zA,zC,zN]);first|done|rfl|(simp only [zM,zL];rfl)) ?_;(with_reducible refine (laws_toSkip.calls k _ _ l0_0 _ _ l0_1 t333 t336 _ ?side1 ?side2 ?side3 ?side4 A13.out).mono ?_);(case side1=>exact Kd.C_below HR0_0.out (by repeat (first|(with_reducible first|exact HB.out|apply bwa|apply pbN|apply bw1|refine bws ?_ GE318.out|refine bws ?_ GE332.out)|exact HB.out)));(case side2=>exact HC0_0.out);(case side3=>exact Kd.C_below HR0_1.out (by repeat (first|(with_reducible first|exact HB.out|apply bwa|apply pbN|apply bw1|refine bws ?_ GE318.out|refine bws ?_ GE332.out)|exact HB.out)));(case side4=>exact HC0_1.out);rintro e w28 ⟨v334,v337,rfl,ho0,ho1,hb⟩;refine ⟨_,rfl,?_⟩;have n0_:=AsZ.mk (Kd.R_elder' (by (with_reducible repeat (first|apply Kd.R_alloc|apply Kd.R_drewN|apply Kd.R_drew));exact (Kd.R_mono (Kd.R_far (p:=⟨gb332,3,none⟩) (Kd.R_far (p:=⟨gb332,2,none⟩) (Kd.R_far (p:=⟨gb332,1,none⟩) (Kd.R_far (p:=⟨gb332,0,none⟩) (Kd.R_types HO322.out BK332.out (by decide)) (fun _ hk=>hk.2) (.string t326)) (fun _ hk=>hk.2) (.int .i64 t327)) (fun _ hk=>hk.2) (.int .i64 t328)) (fun _ hk=>hk.2) (.string t329)) (fun _ h_=>h_.1))) (Kd.R_base ho0) hb);have n1_:=AsZ.mk (Kd.S_mono (Kd.S_told (Kd.S_told (Kd.S_old (by (with_reducible repeat (first|apply Kd.S_alloc|apply Kd.S_drewN|apply Kd.S_drew));exact (Kd.S_mono (Kd.S_far (p:=⟨gb332,3,none⟩) (Kd.S_far (p:=⟨gb332,2,none⟩) (Kd.S_far (p:=⟨gb332,1,none⟩) (Kd.S_far (p:=⟨gb332,0,none⟩) (Kd.S_types HO325.out BK332.out (by decide)) (fun _ hk=>hk.2) (.string t326)) (fun _ hk=>hk.2) (.int .i64 t327)) (fun _ hk=>hk.2) (.int .i64 t328)) (fun _ hk=>hk.2) (.string t329)) (fun _ h_=>h_.1))) hb) (Kd.R_base ho0)) (Kd.S_base ho1)) (fun _ h_=>h_.1));have n2_:=AsZ.mk (Kd.R_lower (Kd.R_new' ho0 (Kd.R_lt (by (with_reducible repeat (first|apply Kd.R_alloc|apply Kd.R_drewN|apply Kd.R_drew));exact (Kd.R_mono (Kd.R_far (p:=⟨gb332,3,none⟩) (Kd.R_far (p:=⟨gb332,2,none⟩) (Kd.R_far (p:=⟨gb332,1,none⟩) (Kd.R_far (p:=⟨gb332,0,none⟩) (Kd.R_types HO322.out BK332.out (by decide)) (fun _ hk=>hk.2) (.string t326)) (fun _ hk=>hk.2) (.int .i64 t327)) (fun _ hk=>hk.2) (.int .i64 t328)) (fun _ hk=>hk.2) (.string t329)) (fun _ h_=>h_.1))))) (bwz (by repeat (first|(with_reducible first|exact HB.out|apply bwa|apply pbN|apply bw1|refine bws ?_ GE318.out|refine bws ?_ GE332.out)|exact HB.out))));have n3_:=AsZ.mk (Kd.S_lower (Kd.S_new' (Kd.S_new' ho1 (Kd.R_lt (by (with_reducible repeat (first|apply Kd.R_alloc|apply Kd.R_drewN|apply Kd.R_drew));exact (Kd.R_mono (Kd.R_far (p:=⟨gb332,3,none⟩) (Kd.R_far (p:=⟨gb332,2,none⟩) (Kd.R_far (p:=⟨gb332,1,none⟩) (Kd.R_far (p:=⟨gb332,0,none⟩) (Kd.R_types HO322.out BK332.out (by decide)) (fun _ hk=>hk.2) (.string t326)) (fun _ hk=>hk.2) (.int .i64 t327)) (fun _ hk=>hk.2) (.int .i64 t328)) (fun _ hk=>hk.2) (.string t329)) (fun _ h_=>h_.1))))) (Kd.S_lt (by (with_reducible repeat (first|apply Kd.S_alloc|apply Kd.S_drewN|apply Kd.S_drew));exact (Kd.S_mono (Kd.S_far (p:=⟨gb332,3,none⟩) (Kd.S_far (p:=⟨gb332,2,none⟩) (Kd.S_far (p:=⟨gb332,1,none⟩) (Kd.S_far (p:=⟨gb332,0,none⟩) (Kd.S_types HO325.out BK332.out (by decide)) (fun _ hk=>hk.2) (.string t326)) (fun _ hk=>hk.2) (.int .i64 t327)) (fun _ hk=>hk.2) (.int .i64 t328)) (fun _ hk=>hk.2) (.string t329)) (fun _ h_=>h_.1))))) (bwz (by repeat (first|(with_reducible first|exact HB.out|apply bwa|apply pbN|apply bw1|refine bws ?_ GE318.out|refine bws ?_ GE332.out)|exact HB.out))));have n4_:=AsZ.mk (kb (g:=gb318) (o := .cells #[.slice A0_0 l0_0.length c0_0,.slice A0_1 l0_1.length c0_1] 43 (0,0)) (by (with_reducible repeat (first|refine kdN ?_ _|refine kd ?_|refine ka ?_ _));refine blk_far ?_ NB318_332.out _;(with_reducible repeat (first|refine kdN ?_ _|refine kd ?_|refine ka ?_ _));refine blk_far ?_ NB318_332.out _;(with_reducible repeat (first|refine kdN ?_ _|refine kd ?_|refine ka ?_ _));refine blk_far ?_ NB318_332.out _;(with_reducible repeat (first|refine kdN ?_ _|refine kd ?_|refine ka ?_ _));refine blk_far ?_ NB318_332.out _;(with_reducible repeat (first|refine kdN ?_ _|refine kd ?_|refine ka ?_ _));exact BK318.out) hb);have n5_:=AsZ.mk (kb (g:=gb332) (o := .cells #[.string t326,.int .i64 t327,.int .i64 t328,.string t329] 28 (0,0)) (by (with_reducible repeat (first|refine kdN ?_ _|refine kd ?_|refine ka ?_ _));refine blk_put (cs:=#[.string t326,.int .i64 t327,.int .i64 t328,.string (⟨#[]⟩:ByteArray)]) ?_ 3 _ rfl;(with_reducible repeat (first|refine kdN ?_ _|refine kd ?_|refine ka ?_ _));refine blk_put (cs:=#[.string t326,.int .i64 t327,.int .i64 0,.string (⟨#[]⟩:ByteArray)]) ?_ 2 _ rfl;(with_reducible repeat (first|refine kdN ?_ _|refine kd ?_|refine ka ?_ _));refine blk_put (cs:=#[.string t326,.int .i64 0,.int .i64 0,.string (⟨#[]⟩:ByteArray)]) ?_ 1 _ rfl;(with_reducible repeat (first|refine kdN ?_ _|refine kd ?_|refine ka ?_ _));refine blk_put (cs:=#[.string (⟨#[]⟩:ByteArray),.int .i64 0,.int .i64 0,.string (⟨#[]⟩:ByteArray)]) ?_ 0 _ rfl;(with_reducible repeat (first|refine kdN ?_ _|refine kd ?_|refine ka ?_ _));exact BK332.out) hb);have n6_:=AsZ.mk (bwp (by repeat (first|(with_reducible first|exact HB.out|apply bwa|apply pbN|apply bw1|refine bws ?_ GE318.out|refine bws ?_ GE332.out)|exact HB.out)) hb);clear HO322;clear HO325;clear BK318;clear BK332;clear HB;have HO322:=n0_;have HO325:=n1_;have HO335:=n2_;have HO338:=n3_;have BK318:=n4_;have BK332:=n5_;have HB:=n6_;clear n0_ n1_ n2_ n3_ n4_ n5_ n6_;(try clear hb);(try clear hb2);(try clear hk);(try clear hi);(try clear ho0);(try clear ho1))|((with_reducible refine gate_dst (N:=11) rfl ?_);refine box_event ?hg (N:=11) ?hd (cs:=#[.slice none 0 0,.slice none 0 0]) (t:=26) ?hr ?_;(case hd=>rfl);(case hg=>rfl);(case hr=>first|(go_simp;done)|(go_simp;rfl));intro gb339 hg w29 hbox hb;have n0_:=AsZ.mk (Kd.R_below (by (with_reducible repeat (first|apply Kd.R_alloc|apply Kd.R_drewN|apply Kd.R_drew));exact HO322.out) hb);have n1_:=AsZ.mk (Kd.S_below (by (with_reducible repeat (first|apply Kd.S_alloc|apply Kd.S_drewN|apply Kd.S_drew));exact HO325.out) hb);have n2_:=AsZ.mk (Kd.R_below (by (with_reducible repeat (first|apply Kd.R_alloc|apply Kd.R_drewN|apply Kd.R_drew));exact HO335.out) hb);have n3_:=AsZ.mk (Kd.S_below (by (with_reducible repeat (first|apply Kd.S_alloc|apply Kd.S_drewN|apply Kd.S_drew));exact HO338.out) hb);have n4_:=AsZ.mk (kb (g:=gb318) (o := .cells #[.slice A0_0 l0_0.length c0_0,.slice A0_1 l0_1.length c0_1] 43 (0,0)) (by (with_reducible repeat (first|refine kdN ?_ _|refine kd ?_|refine ka ?_ _));exact BK318.out) hb);have n5_:=AsZ.mk (kb (g:=gb332) (o := .cells #[.string t326,.int .i64 t327,.int .i64 t328,.string t329] 28 (0,0)) (by (with_reducible repeat (first|refine kdN ?_ _|refine kd ?_|refine ka ?_ _));exact BK332.out) hb);have n6_:=AsZ.mk (bwp (by repeat (first|(with_reducible first|exact HB.out|apply bwa|apply pbN|apply bw1|refine bws ?_ GE318.out|refine bws ?_ GE332.out)|exact HB.out)) hb);have n7_:=AsZ.mk (hbox);have n8_:=AsZ.mk ((by rw [hg];exact (bwz (by repeat (first|(with_reducible first|exact HB.out|apply bwa|apply pbN|apply bw1|refine bws ?_ GE318.out|refine bws ?_ GE332.out)|exact HB.out))):w.heap.size≤gb339));have n9_:=AsZ.mk ((by rw [hg];exact (bwz (by repeat (first|(with_reducible first|exact HB.out|apply bwa|apply pbN|apply bw1|refine bws ?_ GE318.out|refine bws ?_ GE332.out)|exact HB.out))):w.heap.size≤gb339));have n10_:=AsZ.mk ((by rw [hg];exact Nat.ne_of_lt (blk_lt (g:=gb318) (o := .cells #[.slice A0_0 l0_0.length c0_0,.slice A0_1 l0_1.length c0_1] 43 (0,0)) (by (with_reducible repeat (first|refine kdN ?_ _|refine kd ?_|refine ka ?_ _));exact BK318.out)):gb318 ≠ gb339));have n11_:=AsZ.mk ((by rw [hg];exact Nat.ne_of_gt (blk_lt (g:=gb318) (o := .cells #[.slice A0_0 l0_0.length c0_0,.slice A0_1 l0_1.length c0_1] 43 (0,0)) (by (with_reducible repeat (first|refine kdN ?_ _|refine kd ?_|refine ka ?_ _));exact BK318.out)):gb339 ≠ gb318));have n12_:=AsZ.mk ((by rw [hg];exact Nat.ne_of_lt (blk_lt (g:=gb332) (o := .cells #[.string t326,.int .i64 t327,.int .i64 t328,.string t329] 28 (0,0)) (by (with_reducible repeat (first|refine kdN ?_ _|refine kd ?_|refine ka ?_ _));exact BK332.out)):gb332 ≠ gb339));have n13_:=AsZ.mk ((by rw [hg];exact Nat.ne_of_gt (blk_lt (g:=gb332) (o := .cells #[.string t326,.int .i64 t327,.int .i64 t328,.string t329] 28 (0,0)) (by (with_reducible repeat (first|refine kdN ?_ _|refine kd ?_|refine ka ?_ _));exact BK332.out)):gb339 ≠ gb332));clear HO322;clear HO325;clear HO335;clear HO338;clear BK318;clear BK332;clear HB;have HO322:=n0_;have HO325:=n1_;have HO335:=n2_;have HO338:=n3_;have BK318:=n4_;have BK332:=n5_;have HB:=n6_;have BK339:=n7_;have GW339:=n8_;have GE339:=n9_;have NB318_339:=n10_;have NB339_318:=n11_;have NB332_339:=n12_;have NB339_332:=n13_;clear n0_ n1_ n2_ n3_ n4_ n5_ n6_ n7_ n8_ n9_ n10_ n11_ n12_ n13_;clear hb hbox hg;obtain ⟨Ao30,co30,eo30⟩:=Kd.R_slice HO335.out;subst eo30;have hnb31:=NB339_318.out;have hnc31:=NB318_339.out;have hnb32:=NB339_332.out;have hnc32:=NB332_339.out;have hcz33_0:w29.cell? ⟨gb339,0,none⟩=some (.slice none 0 0):=(kc BK339.out 0).trans rfl;have hcz33_1:w29.cell? ⟨gb339,1,none⟩=some (.slice none 0 0):=(kc BK339.out 1).trans rfl;have hfz33_0:=kf BK339.out 0;have hfz33_1:=kf BK339.out 1;obtain ⟨Ao34,co34,eo34⟩:=Kd.S_slice HO338.out;subst eo34)|((with_reducible refine gcl (f:=32) rfl ?_);refine goesL_ (some 38) rfl rfl Tryd.func32 (by kernel_rfl) rfl #[.agg #[.slice Ao30 t333.length co30,.slice Ao34 t336.length co34],.string a1,.int .i64 a2] rfl (by (try simp only [zA,zC,zN]);first|done|rfl|(simp only [zM,zL];rfl)) ?_;(with_reducible refine (impl_SeekSkip.calls k _ _ t333 _ _ t336 a1 a2 t340 t341 t342 t343 t344 t345 _ ?side1 ?side2 ?side3 ?side4 ?sideT A14.out).mono ?_);(case sideT=>exact tab_below HT.out (by repeat (first|(with_reducible first|exact HB.out|apply bwa|apply pbN|apply bw1|refine bws ?_ (AsZ.out (by assumption)))|exact HB.out)));(case side1=>refine (Kd.R_reads' (e:=3) (base:=w.heap.size) (ok:=fun k_=>(True∧some k_ ≠ (.slice Ao21 t320.length co21:Value).ownBlock)) (n:=t333.length) (c:=co30) ?_).2.2;exact (by (with_reducible repeat (first|apply Kd.R_alloc|apply Kd.R_drewN|apply Kd.R_drew));exact (Kd.R_mono (Kd.R_far (p:=⟨gb339,1,none⟩) (Kd.R_far (p:=⟨gb339,0,none⟩) (Kd.R_types HO335.out BK339.out (by decide)) (fun _ hk=>hk.2) (.slice Ao30 t333.length co30)) (fun _ hk=>hk.2) (.slice Ao34 t336.length co34)) (fun _ h_=>h_.1))));(case side2=>exact (Kd.R_reads' HO335.out).2.1);(case side3=>refine (Kd.S_reads' (e:=77) (base:=w.heap.size) (ok:=fun k_=>((some k_ ≠ (.slice Ao30 t333.length co30:Value).ownBlock∧some k_ ≠ (.slice Ao21 t320.length co21:Value).ownBlock)∧some k_ ≠ (.slice Ao22 t323.length co22:Value).ownBlock)) (n:=t336.length) (c:=co34) ?_).2.2;exact (by (with_reducible repeat (first|apply Kd.S_alloc|apply Kd.S_drewN|apply Kd.S_drew));exact (Kd.S_mono (Kd.S_far (p:=⟨gb339,1,none⟩) (Kd.S_far (p:=⟨gb339,0,none⟩) (Kd.S_types HO338.out BK339.out (by decide)) (fun _ hk=>hk.2) (.slice Ao30 t333.length co30)) (fun _ hk=>hk.2) (.slice Ao34 t336.length co34)) (fun _ h_=>h_.1))));(case side4=>exact (Kd.S_reads' HO338.out).2.1);rintro e w35 ⟨rfl,hb⟩;refine ⟨_,rfl,?_⟩;have n0_:=AsZ.mk (Kd.R_below (by (with_reducible repeat (first|apply Kd.R_alloc|apply Kd.R_drewN|apply Kd.R_drew));exact (Kd.R_mono (Kd.R_far (p:=⟨gb339,1,none⟩) (Kd.R_far (p:=⟨gb339,0,none⟩) (Kd.R_types HO322.out BK339.out (by decide)) (fun _ hk=>hk.2) (.slice Ao30 t333.length co30)) (fun _ hk=>hk.2) (.slice Ao34 t336.length co34)) (fun _ h_=>h_.1))) hb);have n1_:=AsZ.mk (Kd.S_below (by (with_reducible repeat (first|apply Kd.S_alloc|apply Kd.S_drewN|apply Kd.S_drew));exact (Kd.S_mono (Kd.S_far (p:=⟨gb339,1,none⟩) (Kd.S_far (p:=⟨gb339,0,none⟩) (Kd.S_types HO325.out BK339.out (by decide)) (fun _ hk=>hk.2) (.slice Ao30 t333.length co30)) (fun _ hk=>hk.2) (.slice Ao34 t336.length co34)) (fun _ h_=>h_.1))) hb);have n2_:=AsZ.mk (Kd.R_below (by (with_reducible repeat (first|apply Kd.R_alloc|apply Kd.R_drewN|apply Kd.R_drew));exact (Kd.R_mono (Kd.R_far (p:=⟨gb339,1,none⟩) (Kd.R_far (p:=⟨gb339,0,none⟩) (Kd.R_types HO335.out BK339.out (by decide)) (fun _ hk=>hk.2) (.slice Ao30 t333.length co30)) (fun _ hk=>hk.2) (.slice Ao34 t336.length co34)) (fun _ h_=>h_.1))) hb);have n3_:=AsZ.mk (Kd.S_below (by (with_reducible repeat (first|apply Kd.S_alloc|apply Kd.S_drewN|apply Kd.S_drew));exact (Kd.S_mono (Kd.S_far (p:=⟨gb339,1,none⟩) (Kd.S_far (p:=⟨gb339,0,none⟩) (Kd.S_types HO338.out BK339.out (by decide)) (fun _ hk=>hk.2) (.slice Ao30 t333.length co30)) (fun _ hk=>hk.2) (.slice Ao34 t336.length co34)) (fun _ h_=>h_.1))) hb);have n4_:=AsZ.mk (kb (g:=gb318) (o := .cells #[.slice A0_0 l0_0.length c0_0,.slice A0_1 l0_1.length c0_1] 43 (0,0)) (by (with_reducible repeat (first|refine kdN ?_ _|refine kd ?_|refine ka ?_ _));refine blk_far ?_ NB318_339.out _;(with_reducible repeat (first|refine kdN ?_ _|refine kd ?_|refine ka ?_ _));refine blk_far ?_ NB318_339.out _;(with_reducible repeat (first|refine kdN ?_ _|refine kd ?_|refine ka ?_ _));exact BK318.out) hb);have n5_:=AsZ.mk (kb (g:=gb332) (o := .cells #[.string t326,.int .i64 t327,.int .i64 t328,.string t329] 28 (0,0)) (by (with_reducible repeat (first|refine kdN ?_ _|refine kd ?_|refine ka ?_ _));refine blk_far ?_ NB332_339.out _;(with_reducible repeat (first|refine kdN ?_ _|refine kd ?_|refine ka ?_ _));refine blk_far ?_ NB332_339.out _;(with_reducible repeat (first|refine kdN ?_ _|refine kd ?_|refine ka ?_ _));exact BK332.out) hb);have n6_:=AsZ.mk (kb (g:=gb339) (o := .cells #[.slice Ao30 t333.length co30,.slice Ao34 t336.length co34] 26 (0,0)) (by (with_reducible repeat (first|refine kdN ?_ _|refine kd ?_|refine ka ?_ _));refine blk_put (cs:=#[.slice Ao30 t333.length co30,.slice none 0 0]) ?_ 1 _ rfl;(with_reducible repeat (first|refine kdN ?_ _|refine kd ?_|refine ka ?_ _));refine blk_put (cs:=#[.slice none 0 0,.slice none 0 0]) ?_ 0 _ rfl;(with_reducible repeat (first|refine kdN ?_ _|refine kd ?_|refine ka ?_ _));exact BK339.out) hb);have n7_:=AsZ.mk (bwp (by repeat (first|(with_reducible first|exact HB.out|apply bwa|apply pbN|apply bw1|refine bws ?_ GE318.out|refine bws ?_ GE332.out|refine bws ?_ GE339.out)|exact HB.out)) hb);clear HO322;clear HO325;clear HO335;clear HO338;clear BK318;clear BK332;clear BK339;clear HB;have HO322:=n0_;have HO325:=n1_;have HO335:=n2_;have HO338:=n3_;have BK318:=n4_;have BK332:=n5_;have BK339:=n6_;have HB:=n7_;clear n0_ n1_ n2_ n3_ n4_ n5_ n6_ n7_;(try clear hb);(try clear hb2);(try clear hk);(try clear hi))|((with_reducible refine gate_dst (N:=12) rfl ?_);refine box_event ?hg (N:=12) ?hd (cs:=#[.string (⟨#[]⟩:ByteArray),.int .i64 0,.int .i64 0,.string (⟨#[]⟩:ByteArray)]) (t:=28) ?hr ?_;(case hd=>rfl);(case hg=>rfl);(case hr=>first|(go_simp;done)|(go_simp;rfl));intro gb346 hg w36 hbox hb;have n0_:=AsZ.mk (Kd.R_below (by (with_reducible repeat (first|apply Kd.R_alloc|apply Kd.R_drewN|apply Kd.R_drew));exact HO322.out) hb);have n1_:=AsZ.mk (Kd.S_below (by (with_reducible repeat (first|apply Kd.S_alloc|apply Kd.S_drewN|apply Kd.S_drew));exact HO325.out) hb);have n2_:=AsZ.mk (Kd.R_below (by (with_reducible repeat (first|apply Kd.R_alloc|apply Kd.R_drewN|apply Kd.R_drew));exact HO335.out) hb);have n3_:=AsZ.mk (Kd.S_below (by (with_reducible repeat (first|apply Kd.S_alloc|apply Kd.S_drewN|apply Kd.S_drew));exact HO338.out) hb);have n4_:=AsZ.mk (kb (g:=gb318) (o := .cells #[.slice A0_0 l0_0.length c0_0,.slice A0_1 l0_1.length c0_1] 43 (0,0)) (by (with_reducible repeat (first|refine kdN ?_ _|refine kd ?_|refine ka ?_ _));exact BK318.out) hb);have n5_:=AsZ.mk (kb (g:=gb332) (o := .cells #[.string t326,.int .i64 t327,.int .i64 t328,.string t329] 28 (0,0)) (by (with_reducible repeat (first|refine kdN ?_ _|refine kd ?_|refine ka ?_ _));exact BK332.out) hb);have n6_:=AsZ.mk (kb (g:=gb339) (o := .cells #[.slice Ao30 t333.length co30,.slice Ao34 t336.length co34] 26 (0,0)) (by (with_reducible repeat (first|refine kdN ?_ _|refine kd ?_|refine ka ?_ _));exact BK339.out) hb);have n7_:=AsZ.mk (bwp (by repeat (first|(with_reducible first|exact HB.out|apply bwa|apply pbN|apply bw1|refine bws ?_ GE318.out|refine bws ?_ GE332.out|refine bws ?_ GE339.out)|exact HB.out)) hb);have n8_:=AsZ.mk (hbox);have n9_:=AsZ.mk ((by rw [hg];exact (bwz (by repeat (first|(with_reducible first|exact HB.out|apply bwa|apply pbN|apply bw1|refine bws ?_ GE318.out|refine bws ?_ GE332.out|refine bws ?_ GE339.out)|exact HB.out))):w.heap.size≤gb346));have n10_:=AsZ.mk ((by rw [hg];exact (bwz (by repeat (first|(with_reducible first|exact HB.out|apply bwa|apply pbN|apply bw1|refine bws ?_ GE318.out|refine bws ?_ GE332.out|refine bws ?_ GE339.out)|exact HB.out))):w.heap.size≤gb346));have n11_:=AsZ.mk ((by rw [hg];exact Nat.ne_of_lt (blk_lt (g:=gb318) (o := .cells #[.slice A0_0 l0_0.length c0_0,.slice A0_1 l0_1.length c0_1] 43 (0,0)) (by (with_reducible repeat (first|refine kdN ?_ _|refine kd ?_|refine ka ?_ _));exact BK318.out)):gb318 ≠ gb346));have n12_:=AsZ.mk ((by rw [hg];exact Nat.ne_of_gt (blk_lt (g:=gb318) (o := .cells #[.slice A0_0 l0_0.length c0_0,.slice A0_1 l0_1.length c0_1] 43 (0,0)) (by (with_reducible repeat (first|refine kdN ?_ _|refine kd ?_|refine ka ?_ _));exact BK318.out)):gb346 ≠ gb318));have n13_:=AsZ.mk ((by rw [hg];exact Nat.ne_of_lt (blk_lt (g:=gb332) (o := .cells #[.string t326,.int .i64 t327,.int .i64 t328,.string t329] 28 (0,0)) (by (with_reducible repeat (first|refine kdN ?_ _|refine kd ?_|refine ka ?_ _));exact BK332.out)):gb332 ≠ gb346));have n14_:=AsZ.mk ((by rw [hg];exact Nat.ne_of_gt (blk_lt (g:=gb332) (o := .cells #[.string t326,.int .i64 t327,.int .i64 t328,.string t329] 28 (0,0)) (by (with_reducible repeat (first|refine kdN ?_ _|refine kd ?_|refine ka ?_ _));exact BK332.out)):gb346 ≠ gb332));have n15_:=AsZ.mk ((by rw [hg];exact Nat.ne_of_lt (blk_lt (g:=gb339) (o := .cells #[.slice Ao30 t333.length co30,.slice Ao34 t336.length co34] 26 (0,0)) (by (with_reducible repeat (first|refine kdN ?_ _|refine kd ?_|refine ka ?_ _));exact BK339.out)):gb339 ≠ gb346));have n16_:=AsZ.mk ((by rw [hg];exact Nat.ne_of_gt (blk_lt (g:=gb339) (o := .cells #[.slice Ao30 t333.length co30,.slice Ao34 t336.length co34] 26 (0,0)) (by (with_reducible repeat (first|refine kdN ?_ _|refine kd ?_|refine ka ?_ _));exact BK339.out)):gb346 ≠ gb339));clear HO322;clear HO325;clear HO335;clear HO338;clear BK318;clear BK332;clear BK339;clear HB;have HO322:=n0_;have HO325:=n1_;have HO335:=n2_;have HO338:=n3_;have BK318:=n4_;have BK332:=n5_;have BK339:=n6_;have HB:=n7_;have BK346:=n8_;have GW346:=n9_;have GE346:=n10_;have NB318_346:=n11_;have NB346_318:=n12_;have NB332_346:=n13_;have NB346_332:=n14_;have NB339_346:=n15_;have NB346_339:=n16_;clear n0_ n1_ n2_ n3_ n4_ n5_ n6_ n7_ n8_ n9_ n10_ n11_ n12_ n13_ n14_ n15_ n16_;clear hb hbox hg;have hnb37:=NB346_318.out;have hnc37:=NB318_346.out;have hnb38:=NB346_332.out;have hnc38:=NB332_346.out;have hnb39:=NB346_339.out;have hnc39:=NB339_346.out;have hcz40_0:w36.cell? ⟨gb346,0,none⟩=some (.string (⟨#[]⟩:ByteArray)):=(kc BK346.out 0).trans rfl;have hcz40_1:w36.cell? ⟨gb346,1,none⟩=some (.int .i64 0):=(kc BK346.out 1).trans rfl;have hcz40_2:w36.cell? ⟨gb346,2,none⟩=some (.int .i64 0):=(kc BK346.out 2).trans rfl;have hcz40_3:w36.cell? ⟨gb346,3,none⟩=some (.string (⟨#[]⟩:ByteArray)):=(kc BK346.out 3).trans rfl;have hfz40_0:=kf BK346.out 0;have hfz40_1:=kf BK346.out 1;have hfz40_2:=kf BK346.out 2;have hfz40_3:=kf BK346.out 3))
 (try simp only [Act.put,zS,zT,zU])
 go_cut [55] (fun v55 wc => ∃ (kq:Nat) (x55_14:Bool),v55 = .bool x55_14∧AsZ (laws_FnExactSeekSkip.j0 kq x55_14 l0_0 l0_1 t333 t336=some r)∧AsZ (kq≤k)∧AsZ (Kd.R (Kd.int .i64) 3 wc w.heap.size (fun _=>True) (.slice Ao30 t333.length co30) t333)∧AsZ (Kd.S k77 77 wc w.heap.size (fun k_=>some k_ ≠ ((.slice Ao30 t333.length co30):Value).ownBlock) (.slice Ao34 t336.length co34) t336)∧AsZ (wc.heap[gb318]? = some (.cells #[(.slice A0_0 l0_0.length c0_0),(.slice A0_1 l0_1.length c0_1)] 43 (0,0)))∧AsZ (wc.heap[gb332]? = some (.cells #[.string t326,.int .i64 t327,.int .i64 t328,.string t329] 28 (0,0)))∧AsZ (wc.heap[gb339]? = some (.cells #[(.slice Ao30 t333.length co30),(.slice Ao34 t336.length co34)] 26 (0,0)))∧AsZ (wc.heap[gb346]? = some (.cells #[.string t340,.int .i64 t341,.int .i64 t342,.string t343] 28 (0,0)))∧AsZ (Below w.heap.size w wc))
 case first =>
  have H:=HC15.out
  clear HC15
  replace H:=Option.bind_eq_some_iff.mp H
  obtain ⟨t347,A410,H⟩:=H
  replace H:(if t347=true then (if t344=t330 then (laws_FnExactSeekSkip.j0 k (t345 != t331) l0_0 l0_1 t333 t336) else (laws_FnExactSeekSkip.j0 k true l0_0 l0_1 t333 t336)) else (laws_FnExactSeekSkip.j0 k true l0_0 l0_1 t333 t336))=some r:=H
  have A41:=AsZ.mk A410
  clear A410
  by_cases c42:t347=true
  rotate_left
  · replace c42:=Bool.eq_false_iff.mpr c42
    subst c42
    have H1:(laws_FnExactSeekSkip.j0 k true l0_0 l0_1 t333 t336)=some r:=by rw [if_neg (show ¬ (false=true) by decide)] at H;exact H
    clear H
    have H:=H1
    clear H1
    have H':=AsZ.mk H
    clear H
    have hnb60:=NB346_318.out
    have hnc60:=NB318_346.out
    have hnb61:=NB346_332.out
    have hnc61:=NB332_346.out
    have hnb62:=NB346_339.out
    have hnc62:=NB339_346.out
    have hcz63_0:w36.cell? ⟨gb346,0,none⟩=some (.string (⟨#[]⟩:ByteArray)):=(kc BK346.out 0).trans rfl
    have hcz63_1:w36.cell? ⟨gb346,1,none⟩=some (.int .i64 0):=(kc BK346.out 1).trans rfl
    have hcz63_2:w36.cell? ⟨gb346,2,none⟩=some (.int .i64 0):=(kc BK346.out 2).trans rfl
    have hcz63_3:w36.cell? ⟨gb346,3,none⟩=some (.string (⟨#[]⟩:ByteArray)):=(kc BK346.out 3).trans rfl
    have hfz63_0:=kf BK346.out 0
    have hfz63_1:=kf BK346.out 1
    have hfz63_2:=kf BK346.out 2
    have hfz63_3:=kf BK346.out 3
    have hnb64:=NB332_318.out
    have hnc64:=NB318_332.out
    have hnb65:=NB332_339.out
    have hnc65:=NB339_332.out
    have hcz66_0:w36.cell? ⟨gb332,0,none⟩=some (.string t326):=(kc BK332.out 0).trans rfl
    have hcz66_1:w36.cell? ⟨gb332,1,none⟩=some (.int .i64 t327):=(kc BK332.out 1).trans rfl
    have hcz66_2:w36.cell? ⟨gb332,2,none⟩=some (.int .i64 t328):=(kc BK332.out 2).trans rfl
    have hcz66_3:w36.cell? ⟨gb332,3,none⟩=some (.string t329):=(kc BK332.out 3).trans rfl
    have hfz66_0:=kf BK332.out 0
    have hfz66_1:=kf BK332.out 1
    have hfz66_2:=kf BK332.out 2
    have hfz66_3:=kf BK332.out 3
    go_wp2_with (first|((with_reducible refine gcl (f:=33) rfl ?_);refine goesL_ (some 44) rfl rfl Tryd.func33 (by kernel_rfl) rfl #[.agg #[.string t340,.int .i64 t341,.int .i64 t342,.string t343],.agg #[.string t326,.int .i64 t327,.int .i64 t328,.string t329]] rfl (by (try simp only [zA,zC,zN]);first|done|rfl|(simp only [zM,zL];rfl)) ?_;(with_reducible refine (laws_eqItem.calls t340 t341 t342 t343 t326 t327 t328 t329 false _ A41.out).mono ?_);rintro e w67 ⟨rfl,hb⟩;refine ⟨_,rfl,?_⟩;have n0_:=AsZ.mk (Kd.R_below (by (with_reducible repeat (first|apply Kd.R_alloc|apply Kd.R_drewN|apply Kd.R_drew));exact (Kd.R_mono (Kd.R_far (p:=⟨gb346,3,none⟩) (Kd.R_far (p:=⟨gb346,2,none⟩) (Kd.R_far (p:=⟨gb346,1,none⟩) (Kd.R_far (p:=⟨gb346,0,none⟩) (Kd.R_types HO322.out BK346.out (by decide)) (fun _ hk=>hk.2) (.string t340)) (fun _ hk=>hk.2) (.int .i64 t341)) (fun _ hk=>hk.2) (.int .i64 t342)) (fun _ hk=>hk.2) (.string t343)) (fun _ h_=>h_.1))) hb);have n1_:=AsZ.mk (Kd.S_below (by (with_reducible repeat (first|apply Kd.S_alloc|apply Kd.S_drewN|apply Kd.S_drew));exact (Kd.S_mono (Kd.S_far (p:=⟨gb346,3,none⟩) (Kd.S_far (p:=⟨gb346,2,none⟩) (Kd.S_far (p:=⟨gb346,1,none⟩) (Kd.S_far (p:=⟨gb346,0,none⟩) (Kd.S_types HO325.out BK346.out (by decide)) (fun _ hk=>hk.2) (.string t340)) (fun _ hk=>hk.2) (.int .i64 t341)) (fun _ hk=>hk.2) (.int .i64 t342)) (fun _ hk=>hk.2) (.string t343)) (fun _ h_=>h_.1))) hb);have n2_:=AsZ.mk (Kd.R_below (by (with_reducible repeat (first|apply Kd.R_alloc|apply Kd.R_drewN|apply Kd.R_drew));exact (Kd.R_mono (Kd.R_far (p:=⟨gb346,3,none⟩) (Kd.R_far (p:=⟨gb346,2,none⟩) (Kd.R_far (p:=⟨gb346,1,none⟩) (Kd.R_far (p:=⟨gb346,0,none⟩) (Kd.R_types HO335.out BK346.out (by decide)) (fun _ hk=>hk.2) (.string t340)) (fun _ hk=>hk.2) (.int .i64 t341)) (fun _ hk=>hk.2) (.int .i64 t342)) (fun _ hk=>hk.2) (.string t343)) (fun _ h_=>h_.1))) hb);have n3_:=AsZ.mk (Kd.S_below (by (with_reducible repeat (first|apply Kd.S_alloc|apply Kd.S_drewN|apply Kd.S_drew));exact (Kd.S_mono (Kd.S_far (p:=⟨gb346,3,none⟩) (Kd.S_far (p:=⟨gb346,2,none⟩) (Kd.S_far (p:=⟨gb346,1,none⟩) (Kd.S_far (p:=⟨gb346,0,none⟩) (Kd.S_types HO338.out BK346.out (by decide)) (fun _ hk=>hk.2) (.string t340)) (fun _ hk=>hk.2) (.int .i64 t341)) (fun _ hk=>hk.2) (.int .i64 t342)) (fun _ hk=>hk.2) (.string t343)) (fun _ h_=>h_.1))) hb);have n4_:=AsZ.mk (kb (g:=gb318) (o := .cells #[.slice A0_0 l0_0.length c0_0,.slice A0_1 l0_1.length c0_1] 43 (0,0)) (by (with_reducible repeat (first|refine kdN ?_ _|refine kd ?_|refine ka ?_ _));refine blk_far ?_ NB318_346.out _;(with_reducible repeat (first|refine kdN ?_ _|refine kd ?_|refine ka ?_ _));refine blk_far ?_ NB318_346.out _;(with_reducible repeat (first|refine kdN ?_ _|refine kd ?_|refine ka ?_ _));refine blk_far ?_ NB318_346.out _;(with_reducible repeat (first|refine kdN ?_ _|refine kd ?_|refine ka ?_ _));refine blk_far ?_ NB318_346.out _;(with_reducible repeat (first|refine kdN ?_ _|refine kd ?_|refine ka ?_ _));exact BK318.out) hb);have n5_:=AsZ.mk (kb (g:=gb332) (o := .cells #[.string t326,.int .i64 t327,.int .i64 t328,.string t329] 28 (0,0)) (by (with_reducible repeat (first|refine kdN ?_ _|refine kd ?_|refine ka ?_ _));refine blk_far ?_ NB332_346.out _;(with_reducible repeat (first|refine kdN ?_ _|refine kd ?_|refine ka ?_ _));refine blk_far ?_ NB332_346.out _;(with_reducible repeat (first|refine kdN ?_ _|refine kd ?_|refine ka ?_ _));refine blk_far ?_ NB332_346.out _;(with_reducible repeat (first|refine kdN ?_ _|refine kd ?_|refine ka ?_ _));refine blk_far ?_ NB332_346.out _;(with_reducible repeat (first|refine kdN ?_ _|refine kd ?_|refine ka ?_ _));exact BK332.out) hb);have n6_:=AsZ.mk (kb (g:=gb339) (o := .cells #[.slice Ao30 t333.length co30,.slice Ao34 t336.length co34] 26 (0,0)) (by (with_reducible repeat (first|refine kdN ?_ _|refine kd ?_|refine ka ?_ _));refine blk_far ?_ NB339_346.out _;(with_reducible repeat (first|refine kdN ?_ _|refine kd ?_|refine ka ?_ _));refine blk_far ?_ NB339_346.out _;(with_reducible repeat (first|refine kdN ?_ _|refine kd ?_|refine ka ?_ _));refine blk_far ?_ NB339_346.out _;(with_reducible repeat (first|refine kdN ?_ _|refine kd ?_|refine ka ?_ _));refine blk_far ?_ NB339_346.out _;(with_reducible repeat (first|refine kdN ?_ _|refine kd ?_|refine ka ?_ _));exact BK339.out) hb);have n7_:=AsZ.mk (kb (g:=gb346) (o := .cells #[.string t340,.int .i64 t341,.int .i64 t342,.string t343] 28 (0,0)) (by (with_reducible repeat (first|refine kdN ?_ _|refine kd ?_|refine ka ?_ _));refine blk_put (cs:=#[.string t340,.int .i64 t341,.int .i64 t342,.string (⟨#[]⟩:ByteArray)]) ?_ 3 _ rfl;(with_reducible repeat (first|refine kdN ?_ _|refine kd ?_|refine ka ?_ _));refine blk_put (cs:=#[.string t340,.int .i64 t341,.int .i64 0,.string (⟨#[]⟩:ByteArray)]) ?_ 2 _ rfl;(with_reducible repeat (first|refine kdN ?_ _|refine kd ?_|refine ka ?_ _));refine blk_put (cs:=#[.string t340,.int .i64 0,.int .i64 0,.string (⟨#[]⟩:ByteArray)]) ?_ 1 _ rfl;(with_reducible repeat (first|refine kdN ?_ _|refine kd ?_|refine ka ?_ _));refine blk_put (cs:=#[.string (⟨#[]⟩:ByteArray),.int .i64 0,.int .i64 0,.string (⟨#[]⟩:ByteArray)]) ?_ 0 _ rfl;(with_reducible repeat (first|refine kdN ?_ _|refine kd ?_|refine ka ?_ _));exact BK346.out) hb);have n8_:=AsZ.mk (bwp (by repeat (first|(with_reducible first|exact HB.out|apply bwa|apply pbN|apply bw1|refine bws ?_ GE318.out|refine bws ?_ GE332.out|refine bws ?_ GE339.out|refine bws ?_ GE346.out)|exact HB.out)) hb);clear HO322;clear HO325;clear HO335;clear HO338;clear BK318;clear BK332;clear BK339;clear BK346;clear HB;have HO322:=n0_;have HO325:=n1_;have HO335:=n2_;have HO338:=n3_;have BK318:=n4_;have BK332:=n5_;have BK339:=n6_;have BK346:=n7_;have HB:=n8_;clear n0_ n1_ n2_ n3_ n4_ n5_ n6_ n7_ n8_;(try clear hb);(try clear hb2);(try clear hk);(try clear hi)))
    go_meet
    case rel=>exact ⟨_,(true),(by first|rfl|(simp;done)|(simp [*];done)),H',⟨by first|omega|exact Nat.le_refl _⟩,⟨by (with_reducible repeat (first|apply Kd.R_alloc|apply Kd.R_drewN|apply Kd.R_drew));exact Kd.R_mono HO335.out (fun _ hk=>trivial)⟩,⟨by (with_reducible repeat (first|apply Kd.S_alloc|apply Kd.S_drewN|apply Kd.S_drew));exact Kd.S_mono HO338.out (fun _ hk=>hk.1.1)⟩,⟨by (with_reducible repeat (first|refine kdN ?_ _|refine kd ?_|refine ka ?_ _));exact BK318.out⟩,⟨by (with_reducible repeat (first|refine kdN ?_ _|refine kd ?_|refine ka ?_ _));exact BK332.out⟩,⟨by (with_reducible repeat (first|refine kdN ?_ _|refine kd ?_|refine ka ?_ _));exact BK339.out⟩,⟨by (with_reducible repeat (first|refine kdN ?_ _|refine kd ?_|refine ka ?_ _));exact BK346.out⟩,⟨by repeat (first|(with_reducible first|exact HB.out|apply bwa|apply pbN|apply bw1|refine bws ?_ GE318.out|refine bws ?_ GE332.out|refine bws ?_ GE339.out|refine bws ?_ GE346.out)|exact HB.out)⟩⟩
  subst c42
  have H1:(if t344=t330 then (laws_FnExactSeekSkip.j0 k (t345 != t331) l0_0 l0_1 t333 t336) else (laws_FnExactSeekSkip.j0 k true l0_0 l0_1 t333 t336))=some r:=by rw [if_pos rfl] at H;exact H
  clear H
  have H:=H1
  clear H1
  by_cases c43:t344=t330
  rotate_left
  · rw [if_neg c43] at H
    have c43b0:(t344 == t330)=false:=beq_eq_false_iff_ne.mpr c43
    have c43b1:(t344 != t330)=true:=bne_iff_ne.mpr c43
    (first|rw [c43b0]|(simp only [i64_w,i32_w];rw [c43b0])|rw [c43b1]|skip)
    have H':=AsZ.mk H
    clear H
    have hnb52:=NB346_318.out
    have hnc52:=NB318_346.out
    have hnb53:=NB346_332.out
    have hnc53:=NB332_346.out
    have hnb54:=NB346_339.out
    have hnc54:=NB339_346.out
    have hcz55_0:w36.cell? ⟨gb346,0,none⟩=some (.string (⟨#[]⟩:ByteArray)):=(kc BK346.out 0).trans rfl
    have hcz55_1:w36.cell? ⟨gb346,1,none⟩=some (.int .i64 0):=(kc BK346.out 1).trans rfl
    have hcz55_2:w36.cell? ⟨gb346,2,none⟩=some (.int .i64 0):=(kc BK346.out 2).trans rfl
    have hcz55_3:w36.cell? ⟨gb346,3,none⟩=some (.string (⟨#[]⟩:ByteArray)):=(kc BK346.out 3).trans rfl
    have hfz55_0:=kf BK346.out 0
    have hfz55_1:=kf BK346.out 1
    have hfz55_2:=kf BK346.out 2
    have hfz55_3:=kf BK346.out 3
    have hnb56:=NB332_318.out
    have hnc56:=NB318_332.out
    have hnb57:=NB332_339.out
    have hnc57:=NB339_332.out
    have hcz58_0:w36.cell? ⟨gb332,0,none⟩=some (.string t326):=(kc BK332.out 0).trans rfl
    have hcz58_1:w36.cell? ⟨gb332,1,none⟩=some (.int .i64 t327):=(kc BK332.out 1).trans rfl
    have hcz58_2:w36.cell? ⟨gb332,2,none⟩=some (.int .i64 t328):=(kc BK332.out 2).trans rfl
    have hcz58_3:w36.cell? ⟨gb332,3,none⟩=some (.string t329):=(kc BK332.out 3).trans rfl
    have hfz58_0:=kf BK332.out 0
    have hfz58_1:=kf BK332.out 1
    have hfz58_2:=kf BK332.out 2
    have hfz58_3:=kf BK332.out 3
    go_wp2_with (first|((with_reducible refine gcl (f:=33) rfl ?_);refine goesL_ (some 44) rfl rfl Tryd.func33 (by kernel_rfl) rfl #[.agg #[.string t340,.int .i64 t341,.int .i64 t342,.string t343],.agg #[.string t326,.int .i64 t327,.int .i64 t328,.string t329]] rfl (by (try simp only [zA,zC,zN]);first|done|rfl|(simp only [zM,zL];rfl)) ?_;(with_reducible refine (laws_eqItem.calls t340 t341 t342 t343 t326 t327 t328 t329 true _ A41.out).mono ?_);rintro e w59 ⟨rfl,hb⟩;refine ⟨_,rfl,?_⟩;have n0_:=AsZ.mk (Kd.R_below (by (with_reducible repeat (first|apply Kd.R_alloc|apply Kd.R_drewN|apply Kd.R_drew));exact (Kd.R_mono (Kd.R_far (p:=⟨gb346,3,none⟩) (Kd.R_far (p:=⟨gb346,2,none⟩) (Kd.R_far (p:=⟨gb346,1,none⟩) (Kd.R_far (p:=⟨gb346,0,none⟩) (Kd.R_types HO322.out BK346.out (by decide)) (fun _ hk=>hk.2) (.string t340)) (fun _ hk=>hk.2) (.int .i64 t341)) (fun _ hk=>hk.2) (.int .i64 t342)) (fun _ hk=>hk.2) (.string t343)) (fun _ h_=>h_.1))) hb);have n1_:=AsZ.mk (Kd.S_below (by (with_reducible repeat (first|apply Kd.S_alloc|apply Kd.S_drewN|apply Kd.S_drew));exact (Kd.S_mono (Kd.S_far (p:=⟨gb346,3,none⟩) (Kd.S_far (p:=⟨gb346,2,none⟩) (Kd.S_far (p:=⟨gb346,1,none⟩) (Kd.S_far (p:=⟨gb346,0,none⟩) (Kd.S_types HO325.out BK346.out (by decide)) (fun _ hk=>hk.2) (.string t340)) (fun _ hk=>hk.2) (.int .i64 t341)) (fun _ hk=>hk.2) (.int .i64 t342)) (fun _ hk=>hk.2) (.string t343)) (fun _ h_=>h_.1))) hb);have n2_:=AsZ.mk (Kd.R_below (by (with_reducible repeat (first|apply Kd.R_alloc|apply Kd.R_drewN|apply Kd.R_drew));exact (Kd.R_mono (Kd.R_far (p:=⟨gb346,3,none⟩) (Kd.R_far (p:=⟨gb346,2,none⟩) (Kd.R_far (p:=⟨gb346,1,none⟩) (Kd.R_far (p:=⟨gb346,0,none⟩) (Kd.R_types HO335.out BK346.out (by decide)) (fun _ hk=>hk.2) (.string t340)) (fun _ hk=>hk.2) (.int .i64 t341)) (fun _ hk=>hk.2) (.int .i64 t342)) (fun _ hk=>hk.2) (.string t343)) (fun _ h_=>h_.1))) hb);have n3_:=AsZ.mk (Kd.S_below (by (with_reducible repeat (first|apply Kd.S_alloc|apply Kd.S_drewN|apply Kd.S_drew));exact (Kd.S_mono (Kd.S_far (p:=⟨gb346,3,none⟩) (Kd.S_far (p:=⟨gb346,2,none⟩) (Kd.S_far (p:=⟨gb346,1,none⟩) (Kd.S_far (p:=⟨gb346,0,none⟩) (Kd.S_types HO338.out BK346.out (by decide)) (fun _ hk=>hk.2) (.string t340)) (fun _ hk=>hk.2) (.int .i64 t341)) (fun _ hk=>hk.2) (.int .i64 t342)) (fun _ hk=>hk.2) (.string t343)) (fun _ h_=>h_.1))) hb);have n4_:=AsZ.mk (kb (g:=gb318) (o := .cells #[.slice A0_0 l0_0.length c0_0,.slice A0_1 l0_1.length c0_1] 43 (0,0)) (by (with_reducible repeat (first|refine kdN ?_ _|refine kd ?_|refine ka ?_ _));refine blk_far ?_ NB318_346.out _;(with_reducible repeat (first|refine kdN ?_ _|refine kd ?_|refine ka ?_ _));refine blk_far ?_ NB318_346.out _;(with_reducible repeat (first|refine kdN ?_ _|refine kd ?_|refine ka ?_ _));refine blk_far ?_ NB318_346.out _;(with_reducible repeat (first|refine kdN ?_ _|refine kd ?_|refine ka ?_ _));refine blk_far ?_ NB318_346.out _;(with_reducible repeat (first|refine kdN ?_ _|refine kd ?_|refine ka ?_ _));exact BK318.out) hb);have n5_:=AsZ.mk (kb (g:=gb332) (o := .cells #[.string t326,.int .i64 t327,.int .i64 t328,.string t329] 28 (0,0)) (by (with_reducible repeat (first|refine kdN ?_ _|refine kd ?_|refine ka ?_ _));refine blk_far ?_ NB332_346.out _;(with_reducible repeat (first|refine kdN ?_ _|refine kd ?_|refine ka ?_ _));refine blk_far ?_ NB332_346.out _;(with_reducible repeat (first|refine kdN ?_ _|refine kd ?_|refine ka ?_ _));refine blk_far ?_ NB332_346.out _;(with_reducible repeat (first|refine kdN ?_ _|refine kd ?_|refine ka ?_ _));refine blk_far ?_ NB332_346.out _;(with_reducible repeat (first|refine kdN ?_ _|refine kd ?_|refine ka ?_ _));exact BK332.out) hb);have n6_:=AsZ.mk (kb (g:=gb339) (o := .cells #[.slice Ao30 t333.length co30,.slice Ao34 t336.length co34] 26 (0,0)) (by (with_reducible repeat (first|refine kdN ?_ _|refine kd ?_|refine ka ?_ _));refine blk_far ?_ NB339_346.out _;(with_reducible repeat (first|refine kdN ?_ _|refine kd ?_|refine ka ?_ _));refine blk_far ?_ NB339_346.out _;(with_reducible repeat (first|refine kdN ?_ _|refine kd ?_|refine ka ?_ _));refine blk_far ?_ NB339_346.out _;(with_reducible repeat (first|refine kdN ?_ _|refine kd ?_|refine ka ?_ _));refine blk_far ?_ NB339_346.out _;(with_reducible repeat (first|refine kdN ?_ _|refine kd ?_|refine ka ?_ _));exact BK339.out) hb);have n7_:=AsZ.mk (kb (g:=gb346) (o := .cells #[.string t340,.int .i64 t341,.int .i64 t342,.string t343] 28 (0,0)) (by (with_reducible repeat (first|refine kdN ?_ _|refine kd ?_|refine ka ?_ _));refine blk_put (cs:=#[.string t340,.int .i64 t341,.int .i64 t342,.string (⟨#[]⟩:ByteArray)]) ?_ 3 _ rfl;(with_reducible repeat (first|refine kdN ?_ _|refine kd ?_|refine ka ?_ _));refine blk_put (cs:=#[.string t340,.int .i64 t341,.int .i64 0,.string (⟨#[]⟩:ByteArray)]) ?_ 2 _ rfl;(with_reducible repeat (first|refine kdN ?_ _|refine kd ?_|refine ka ?_ _));refine blk_put (cs:=#[.string t340,.int .i64 0,.int .i64 0,.string (⟨#[]⟩:ByteArray)]) ?_ 1 _ rfl;(with_reducible repeat (first|refine kdN ?_ _|refine kd ?_|refine ka ?_ _));refine blk_put (cs:=#[.string (⟨#[]⟩:ByteArray),.int .i64 0,.int .i64 0,.string (⟨#[]⟩:ByteArray)]) ?_ 0 _ rfl;(with_reducible repeat (first|refine kdN ?_ _|refine kd ?_|refine ka ?_ _));exact BK346.out) hb);have n8_:=AsZ.mk (bwp (by repeat (first|(with_reducible first|exact HB.out|apply bwa|apply pbN|apply bw1|refine bws ?_ GE318.out|refine bws ?_ GE332.out|refine bws ?_ GE339.out|refine bws ?_ GE346.out)|exact HB.out)) hb);clear HO322;clear HO325;clear HO335;clear HO338;clear BK318;clear BK332;clear BK339;clear BK346;clear HB;have HO322:=n0_;have HO325:=n1_;have HO335:=n2_;have HO338:=n3_;have BK318:=n4_;have BK332:=n5_;have BK339:=n6_;have BK346:=n7_;have HB:=n8_;clear n0_ n1_ n2_ n3_ n4_ n5_ n6_ n7_ n8_;(try clear hb);(try clear hb2);(try clear hk);(try clear hi)))
    go_meet
    case rel=>exact ⟨_,(true),(by first|rfl|(simp;done)|(simp [*];done)),H',⟨by first|omega|exact Nat.le_refl _⟩,⟨by (with_reducible repeat (first|apply Kd.R_alloc|apply Kd.R_drewN|apply Kd.R_drew));exact Kd.R_mono HO335.out (fun _ hk=>trivial)⟩,⟨by (with_reducible repeat (first|apply Kd.S_alloc|apply Kd.S_drewN|apply Kd.S_drew));exact Kd.S_mono HO338.out (fun _ hk=>hk.1.1)⟩,⟨by (with_reducible repeat (first|refine kdN ?_ _|refine kd ?_|refine ka ?_ _));exact BK318.out⟩,⟨by (with_reducible repeat (first|refine kdN ?_ _|refine kd ?_|refine ka ?_ _));exact BK332.out⟩,⟨by (with_reducible repeat (first|refine kdN ?_ _|refine kd ?_|refine ka ?_ _));exact BK339.out⟩,⟨by (with_reducible repeat (first|refine kdN ?_ _|refine kd ?_|refine ka ?_ _));exact BK346.out⟩,⟨by repeat (first|(with_reducible first|exact HB.out|apply bwa|apply pbN|apply bw1|refine bws ?_ GE318.out|refine bws ?_ GE332.out|refine bws ?_ GE339.out|refine bws ?_ GE346.out)|exact HB.out)⟩⟩
  rw [if_pos c43] at H
  have c43b0:(t344 == t330)=true:=beq_iff_eq.mpr c43
  have c43b1:(t344 != t330)=false:=bne_eq_false_iff_eq.mpr c43
  clear c43
  (first|rw [c43b0]|(simp only [i64_w,i32_w];rw [c43b0])|rw [c43b1]|skip)
  have H':=AsZ.mk H
  clear H
  have hnb44:=NB346_318.out
  have hnc44:=NB318_346.out
  have hnb45:=NB346_332.out
  have hnc45:=NB332_346.out
  have hnb46:=NB346_339.out
  have hnc46:=NB339_346.out
  have hcz47_0:w36.cell? ⟨gb346,0,none⟩=some (.string (⟨#[]⟩:ByteArray)):=(kc BK346.out 0).trans rfl
  have hcz47_1:w36.cell? ⟨gb346,1,none⟩=some (.int .i64 0):=(kc BK346.out 1).trans rfl
  have hcz47_2:w36.cell? ⟨gb346,2,none⟩=some (.int .i64 0):=(kc BK346.out 2).trans rfl
  have hcz47_3:w36.cell? ⟨gb346,3,none⟩=some (.string (⟨#[]⟩:ByteArray)):=(kc BK346.out 3).trans rfl
  have hfz47_0:=kf BK346.out 0
  have hfz47_1:=kf BK346.out 1
  have hfz47_2:=kf BK346.out 2
  have hfz47_3:=kf BK346.out 3
  have hnb48:=NB332_318.out
  have hnc48:=NB318_332.out
  have hnb49:=NB332_339.out
  have hnc49:=NB339_332.out
  have hcz50_0:w36.cell? ⟨gb332,0,none⟩=some (.string t326):=(kc BK332.out 0).trans rfl
  have hcz50_1:w36.cell? ⟨gb332,1,none⟩=some (.int .i64 t327):=(kc BK332.out 1).trans rfl
  have hcz50_2:w36.cell? ⟨gb332,2,none⟩=some (.int .i64 t328):=(kc BK332.out 2).trans rfl
  have hcz50_3:w36.cell? ⟨gb332,3,none⟩=some (.string t329):=(kc BK332.out 3).trans rfl
  have hfz50_0:=kf BK332.out 0
  have hfz50_1:=kf BK332.out 1
  have hfz50_2:=kf BK332.out 2
  have hfz50_3:=kf BK332.out 3
  go_wp2_with (first|((with_reducible refine gcl (f:=33) rfl ?_);refine goesL_ (some 44) rfl rfl Tryd.func33 (by kernel_rfl) rfl #[.agg #[.string t340,.int .i64 t341,.int .i64 t342,.string t343],.agg #[.string t326,.int .i64 t327,.int .i64 t328,.string t329]] rfl (by (try simp only [zA,zC,zN]);first|done|rfl|(simp only [zM,zL];rfl)) ?_;(with_reducible refine (laws_eqItem.calls t340 t341 t342 t343 t326 t327 t328 t329 true _ A41.out).mono ?_);rintro e w51 ⟨rfl,hb⟩;refine ⟨_,rfl,?_⟩;have n0_:=AsZ.mk (Kd.R_below (by (with_reducible repeat (first|apply Kd.R_alloc|apply Kd.R_drewN|apply Kd.R_drew));exact (Kd.R_mono (Kd.R_far (p:=⟨gb346,3,none⟩) (Kd.R_far (p:=⟨gb346,2,none⟩) (Kd.R_far (p:=⟨gb346,1,none⟩) (Kd.R_far (p:=⟨gb346,0,none⟩) (Kd.R_types HO322.out BK346.out (by decide)) (fun _ hk=>hk.2) (.string t340)) (fun _ hk=>hk.2) (.int .i64 t341)) (fun _ hk=>hk.2) (.int .i64 t342)) (fun _ hk=>hk.2) (.string t343)) (fun _ h_=>h_.1))) hb);have n1_:=AsZ.mk (Kd.S_below (by (with_reducible repeat (first|apply Kd.S_alloc|apply Kd.S_drewN|apply Kd.S_drew));exact (Kd.S_mono (Kd.S_far (p:=⟨gb346,3,none⟩) (Kd.S_far (p:=⟨gb346,2,none⟩) (Kd.S_far (p:=⟨gb346,1,none⟩) (Kd.S_far (p:=⟨gb346,0,none⟩) (Kd.S_types HO325.out BK346.out (by decide)) (fun _ hk=>hk.2) (.string t340)) (fun _ hk=>hk.2) (.int .i64 t341)) (fun _ hk=>hk.2) (.int .i64 t342)) (fun _ hk=>hk.2) (.string t343)) (fun _ h_=>h_.1))) hb);have n2_:=AsZ.mk (Kd.R_below (by (with_reducible repeat (first|apply Kd.R_alloc|apply Kd.R_drewN|apply Kd.R_drew));exact (Kd.R_mono (Kd.R_far (p:=⟨gb346,3,none⟩) (Kd.R_far (p:=⟨gb346,2,none⟩) (Kd.R_far (p:=⟨gb346,1,none⟩) (Kd.R_far (p:=⟨gb346,0,none⟩) (Kd.R_types HO335.out BK346.out (by decide)) (fun _ hk=>hk.2) (.string t340)) (fun _ hk=>hk.2) (.int .i64 t341)) (fun _ hk=>hk.2) (.int .i64 t342)) (fun _ hk=>hk.2) (.string t343)) (fun _ h_=>h_.1))) hb);have n3_:=AsZ.mk (Kd.S_below (by (with_reducible repeat (first|apply Kd.S_alloc|apply Kd.S_drewN|apply Kd.S_drew));exact (Kd.S_mono (Kd.S_far (p:=⟨gb346,3,none⟩) (Kd.S_far (p:=⟨gb346,2,none⟩) (Kd.S_far (p:=⟨gb346,1,none⟩) (Kd.S_far (p:=⟨gb346,0,none⟩) (Kd.S_types HO338.out BK346.out (by decide)) (fun _ hk=>hk.2) (.string t340)) (fun _ hk=>hk.2) (.int .i64 t341)) (fun _ hk=>hk.2) (.int .i64 t342)) (fun _ hk=>hk.2) (.string t343)) (fun _ h_=>h_.1))) hb);have n4_:=AsZ.mk (kb (g:=gb318) (o := .cells #[.slice A0_0 l0_0.length c0_0,.slice A0_1 l0_1.length c0_1] 43 (0,0)) (by (with_reducible repeat (first|refine kdN ?_ _|refine kd ?_|refine ka ?_ _));refine blk_far ?_ NB318_346.out _;(with_reducible repeat (first|refine kdN ?_ _|refine kd ?_|refine ka ?_ _));refine blk_far ?_ NB318_346.out _;(with_reducible repeat (first|refine kdN ?_ _|refine kd ?_|refine ka ?_ _));refine blk_far ?_ NB318_346.out _;(with_reducible repeat (first|refine kdN ?_ _|refine kd ?_|refine ka ?_ _));refine blk_far ?_ NB318_346.out _;(with_reducible repeat (first|refine kdN ?_ _|refine kd ?_|refine ka ?_ _));exact BK318.out) hb);have n5_:=AsZ.mk (kb (g:=gb332) (o := .cells #[.string t326,.int .i64 t327,.int .i64 t328,.string t329] 28 (0,0)) (by (with_reducible repeat (first|refine kdN ?_ _|refine kd ?_|refine ka ?_ _));refine blk_far ?_ NB332_346.out _;(with_reducible repeat (first|refine kdN ?_ _|refine kd ?_|refine ka ?_ _));refine blk_far ?_ NB332_346.out _;(with_reducible repeat (first|refine kdN ?_ _|refine kd ?_|refine ka ?_ _));refine blk_far ?_ NB332_346.out _;(with_reducible repeat (first|refine kdN ?_ _|refine kd ?_|refine ka ?_ _));refine blk_far ?_ NB332_346.out _;(with_reducible repeat (first|refine kdN ?_ _|refine kd ?_|refine ka ?_ _));exact BK332.out) hb);have n6_:=AsZ.mk (kb (g:=gb339) (o := .cells #[.slice Ao30 t333.length co30,.slice Ao34 t336.length co34] 26 (0,0)) (by (with_reducible repeat (first|refine kdN ?_ _|refine kd ?_|refine ka ?_ _));refine blk_far ?_ NB339_346.out _;(with_reducible repeat (first|refine kdN ?_ _|refine kd ?_|refine ka ?_ _));refine blk_far ?_ NB339_346.out _;(with_reducible repeat (first|refine kdN ?_ _|refine kd ?_|refine ka ?_ _));refine blk_far ?_ NB339_346.out _;(with_reducible repeat (first|refine kdN ?_ _|refine kd ?_|refine ka ?_ _));refine blk_far ?_ NB339_346.out _;(with_reducible repeat (first|refine kdN ?_ _|refine kd ?_|refine ka ?_ _));exact BK339.out) hb);have n7_:=AsZ.mk (kb (g:=gb346) (o := .cells #[.string t340,.int .i64 t341,.int .i64 t342,.string t343] 28 (0,0)) (by (with_reducible repeat (first|refine kdN ?_ _|refine kd ?_|refine ka ?_ _));refine blk_put (cs:=#[.string t340,.int .i64 t341,.int .i64 t342,.string (⟨#[]⟩:ByteArray)]) ?_ 3 _ rfl;(with_reducible repeat (first|refine kdN ?_ _|refine kd ?_|refine ka ?_ _));refine blk_put (cs:=#[.string t340,.int .i64 t341,.int .i64 0,.string (⟨#[]⟩:ByteArray)]) ?_ 2 _ rfl;(with_reducible repeat (first|refine kdN ?_ _|refine kd ?_|refine ka ?_ _));refine blk_put (cs:=#[.string t340,.int .i64 0,.int .i64 0,.string (⟨#[]⟩:ByteArray)]) ?_ 1 _ rfl;(with_reducible repeat (first|refine kdN ?_ _|refine kd ?_|refine ka ?_ _));refine blk_put (cs:=#[.string (⟨#[]⟩:ByteArray),.int .i64 0,.int .i64 0,.string (⟨#[]⟩:ByteArray)]) ?_ 0 _ rfl;(with_reducible repeat (first|refine kdN ?_ _|refine kd ?_|refine ka ?_ _));exact BK346.out) hb);have n8_:=AsZ.mk (bwp (by repeat (first|(with_reducible first|exact HB.out|apply bwa|apply pbN|apply bw1|refine bws ?_ GE318.out|refine bws ?_ GE332.out|refine bws ?_ GE339.out|refine bws ?_ GE346.out)|exact HB.out)) hb);clear HO322;clear HO325;clear HO335;clear HO338;clear BK318;clear BK332;clear BK339;clear BK346;clear HB;have HO322:=n0_;have HO325:=n1_;have HO335:=n2_;have HO338:=n3_;have BK318:=n4_;have BK332:=n5_;have BK339:=n6_;have BK346:=n7_;have HB:=n8_;clear n0_ n1_ n2_ n3_ n4_ n5_ n6_ n7_ n8_;(try clear hb);(try clear hb2);(try clear hk);(try clear hi)))
  go_meet
  case rel=>exact ⟨_,((t345 != t331)),(by first|rfl|(simp;done)|(simp [*];done)),H',⟨by first|omega|exact Nat.le_refl _⟩,⟨by (with_reducible repeat (first|apply Kd.R_alloc|apply Kd.R_drewN|apply Kd.R_drew));exact Kd.R_mono HO335.out (fun _ hk=>trivial)⟩,⟨by (with_reducible repeat (first|apply Kd.S_alloc|apply Kd.S_drewN|apply Kd.S_drew));exact Kd.S_mono HO338.out (fun _ hk=>hk.1.1)⟩,⟨by (with_reducible repeat (first|refine kdN ?_ _|refine kd ?_|refine ka ?_ _));exact BK318.out⟩,⟨by (with_reducible repeat (first|refine kdN ?_ _|refine kd ?_|refine ka ?_ _));exact BK332.out⟩,⟨by (with_reducible repeat (first|refine kdN ?_ _|refine kd ?_|refine ka ?_ _));exact BK339.out⟩,⟨by (with_reducible repeat (first|refine kdN ?_ _|refine kd ?_|refine ka ?_ _));exact BK346.out⟩,⟨by repeat (first|(with_reducible first|exact HB.out|apply bwa|apply pbN|apply bw1|refine bws ?_ GE318.out|refine bws ?_ GE332.out|refine bws ?_ GE339.out|refine bws ?_ GE346.out)|exact HB.out)⟩⟩
 case rest =>
  clear HC15
  try clear c1
  try clear c2
  try clear p2
  try clear c3
  try clear c4
  try clear c4b0
  try clear c4b1
  try clear c5
  try clear c6
  try clear c7
  try clear c7b0
  try clear c8
  try clear c18
  try clear c20
  try clear c25
  try clear c31
  try clear c32
  try clear c33
  try clear c37
  try clear c38
  try clear c39
  try clear c42
  try clear c43
  try clear c43b0
  try clear c43b1
  try clear c44
  try clear c45
  try clear c46
  try clear c48
  try clear c49
  try clear c52
  try clear c53
  try clear c54
  try clear c56
  try clear c57
  try clear c60
  try clear c61
  try clear c62
  try clear c64
  try clear c65
  try clear hcz17_0
  try clear hcz17_1
  try clear hcz19_0
  try clear hcz19_1
  try clear hcz26_0
  try clear hcz26_1
  try clear hcz26_2
  try clear hcz26_3
  try clear hcz27_0
  try clear hcz27_1
  try clear hcz33_0
  try clear hcz33_1
  try clear hcz40_0
  try clear hcz40_1
  try clear hcz40_2
  try clear hcz40_3
  try clear hcz47_0
  try clear hcz47_1
  try clear hcz47_2
  try clear hcz47_3
  try clear hcz50_0
  try clear hcz50_1
  try clear hcz50_2
  try clear hcz50_3
  try clear hcz55_0
  try clear hcz55_1
  try clear hcz55_2
  try clear hcz55_3
  try clear hcz58_0
  try clear hcz58_1
  try clear hcz58_2
  try clear hcz58_3
  try clear hcz63_0
  try clear hcz63_1
  try clear hcz63_2
  try clear hcz63_3
  try clear hcz66_0
  try clear hcz66_1
  try clear hcz66_2
  try clear hcz66_3
  try clear hcz9_0
  try clear hcz9_1
  try clear hfz17_0
  try clear hfz17_1
  try clear hfz19_0
  try clear hfz19_1
  try clear hfz26_0
  try clear hfz26_1
  try clear hfz26_2
  try clear hfz26_3
  try clear hfz27_0
  try clear hfz27_1
  try clear hfz33_0
  try clear hfz33_1
  try clear hfz40_0
  try clear hfz40_1
  try clear hfz40_2
  try clear hfz40_3
  try clear hfz47_0
  try clear hfz47_1
  try clear hfz47_2
  try clear hfz47_3
  try clear hfz50_0
  try clear hfz50_1
  try clear hfz50_2
  try clear hfz50_3
  try clear hfz55_0
  try clear hfz55_1
  try clear hfz55_2
  try clear hfz55_3
  try clear hfz58_0
  try clear hfz58_1
  try clear hfz58_2
  try clear hfz58_3
  try clear hfz63_0
  try clear hfz63_1
  try clear hfz63_2
  try clear hfz63_3
  try clear hfz66_0
  try clear hfz66_1
  try clear hfz66_2
  try clear hfz66_3
  try clear hfz9_0
  try clear hfz9_1
  obtain ⟨kq,x55_14,rfl,HA,HJ14,HO_340000,HO_340001,BK318,BK332,BK339,BK346,HB⟩:=hcut
  cases kq with
  |zero=>exact absurd HA.out (by simp [laws_FnExactSeekSkip.j0])
  |succ kj14 =>
   have H:=HA.out
   clear HA
   simp only [laws_FnExactSeekSkip.j0] at H
   by_cases c68:x55_14=true
   · subst c68
     have H1:(some false)=some r:=by rw [if_pos rfl] at H;exact H
     clear H
     have H:=H1
     clear H1
     obtain rfl:=zI H
     go_wp2
     go_ret
     exact ⟨by first|rfl|(simp [errW_none,errW_some]<;>rfl)|(simp [*,errW_none,errW_some]<;>rfl),by repeat (first|(with_reducible first|exact HB.out|apply bwa|apply pbN|apply bw1|refine bws ?_ GE318.out|refine bws ?_ GE332.out|refine bws ?_ GE339.out|refine bws ?_ GE346.out)|exact HB.out)⟩
   replace c68:=Bool.eq_false_iff.mpr c68
   subst c68
   have H1:((laws_toSkip.f kj14 l0_0 l0_1).bind fun bt348=>((laws_eqSkip.f kj14 t333 t336 bt348.1 bt348.2).bind fun t354=>(if t354=true then (some true) else (some false))))=some r:=by rw [if_neg (show ¬ (false=true) by decide)] at H;exact H
   clear H
   have H:=H1
   clear H1
   replace H:=Option.bind_eq_some_iff.mp H
   obtain ⟨⟨t348,t351⟩,A690,H⟩:=H
   replace H:((laws_eqSkip.f kj14 t333 t336 t348 t351).bind fun t354=>(if t354=true then (some true) else (some false)))=some r:=H
   have A69:=AsZ.mk A690
   clear A690
   replace H:=Option.bind_eq_some_iff.mp H
   obtain ⟨t354,A700,H⟩:=H
   replace H:(if t354=true then (some true) else (some false))=some r:=H
   have A70:=AsZ.mk A700
   clear A700
   by_cases c71:t354=true
   · subst c71
     have H1:(some true)=some r:=by rw [if_pos rfl] at H;exact H
     clear H
     have H:=H1
     clear H1
     obtain rfl:=zI H
     try go_wp2
     have n0_:=AsZ.mk (Kd.R_drew HO_340000.out)
     have n1_:=AsZ.mk (Kd.S_drew HO_340001.out)
     have n2_:=AsZ.mk (kd BK318.out)
     have n3_:=AsZ.mk (kd BK332.out)
     have n4_:=AsZ.mk (kd BK339.out)
     have n5_:=AsZ.mk (kd BK346.out)
     have n6_:=AsZ.mk (bw1 HB.out)
     clear HO_340000 HO_340001 BK318 BK332 BK339 BK346 HB
     have HO_340000:=n0_
     have HO_340001:=n1_
     have BK318:=n2_
     have BK332:=n3_
     have BK339:=n4_
     have BK346:=n5_
     have HB:=n6_
     clear n0_ n1_ n2_ n3_ n4_ n5_ n6_
     refine start_ (n:=5) (S:=fun w'=>w'.cell? ⟨gb339,0,none⟩=some (.slice Ao30 t333.length co30)∧w'.cell? ⟨gb339,1,none⟩=some (.slice Ao34 t336.length co34)∧w'.cell? ⟨gb318,0,none⟩=some (.slice A0_0 l0_0.length c0_0)∧w'.cell? ⟨gb318,1,none⟩=some (.slice A0_1 l0_1.length c0_1)) (ds:=[]) (b_ 0 5) (by kernel_rfl) rfl rfl ⟨(kc BK339.out 0).trans rfl,(kc BK339.out 1).trans rfl,(kc BK318.out 0).trans rfl,(kc BK318.out 1).trans rfl⟩ (fun hHeld=>?_)
     generalize wc.drew=w72 at HO_340000 HO_340001 BK318 BK332 BK339 BK346 HB hHeld ⊢
     refine take_ (i:=0) (N:=some 56) (v:=?_) (a':=?_) (b_ 1 4) rfl rfl (by kernel_rfl) (fun _ _ _ h=>h) (Or.inl ⟨by rfl,?_⟩) hHeld ?_ ?_
     rotate_left
     · rintro w' ⟨s0,s1,s2,s3⟩
       go_simp
       with_reducible rfl
     rotate_left
     · simp only [Act.put,zS,zT,zU,i64_w,i32_w]
       rfl
     refine take_ (i:=1) (N:=some 57) (v:=?_) (a':=?_) (b_ 2 3) rfl rfl (by kernel_rfl) (fun _ _ _ h=>h) (Or.inl ⟨by rfl,?_⟩) hHeld ?_ ?_
     rotate_left
     · rintro w' ⟨s0,s1,s2,s3⟩
       go_simp
       with_reducible rfl
     rotate_left
     · simp only [Act.put,zS,zT,zU,i64_w,i32_w]
       rfl
     refine one_ (i:=2) (N:=some 58) (b_ 3 2) rfl rfl (by kernel_rfl) (by decide) (fun K hK=>?_)
     refine goes_ Tryd.func20 (by kernel_rfl) rfl #[.agg #[.slice A0_0 l0_0.length c0_0,.slice A0_1 l0_1.length c0_1]] (by rfl) rfl rfl (by (try simp only [zA,zC,zN]);first|done|rfl|(simp only [zM,zL];rfl)) ?_
     with_reducible refine (laws_toSkip.calls kj14 _ _ l0_0 _ _ l0_1 t348 t351 _ ?side1 ?side2 ?side3 ?side4 A69.out).mono ?_
     (case side1=>repeat (first|exact (Kd.C_below HR0_0.out HB.out)|(with_reducible refine Kd.C_alloc ?_ _)|(with_reducible refine Kd.C_drewN ?_ _)|(with_reducible refine Kd.C_drew ?_)))
     (case side2=>exact HC0_0.out)
     (case side3=>repeat (first|exact (Kd.C_below HR0_1.out HB.out)|(with_reducible refine Kd.C_alloc ?_ _)|(with_reducible refine Kd.C_drewN ?_ _)|(with_reducible refine Kd.C_drew ?_)))
     (case side4=>exact HC0_1.out)
     rintro e w73 ⟨v349,v352,rfl,ho0,ho1,hb⟩
     refine ⟨_,rfl,?_⟩
     have n0_:=AsZ.mk (Kd.R_elder' (by (with_reducible repeat (first|apply Kd.R_alloc|apply Kd.R_drewN|apply Kd.R_drew));exact HO_340000.out) (Kd.R_base ho0) hb)
     have n1_:=AsZ.mk (Kd.S_mono (Kd.S_told (Kd.S_told (Kd.S_old (by (with_reducible repeat (first|apply Kd.S_alloc|apply Kd.S_drewN|apply Kd.S_drew));exact HO_340001.out) hb) (Kd.R_base ho0)) (Kd.S_base ho1)) (fun _ h_=>h_.1))
     have n2_:=AsZ.mk (Kd.R_lower (Kd.R_new' ho0 (Kd.R_lt (by (with_reducible repeat (first|apply Kd.R_alloc|apply Kd.R_drewN|apply Kd.R_drew));exact HO_340000.out))) (bwz (by repeat (first|(with_reducible first|exact HB.out|apply bwa|apply pbN|apply bw1|refine bws ?_ GE318.out|refine bws ?_ GE332.out|refine bws ?_ GE339.out|refine bws ?_ GE346.out)|exact HB.out))))
     have n3_:=AsZ.mk (Kd.S_lower (Kd.S_new' (Kd.S_new' ho1 (Kd.R_lt (by (with_reducible repeat (first|apply Kd.R_alloc|apply Kd.R_drewN|apply Kd.R_drew));exact HO_340000.out))) (Kd.S_lt (by (with_reducible repeat (first|apply Kd.S_alloc|apply Kd.S_drewN|apply Kd.S_drew));exact HO_340001.out))) (bwz (by repeat (first|(with_reducible first|exact HB.out|apply bwa|apply pbN|apply bw1|refine bws ?_ GE318.out|refine bws ?_ GE332.out|refine bws ?_ GE339.out|refine bws ?_ GE346.out)|exact HB.out))))
     have n4_:=AsZ.mk (kb (g:=gb318) (o := .cells #[.slice A0_0 l0_0.length c0_0,.slice A0_1 l0_1.length c0_1] 43 (0,0)) (by (with_reducible repeat (first|refine kdN ?_ _|refine kd ?_|refine ka ?_ _));exact BK318.out) hb)
     have n5_:=AsZ.mk (kb (g:=gb332) (o := .cells #[.string t326,.int .i64 t327,.int .i64 t328,.string t329] 28 (0,0)) (by (with_reducible repeat (first|refine kdN ?_ _|refine kd ?_|refine ka ?_ _));exact BK332.out) hb)
     have n6_:=AsZ.mk (kb (g:=gb339) (o := .cells #[.slice Ao30 t333.length co30,.slice Ao34 t336.length co34] 26 (0,0)) (by (with_reducible repeat (first|refine kdN ?_ _|refine kd ?_|refine ka ?_ _));exact BK339.out) hb)
     have n7_:=AsZ.mk (kb (g:=gb346) (o := .cells #[.string t340,.int .i64 t341,.int .i64 t342,.string t343] 28 (0,0)) (by (with_reducible repeat (first|refine kdN ?_ _|refine kd ?_|refine ka ?_ _));exact BK346.out) hb)
     have n8_:=AsZ.mk (bwp (by repeat (first|(with_reducible first|exact HB.out|apply bwa|apply pbN|apply bw1|refine bws ?_ GE318.out|refine bws ?_ GE332.out|refine bws ?_ GE339.out|refine bws ?_ GE346.out)|exact HB.out)) hb)
     clear HO_340000 HO_340001 BK318 BK332 BK339 BK346 HB
     have HO_340000:=n0_
     have HO_340001:=n1_
     have HO350:=n2_
     have HO353:=n3_
     have BK318:=n4_
     have BK332:=n5_
     have BK339:=n6_
     have BK346:=n7_
     have HB:=n8_
     clear n0_ n1_ n2_ n3_ n4_ n5_ n6_ n7_ n8_
     (try clear hb)
     (try clear hb2)
     (try clear hk)
     (try clear hi)
     (try clear ho0)
     (try clear ho1)
     obtain ⟨Ao74,co74,eo74⟩:=Kd.R_slice HO350.out
     (first|subst eo74|(injection eo74 with f1_ f2_ f3_;have f4_:=f1_.symm;have f5_:=f3_.symm;clear f1_ f2_ f3_;subst f4_;subst f5_))
     obtain ⟨Ao75,co75,eo75⟩:=Kd.S_slice HO353.out
     (first|subst eo75|(injection eo75 with f1_ f2_ f3_;have f4_:=f1_.symm;have f5_:=f3_.symm;clear f1_ f2_ f3_;subst f4_;subst f5_))
     refine hK.out _ _ ⟨(kc BK339.out 0).trans rfl,(kc BK339.out 1).trans rfl,(kc BK318.out 0).trans rfl,(kc BK318.out 1).trans rfl⟩ (fun hHeld=>?_)
     clear hK K
     refine norm_ (a':=?_) ?_ ?_
     rotate_left
     · show Act.put _ (some 58) _=_
       simp only [Act.put,zS,zT,zU,i64_w,i32_w]
       rfl
     refine one_ (i:=3) (N:=some 59) (b_ 4 1) rfl rfl (by kernel_rfl) (by decide) (fun K hK=>?_)
     refine goes_ Tryd.func22 (by kernel_rfl) rfl #[.agg #[.slice Ao30 t333.length co30,.slice Ao34 t336.length co34],.agg #[.slice Ao74 t348.length co74,.slice Ao75 t351.length co75]] (by rfl) rfl rfl (by (try simp only [zA,zC,zN]);first|done|rfl|(simp only [zM,zL];rfl)) ?_
     with_reducible refine (laws_eqSkip.calls kj14 _ _ t333 _ _ t336 _ _ t348 _ _ t351 true _ ?side1 ?side2 ?side3 ?side4 ?side5 ?side6 ?side7 ?side8 A70.out).mono ?_
     (case side1=>repeat (first|exact (Kd.R_reads' HO_340000.out).2.2|(with_reducible refine Kd.C_alloc ?_ _)|(with_reducible refine Kd.C_drewN ?_ _)|(with_reducible refine Kd.C_drew ?_)))
     (case side2=>exact (Kd.R_reads' HO_340000.out).2.1)
     (case side3=>repeat (first|exact (Kd.S_reads' HO_340001.out).2.2|(with_reducible refine Kd.C_alloc ?_ _)|(with_reducible refine Kd.C_drewN ?_ _)|(with_reducible refine Kd.C_drew ?_)))
     (case side4=>exact (Kd.S_reads' HO_340001.out).2.1)
     (case side5=>repeat (first|exact (Kd.R_reads' HO350.out).2.2|(with_reducible refine Kd.C_alloc ?_ _)|(with_reducible refine Kd.C_drewN ?_ _)|(with_reducible refine Kd.C_drew ?_)))
     (case side6=>exact (Kd.R_reads' HO350.out).2.1)
     (case side7=>repeat (first|exact (Kd.S_reads' HO353.out).2.2|(with_reducible refine Kd.C_alloc ?_ _)|(with_reducible refine Kd.C_drewN ?_ _)|(with_reducible refine Kd.C_drew ?_)))
     (case side8=>exact (Kd.S_reads' HO353.out).2.1)
     rintro e w76 ⟨rfl,hb⟩
     refine ⟨_,rfl,?_⟩
     have n0_:=AsZ.mk (Kd.R_below (by (with_reducible repeat (first|apply Kd.R_alloc|apply Kd.R_drewN|apply Kd.R_drew));exact HO_340000.out) hb)
     have n1_:=AsZ.mk (Kd.S_below (by (with_reducible repeat (first|apply Kd.S_alloc|apply Kd.S_drewN|apply Kd.S_drew));exact HO_340001.out) hb)
     have n2_:=AsZ.mk (Kd.R_below (by (with_reducible repeat (first|apply Kd.R_alloc|apply Kd.R_drewN|apply Kd.R_drew));exact HO350.out) hb)
     have n3_:=AsZ.mk (Kd.S_below (by (with_reducible repeat (first|apply Kd.S_alloc|apply Kd.S_drewN|apply Kd.S_drew));exact HO353.out) hb)
     have n4_:=AsZ.mk (kb (g:=gb318) (o := .cells #[.slice A0_0 l0_0.length c0_0,.slice A0_1 l0_1.length c0_1] 43 (0,0)) (by (with_reducible repeat (first|refine kdN ?_ _|refine kd ?_|refine ka ?_ _));exact BK318.out) hb)
     have n5_:=AsZ.mk (kb (g:=gb332) (o := .cells #[.string t326,.int .i64 t327,.int .i64 t328,.string t329] 28 (0,0)) (by (with_reducible repeat (first|refine kdN ?_ _|refine kd ?_|refine ka ?_ _));exact BK332.out) hb)
     have n6_:=AsZ.mk (kb (g:=gb339) (o := .cells #[.slice Ao30 t333.length co30,.slice Ao34 t336.length co34] 26 (0,0)) (by (with_reducible repeat (first|refine kdN ?_ _|refine kd ?_|refine ka ?_ _));exact BK339.out) hb)
     have n7_:=AsZ.mk (kb (g:=gb346) (o := .cells #[.string t340,.int .i64 t341,.int .i64 t342,.string t343] 28 (0,0)) (by (with_reducible repeat (first|refine kdN ?_ _|refine kd ?_|refine ka ?_ _));exact BK346.out) hb)
     have n8_:=AsZ.mk (bwp (by repeat (first|(with_reducible first|exact HB.out|apply bwa|apply pbN|apply bw1|refine bws ?_ GE318.out|refine bws ?_ GE332.out|refine bws ?_ GE339.out|refine bws ?_ GE346.out)|exact HB.out)) hb)
     clear HO_340000 HO_340001 HO350 HO353 BK318 BK332 BK339 BK346 HB
     have HO_340000:=n0_
     have HO_340001:=n1_
     have HO350:=n2_
     have HO353:=n3_
     have BK318:=n4_
     have BK332:=n5_
     have BK339:=n6_
     have BK346:=n7_
     have HB:=n8_
     clear n0_ n1_ n2_ n3_ n4_ n5_ n6_ n7_ n8_
     (try clear hb)
     (try clear hb2)
     (try clear hk)
     (try clear hi)
     refine hK.out _ _ ⟨(kc BK339.out 0).trans rfl,(kc BK339.out 1).trans rfl,(kc BK318.out 0).trans rfl,(kc BK318.out 1).trans rfl⟩ (fun hHeld=>?_)
     clear hK K
     refine norm_ (a':=?_) ?_ ?_
     rotate_left
     · show Act.put _ (some 59) _=_
       simp only [Act.put,zS,zT,zU,i64_w,i32_w]
       rfl
     refine pure_ (i:=4) (N:=some 60) (v:=?_) (a':=?_) (b_ 5 0) rfl rfl (by kernel_rfl) (fun _ _ _ h=>h) (Or.inl ⟨by rfl,?_⟩) ?_ ?_
     rotate_left
     · intro w'
       go_simp
       with_reducible rfl
     rotate_left
     · simp only [Act.put,zS,zT,zU,i64_w,i32_w]
       rfl
     refine dn_ (by kernel_rfl) ?_
     try go_wp2
     go_ret
     exact ⟨by first|rfl|(simp [errW_none,errW_some]<;>rfl)|(simp [*,errW_none,errW_some]<;>rfl),by repeat (first|(with_reducible first|exact HB.out|apply bwa|apply pbN|apply bw1|refine bws ?_ GE318.out|refine bws ?_ GE332.out|refine bws ?_ GE339.out|refine bws ?_ GE346.out)|exact HB.out)⟩
   replace c71:=Bool.eq_false_iff.mpr c71
   subst c71
   have H1:(some false)=some r:=by rw [if_neg (show ¬ (false=true) by decide)] at H;exact H
   clear H
   have H:=H1
   clear H1
   obtain rfl:=zI H
   try go_wp2
   have n0_:=AsZ.mk (Kd.R_drew HO_340000.out)
   have n1_:=AsZ.mk (Kd.S_drew HO_340001.out)
   have n2_:=AsZ.mk (kd BK318.out)
   have n3_:=AsZ.mk (kd BK332.out)
   have n4_:=AsZ.mk (kd BK339.out)
   have n5_:=AsZ.mk (kd BK346.out)
   have n6_:=AsZ.mk (bw1 HB.out)
   clear HO_340000 HO_340001 BK318 BK332 BK339 BK346 HB
   have HO_340000:=n0_
   have HO_340001:=n1_
   have BK318:=n2_
   have BK332:=n3_
   have BK339:=n4_
   have BK346:=n5_
   have HB:=n6_
   clear n0_ n1_ n2_ n3_ n4_ n5_ n6_
   refine start_ (n:=5) (S:=fun w'=>w'.cell? ⟨gb339,0,none⟩=some (.slice Ao30 t333.length co30)∧w'.cell? ⟨gb339,1,none⟩=some (.slice Ao34 t336.length co34)∧w'.cell? ⟨gb318,0,none⟩=some (.slice A0_0 l0_0.length c0_0)∧w'.cell? ⟨gb318,1,none⟩=some (.slice A0_1 l0_1.length c0_1)) (ds:=[]) (b_ 0 5) (by kernel_rfl) rfl rfl ⟨(kc BK339.out 0).trans rfl,(kc BK339.out 1).trans rfl,(kc BK318.out 0).trans rfl,(kc BK318.out 1).trans rfl⟩ (fun hHeld=>?_)
   generalize wc.drew=w77 at HO_340000 HO_340001 BK318 BK332 BK339 BK346 HB hHeld ⊢
   refine take_ (i:=0) (N:=some 56) (v:=?_) (a':=?_) (b_ 1 4) rfl rfl (by kernel_rfl) (fun _ _ _ h=>h) (Or.inl ⟨by rfl,?_⟩) hHeld ?_ ?_
   rotate_left
   · rintro w' ⟨s0,s1,s2,s3⟩
     go_simp
     with_reducible rfl
   rotate_left
   · simp only [Act.put,zS,zT,zU,i64_w,i32_w]
     rfl
   refine take_ (i:=1) (N:=some 57) (v:=?_) (a':=?_) (b_ 2 3) rfl rfl (by kernel_rfl) (fun _ _ _ h=>h) (Or.inl ⟨by rfl,?_⟩) hHeld ?_ ?_
   rotate_left
   · rintro w' ⟨s0,s1,s2,s3⟩
     go_simp
     with_reducible rfl
   rotate_left
   · simp only [Act.put,zS,zT,zU,i64_w,i32_w]
     rfl
   refine one_ (i:=2) (N:=some 58) (b_ 3 2) rfl rfl (by kernel_rfl) (by decide) (fun K hK=>?_)
   refine goes_ Tryd.func20 (by kernel_rfl) rfl #[.agg #[.slice A0_0 l0_0.length c0_0,.slice A0_1 l0_1.length c0_1]] (by rfl) rfl rfl (by (try simp only [zA,zC,zN]);first|done|rfl|(simp only [zM,zL];rfl)) ?_
   with_reducible refine (laws_toSkip.calls kj14 _ _ l0_0 _ _ l0_1 t348 t351 _ ?side1 ?side2 ?side3 ?side4 A69.out).mono ?_
   (case side1=>repeat (first|exact (Kd.C_below HR0_0.out HB.out)|(with_reducible refine Kd.C_alloc ?_ _)|(with_reducible refine Kd.C_drewN ?_ _)|(with_reducible refine Kd.C_drew ?_)))
   (case side2=>exact HC0_0.out)
   (case side3=>repeat (first|exact (Kd.C_below HR0_1.out HB.out)|(with_reducible refine Kd.C_alloc ?_ _)|(with_reducible refine Kd.C_drewN ?_ _)|(with_reducible refine Kd.C_drew ?_)))
   (case side4=>exact HC0_1.out)
   rintro e w78 ⟨v349,v352,rfl,ho0,ho1,hb⟩
   refine ⟨_,rfl,?_⟩
   have n0_:=AsZ.mk (Kd.R_elder' (by (with_reducible repeat (first|apply Kd.R_alloc|apply Kd.R_drewN|apply Kd.R_drew));exact HO_340000.out) (Kd.R_base ho0) hb)
   have n1_:=AsZ.mk (Kd.S_mono (Kd.S_told (Kd.S_told (Kd.S_old (by (with_reducible repeat (first|apply Kd.S_alloc|apply Kd.S_drewN|apply Kd.S_drew));exact HO_340001.out) hb) (Kd.R_base ho0)) (Kd.S_base ho1)) (fun _ h_=>h_.1))
   have n2_:=AsZ.mk (Kd.R_lower (Kd.R_new' ho0 (Kd.R_lt (by (with_reducible repeat (first|apply Kd.R_alloc|apply Kd.R_drewN|apply Kd.R_drew));exact HO_340000.out))) (bwz (by repeat (first|(with_reducible first|exact HB.out|apply bwa|apply pbN|apply bw1|refine bws ?_ GE318.out|refine bws ?_ GE332.out|refine bws ?_ GE339.out|refine bws ?_ GE346.out)|exact HB.out))))
   have n3_:=AsZ.mk (Kd.S_lower (Kd.S_new' (Kd.S_new' ho1 (Kd.R_lt (by (with_reducible repeat (first|apply Kd.R_alloc|apply Kd.R_drewN|apply Kd.R_drew));exact HO_340000.out))) (Kd.S_lt (by (with_reducible repeat (first|apply Kd.S_alloc|apply Kd.S_drewN|apply Kd.S_drew));exact HO_340001.out))) (bwz (by repeat (first|(with_reducible first|exact HB.out|apply bwa|apply pbN|apply bw1|refine bws ?_ GE318.out|refine bws ?_ GE332.out|refine bws ?_ GE339.out|refine bws ?_ GE346.out)|exact HB.out))))
   have n4_:=AsZ.mk (kb (g:=gb318) (o := .cells #[.slice A0_0 l0_0.length c0_0,.slice A0_1 l0_1.length c0_1] 43 (0,0)) (by (with_reducible repeat (first|refine kdN ?_ _|refine kd ?_|refine ka ?_ _));exact BK318.out) hb)
   have n5_:=AsZ.mk (kb (g:=gb332) (o := .cells #[.string t326,.int .i64 t327,.int .i64 t328,.string t329] 28 (0,0)) (by (with_reducible repeat (first|refine kdN ?_ _|refine kd ?_|refine ka ?_ _));exact BK332.out) hb)
   have n6_:=AsZ.mk (kb (g:=gb339) (o := .cells #[.slice Ao30 t333.length co30,.slice Ao34 t336.length co34] 26 (0,0)) (by (with_reducible repeat (first|refine kdN ?_ _|refine kd ?_|refine ka ?_ _));exact BK339.out) hb)
   have n7_:=AsZ.mk (kb (g:=gb346) (o := .cells #[.string t340,.int .i64 t341,.int .i64 t342,.string t343] 28 (0,0)) (by (with_reducible repeat (first|refine kdN ?_ _|refine kd ?_|refine ka ?_ _));exact BK346.out) hb)
   have n8_:=AsZ.mk (bwp (by repeat (first|(with_reducible first|exact HB.out|apply bwa|apply pbN|apply bw1|refine bws ?_ GE318.out|refine bws ?_ GE332.out|refine bws ?_ GE339.out|refine bws ?_ GE346.out)|exact HB.out)) hb)
   clear HO_340000 HO_340001 BK318 BK332 BK339 BK346 HB
   have HO_340000:=n0_
   have HO_340001:=n1_
   have HO350:=n2_
   have HO353:=n3_
   have BK318:=n4_
   have BK332:=n5_
   have BK339:=n6_
   have BK346:=n7_
   have HB:=n8_
   clear n0_ n1_ n2_ n3_ n4_ n5_ n6_ n7_ n8_
   (try clear hb)
   (try clear hb2)
   (try clear hk)
   (try clear hi)
   (try clear ho0)
   (try clear ho1)
   obtain ⟨Ao79,co79,eo79⟩:=Kd.R_slice HO350.out
   (first|subst eo79|(injection eo79 with f1_ f2_ f3_;have f4_:=f1_.symm;have f5_:=f3_.symm;clear f1_ f2_ f3_;subst f4_;subst f5_))
   obtain ⟨Ao80,co80,eo80⟩:=Kd.S_slice HO353.out
   (first|subst eo80|(injection eo80 with f1_ f2_ f3_;have f4_:=f1_.symm;have f5_:=f3_.symm;clear f1_ f2_ f3_;subst f4_;subst f5_))
   refine hK.out _ _ ⟨(kc BK339.out 0).trans rfl,(kc BK339.out 1).trans rfl,(kc BK318.out 0).trans rfl,(kc BK318.out 1).trans rfl⟩ (fun hHeld=>?_)
   clear hK K
   refine norm_ (a':=?_) ?_ ?_
   rotate_left
   · show Act.put _ (some 58) _=_
     simp only [Act.put,zS,zT,zU,i64_w,i32_w]
     rfl
   refine one_ (i:=3) (N:=some 59) (b_ 4 1) rfl rfl (by kernel_rfl) (by decide) (fun K hK=>?_)
   refine goes_ Tryd.func22 (by kernel_rfl) rfl #[.agg #[.slice Ao30 t333.length co30,.slice Ao34 t336.length co34],.agg #[.slice Ao79 t348.length co79,.slice Ao80 t351.length co80]] (by rfl) rfl rfl (by (try simp only [zA,zC,zN]);first|done|rfl|(simp only [zM,zL];rfl)) ?_
   with_reducible refine (laws_eqSkip.calls kj14 _ _ t333 _ _ t336 _ _ t348 _ _ t351 false _ ?side1 ?side2 ?side3 ?side4 ?side5 ?side6 ?side7 ?side8 A70.out).mono ?_
   (case side1=>repeat (first|exact (Kd.R_reads' HO_340000.out).2.2|(with_reducible refine Kd.C_alloc ?_ _)|(with_reducible refine Kd.C_drewN ?_ _)|(with_reducible refine Kd.C_drew ?_)))
   (case side2=>exact (Kd.R_reads' HO_340000.out).2.1)
   (case side3=>repeat (first|exact (Kd.S_reads' HO_340001.out).2.2|(with_reducible refine Kd.C_alloc ?_ _)|(with_reducible refine Kd.C_drewN ?_ _)|(with_reducible refine Kd.C_drew ?_)))
   (case side4=>exact (Kd.S_reads' HO_340001.out).2.1)
   (case side5=>repeat (first|exact (Kd.R_reads' HO350.out).2.2|(with_reducible refine Kd.C_alloc ?_ _)|(with_reducible refine Kd.C_drewN ?_ _)|(with_reducible refine Kd.C_drew ?_)))
   (case side6=>exact (Kd.R_reads' HO350.out).2.1)
   (case side7=>repeat (first|exact (Kd.S_reads' HO353.out).2.2|(with_reducible refine Kd.C_alloc ?_ _)|(with_reducible refine Kd.C_drewN ?_ _)|(with_reducible refine Kd.C_drew ?_)))
   (case side8=>exact (Kd.S_reads' HO353.out).2.1)
   rintro e w81 ⟨rfl,hb⟩
   refine ⟨_,rfl,?_⟩
   have n0_:=AsZ.mk (Kd.R_below (by (with_reducible repeat (first|apply Kd.R_alloc|apply Kd.R_drewN|apply Kd.R_drew));exact HO_340000.out) hb)
   have n1_:=AsZ.mk (Kd.S_below (by (with_reducible repeat (first|apply Kd.S_alloc|apply Kd.S_drewN|apply Kd.S_drew));exact HO_340001.out) hb)
   have n2_:=AsZ.mk (Kd.R_below (by (with_reducible repeat (first|apply Kd.R_alloc|apply Kd.R_drewN|apply Kd.R_drew));exact HO350.out) hb)
   have n3_:=AsZ.mk (Kd.S_below (by (with_reducible repeat (first|apply Kd.S_alloc|apply Kd.S_drewN|apply Kd.S_drew));exact HO353.out) hb)
   have n4_:=AsZ.mk (kb (g:=gb318) (o := .cells #[.slice A0_0 l0_0.length c0_0,.slice A0_1 l0_1.length c0_1] 43 (0,0)) (by (with_reducible repeat (first|refine kdN ?_ _|refine kd ?_|refine ka ?_ _));exact BK318.out) hb)
   have n5_:=AsZ.mk (kb (g:=gb332) (o := .cells #[.string t326,.int .i64 t327,.int .i64 t328,.string t329] 28 (0,0)) (by (with_reducible repeat (first|refine kdN ?_ _|refine kd ?_|refine ka ?_ _));exact BK332.out) hb)
   have n6_:=AsZ.mk (kb (g:=gb339) (o := .cells #[.slice Ao30 t333.length co30,.slice Ao34 t336.length co34] 26 (0,0)) (by (with_reducible repeat (first|refine kdN ?_ _|refine kd ?_|refine ka ?_ _));exact BK339.out) hb)
   have n7_:=AsZ.mk (kb (g:=gb346) (o := .cells #[.string t340,.int .i64 t341,.int .i64 t342,.string t343] 28 (0,0)) (by (with_reducible repeat (first|refine kdN ?_ _|refine kd ?_|refine ka ?_ _));exact BK346.out) hb)
   have n8_:=AsZ.mk (bwp (by repeat (first|(with_reducible first|exact HB.out|apply bwa|apply pbN|apply bw1|refine bws ?_ GE318.out|refine bws ?_ GE332.out|refine bws ?_ GE339.out|refine bws ?_ GE346.out)|exact HB.out)) hb)
   clear HO_340000 HO_340001 HO350 HO353 BK318 BK332 BK339 BK346 HB
   have HO_340000:=n0_
   have HO_340001:=n1_
   have HO350:=n2_
   have HO353:=n3_
   have BK318:=n4_
   have BK332:=n5_
   have BK339:=n6_
   have BK346:=n7_
   have HB:=n8_
   clear n0_ n1_ n2_ n3_ n4_ n5_ n6_ n7_ n8_
   (try clear hb)
   (try clear hb2)
   (try clear hk)
   (try clear hi)
   refine hK.out _ _ ⟨(kc BK339.out 0).trans rfl,(kc BK339.out 1).trans rfl,(kc BK318.out 0).trans rfl,(kc BK318.out 1).trans rfl⟩ (fun hHeld=>?_)
   clear hK K
   refine norm_ (a':=?_) ?_ ?_
   rotate_left
   · show Act.put _ (some 59) _=_
     simp only [Act.put,zS,zT,zU,i64_w,i32_w]
     rfl
   refine pure_ (i:=4) (N:=some 60) (v:=?_) (a':=?_) (b_ 5 0) rfl rfl (by kernel_rfl) (fun _ _ _ h=>h) (Or.inl ⟨by rfl,?_⟩) ?_ ?_
   rotate_left
   · intro w'
     go_simp
     with_reducible rfl
   rotate_left
   · simp only [Act.put,zS,zT,zU,i64_w,i32_w]
     rfl
   refine dn_ (by kernel_rfl) ?_
   try go_wp2
   go_ret
   exact ⟨by first|rfl|(simp [errW_none,errW_some]<;>rfl)|(simp [*,errW_none,errW_some]<;>rfl),by repeat (first|(with_reducible first|exact HB.out|apply bwa|apply pbN|apply bw1|refine bws ?_ GE318.out|refine bws ?_ GE332.out|refine bws ?_ GE339.out|refine bws ?_ GE346.out)|exact HB.out)⟩
end Go.Proofs.YtffjlpphcjfdgaaDoor.MFnExactSeekSkip
