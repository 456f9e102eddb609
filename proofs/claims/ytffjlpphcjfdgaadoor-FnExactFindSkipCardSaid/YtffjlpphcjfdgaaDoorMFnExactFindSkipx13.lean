-- Written by a program of this session out of the translation. Not trusted: Lean checks it.
import Derived.Test.YtffjlpphcjfdgaaDoorMFnExactFindSkipx0
import Derived.Test.YtffjlpphcjfdgaaDoorMFnExactFindSkipx1
import Derived.Test.YtffjlpphcjfdgaaDoorMFnExactFindSkipx2
import Derived.Test.YtffjlpphcjfdgaaDoorMFnExactFindSkipx8
import Derived.Test.YtffjlpphcjfdgaaDoorMFnExactFindSkipx12
namespace Go.Proofs.YtffjlpphcjfdgaaDoor.MFnExactFindSkip
-- short
-- shrunk
-- TAB
-- RD
open Go.Proofs.YtffjlpphcjfdgaaDoor Go.RowKit Go.Proofs.YtffjlpphcjfdgaaDoorW.PrintWords Go.Proofs.YtffjlpphcjfdgaaDoorW.PrintLast Go.Proofs.YtffjlpphcjfdgaaDoorW.PrintMore Go.Proofs.YtffjlpphcjfdgaaDoorX
attribute [local go_sem] max2_int min2_int max_two min_two max_three min_three max_four min_four str_gtr str_leq str_geq cell_twice
set_option linter.unusedVariables false
set_option linter.unusedSimpArgs false
/-! ### laws_FnExactFindSkip: function 10 -/
def laws_FnExactFindSkip.j0:Nat→Bool→List Int→List (S113)→List Int→List (S77)→Option (Bool)
  |0,_,_,_,_,_=>none
  |k + 1,x46,x337000,x337001,x357000,x357001=>if x46=true then (some false) else ((laws_toSkip.f k x337000 x337001).bind fun bt364=>((laws_eqSkip.f k x357000 x357001 bt364.1 bt364.2).bind fun t370=>(if t370=true then (some true) else (some false))))
def laws_FnExactFindSkip.f (k:Nat) (l0_0:List Int) (l0_1:List (S113)) (a1:ByteArray) (a2:Int):Option (Bool):=if (a1.size:Int) > 1048576 then (some true) else ((laws_szSkip.f k l0_0 l0_1 1048576).bind fun t337=>(if t337 < 0 then (some true) else ((laws_toSkip.f k l0_0 l0_1).bind fun bt338=>((spec_FindSkip.f k bt338.1 bt338.2 a1 a2).bind fun bt344=>((laws_toSkip.f k l0_0 l0_1).bind fun bt350=>((impl_FindSkip.f k bt350.1 bt350.2 a1 a2).bind fun bt357=>((laws_eqItem.f bt357.1 bt357.2.1 bt357.2.2.1 bt357.2.2.2.1 bt344.1 bt344.2.1 bt344.2.2.1 bt344.2.2.2.1).bind fun t363=>(if t363=true then (laws_FnExactFindSkip.j0 k (bt357.2.2.2.2 != bt344.2.2.2.2) l0_0 l0_1 bt350.1 bt350.2) else (laws_FnExactFindSkip.j0 k true l0_0 l0_1 bt350.1 bt350.2)))))))))
theorem laws_FnExactFindSkip.mono_l:∀ k,(∀ y0 y1 y2 y3 y4,LeO (laws_FnExactFindSkip.j0 k y0 y1 y2 y3 y4) (laws_FnExactFindSkip.j0 (k + 1) y0 y1 y2 y3 y4))
  |0=>fun _ _ _ _ _ r h=>by simp [laws_FnExactFindSkip.j0] at h
  |k + 1=>by
    have ih0:=laws_FnExactFindSkip.mono_l k
    · intro y0 y1 y2 y3 y4
      unfold laws_FnExactFindSkip.j0
      repeat' first
      |(with_reducible exact ih0 _ _ _ _ _)
      |(with_reducible exact impl_FindSkip.mono _ _ _ _ _)
      |(with_reducible exact laws_eqSkip.mono _ _ _ _ _)
      |(with_reducible exact laws_szSkip.mono _ _ _ _)
      |(with_reducible exact laws_toSkip.mono _ _ _)
      |(with_reducible exact spec_FindSkip.mono _ _ _ _ _)
      |(with_reducible exact LeO.refl _)
      |(with_reducible exact LeO.none _)
      |(with_reducible refine LeO.ite ?_ ?_)
      |(with_reducible refine LeO.bind ?_ (fun _=>?_))
      |exact ih0 _ _ _ _ _
      |exact impl_FindSkip.mono _ _ _ _ _
      |exact laws_eqSkip.mono _ _ _ _ _
      |exact laws_szSkip.mono _ _ _ _
      |exact laws_toSkip.mono _ _ _
      |exact spec_FindSkip.mono _ _ _ _ _
      |exact LeO.none _
      |refine LeO.ite ?_ ?_
      |refine LeO.bind ?_ (fun _=>?_)
theorem laws_FnExactFindSkip.mono:∀ a0 a1 a2 a3 k,LeO (laws_FnExactFindSkip.f k a0 a1 a2 a3) (laws_FnExactFindSkip.f (k + 1) a0 a1 a2 a3):=by
  intro a0 a1 a2 a3 k
  have ih0:=laws_FnExactFindSkip.mono_l k
  unfold laws_FnExactFindSkip.f
  repeat' first
      |(with_reducible exact ih0 _ _ _ _ _)
      |(with_reducible exact impl_FindSkip.mono _ _ _ _ _)
      |(with_reducible exact laws_eqSkip.mono _ _ _ _ _)
      |(with_reducible exact laws_szSkip.mono _ _ _ _)
      |(with_reducible exact laws_toSkip.mono _ _ _)
      |(with_reducible exact spec_FindSkip.mono _ _ _ _ _)
      |(with_reducible exact LeO.refl _)
      |(with_reducible exact LeO.none _)
      |(with_reducible refine LeO.ite ?_ ?_)
      |(with_reducible refine LeO.bind ?_ (fun _=>?_))
      |exact ih0 _ _ _ _ _
      |exact impl_FindSkip.mono _ _ _ _ _
      |exact laws_eqSkip.mono _ _ _ _ _
      |exact laws_szSkip.mono _ _ _ _
      |exact laws_toSkip.mono _ _ _
      |exact spec_FindSkip.mono _ _ _ _ _
      |exact LeO.none _
      |refine LeO.ite ?_ ?_
      |refine LeO.bind ?_ (fun _=>?_)
set_option maxHeartbeats 8000000 in
set_option maxRecDepth 100000 in
theorem laws_FnExactFindSkip.calls (k:Nat) (A0_0:Option Addr) (c0_0:Nat) (l0_0:List Int) (A0_1:Option Addr) (c0_1:Nat) (l0_1:List (S113)) (a1:ByteArray) (a2:Int) (r:Bool) (w:World) (hr0_0:Kd.C (Kd.int .i64) w A0_0 l0_0.length l0_0) (hc0_0:l0_0.length≤c0_0) (hr0_1:Kd.C k113 w A0_1 l0_1.length l0_1) (hc0_1:l0_1.length≤c0_1) (hT:Tab w) (h:laws_FnExactFindSkip.f k l0_0 l0_1 a1 a2=some r) :
    Calls Tryd.prog 10 #[.agg #[.slice A0_0 l0_0.length c0_0,.slice A0_1 l0_1.length c0_1],.string a1,.int .i64 a2] w fun e w'=>e = .returned (.bool r)∧Below w.heap.size w w':=by
 have HT:=AsZ.mk hT
 clear hT
 have hu43:=Tryd.underlying43
 have hu28:=Tryd.underlying28
 have hu26:=Tryd.underlying26
 have HR0_0:=AsZ.mk hr0_0
 have HC0_0:=AsZ.mk hc0_0
 clear hr0_0 hc0_0
 have HR0_1:=AsZ.mk hr0_1
 have HC0_1:=AsZ.mk hc0_1
 clear hr0_1 hc0_1
 have HB:=AsZ.mk (Below.refl w.heap.size w)
 have H:(if (a1.size:Int) > 1048576 then (some true) else ((laws_szSkip.f k l0_0 l0_1 1048576).bind fun t337=>(if t337 < 0 then (some true) else ((laws_toSkip.f k l0_0 l0_1).bind fun bt338=>((spec_FindSkip.f k bt338.1 bt338.2 a1 a2).bind fun bt344=>((laws_toSkip.f k l0_0 l0_1).bind fun bt350=>((impl_FindSkip.f k bt350.1 bt350.2 a1 a2).bind fun bt357=>((laws_eqItem.f bt357.1 bt357.2.1 bt357.2.2.1 bt357.2.2.2.1 bt344.1 bt344.2.1 bt344.2.2.1 bt344.2.2.2.1).bind fun t363=>(if t363=true then (laws_FnExactFindSkip.j0 k (bt357.2.2.2.2 != bt344.2.2.2.2) l0_0 l0_1 bt350.1 bt350.2) else (laws_FnExactFindSkip.j0 k true l0_0 l0_1 bt350.1 bt350.2))))))))))=some r:=h
 clear h
 by_cases c4:(a1.size:Int) > 1048576
 · rw [if_pos c4] at H
   have c4b0:decide (1048576 < (a1.size:Int))=true:=zE c4
   have c4b1:decide (1048576 < a1.size)=true:=zE (by omega)
   clear c4
   obtain rfl:=zI H
   go_enter Tryd.func10,Tryd.ntmps10
   go_wp2_with (first|((with_reducible refine gate_dst (N:=3) rfl ?_);refine box_event ?hg (N:=3) ?hd (cs:=#[.slice A0_0 l0_0.length c0_0,.slice A0_1 l0_1.length c0_1]) (t:=43) ?hr ?_;(case hd=>rfl);(case hg=>rfl);(case hr=>first|(go_simp;done)|(go_simp;rfl));intro gb336 hg w5 hbox hb;have n0_:=AsZ.mk (bwp (by repeat (first|(with_reducible first|exact HB.out|apply bwa|apply pbN|apply bw1)|exact HB.out)) hb);have n1_:=AsZ.mk (hbox);have n2_:=AsZ.mk ((by rw [hg];exact (bwz (by repeat (first|(with_reducible first|exact HB.out|apply bwa|apply pbN|apply bw1)|exact HB.out))):w.heap.size≤gb336));have n3_:=AsZ.mk ((by rw [hg];exact (bwz (by repeat (first|(with_reducible first|exact HB.out|apply bwa|apply pbN|apply bw1)|exact HB.out))):w.heap.size≤gb336));clear HB;have HB:=n0_;have BK336:=n1_;have GW336:=n2_;have GE336:=n3_;clear n0_ n1_ n2_ n3_;clear hb hbox hg))
   go_ret
   exact ⟨by first|rfl|(simp [errW_none,errW_some]<;>rfl)|(simp [*,errW_none,errW_some]<;>rfl),by repeat (first|(with_reducible first|exact HB.out|apply bwa|apply pbN|apply bw1|refine bws ?_ GE336.out)|exact HB.out)⟩
 rw [if_neg c4] at H
 have c4b0:decide (1048576 < (a1.size:Int))=false:=decide_eq_false c4
 have c4b1:decide (1048576 < a1.size)=false:=decide_eq_false (by omega)
 clear c4
 replace H:=Option.bind_eq_some_iff.mp H
 obtain ⟨t337,A60,H⟩:=H
 replace H:(if t337 < 0 then (some true) else ((laws_toSkip.f k l0_0 l0_1).bind fun bt338=>((spec_FindSkip.f k bt338.1 bt338.2 a1 a2).bind fun bt344=>((laws_toSkip.f k l0_0 l0_1).bind fun bt350=>((impl_FindSkip.f k bt350.1 bt350.2 a1 a2).bind fun bt357=>((laws_eqItem.f bt357.1 bt357.2.1 bt357.2.2.1 bt357.2.2.2.1 bt344.1 bt344.2.1 bt344.2.2.1 bt344.2.2.2.1).bind fun t363=>(if t363=true then (laws_FnExactFindSkip.j0 k (bt357.2.2.2.2 != bt344.2.2.2.2) l0_0 l0_1 bt350.1 bt350.2) else (laws_FnExactFindSkip.j0 k true l0_0 l0_1 bt350.1 bt350.2))))))))=some r:=H
 have A6:=AsZ.mk A60
 clear A60
 by_cases c7:t337 < 0
 · rw [if_pos c7] at H
   have c7b0:decide (t337 < 0)=true:=zE c7
   clear c7
   obtain rfl:=zI H
   go_enter Tryd.func10,Tryd.ntmps10
   go_wp2_with (first|((with_reducible refine gate_dst (N:=3) rfl ?_);refine box_event ?hg (N:=3) ?hd (cs:=#[.slice A0_0 l0_0.length c0_0,.slice A0_1 l0_1.length c0_1]) (t:=43) ?hr ?_;(case hd=>rfl);(case hg=>rfl);(case hr=>first|(go_simp;done)|(go_simp;rfl));intro gb336 hg w8 hbox hb;have n0_:=AsZ.mk (bwp (by repeat (first|(with_reducible first|exact HB.out|apply bwa|apply pbN|apply bw1)|exact HB.out)) hb);have n1_:=AsZ.mk (hbox);have n2_:=AsZ.mk ((by rw [hg];exact (bwz (by repeat (first|(with_reducible first|exact HB.out|apply bwa|apply pbN|apply bw1)|exact HB.out))):w.heap.size≤gb336));have n3_:=AsZ.mk ((by rw [hg];exact (bwz (by repeat (first|(with_reducible first|exact HB.out|apply bwa|apply pbN|apply bw1)|exact HB.out))):w.heap.size≤gb336));clear HB;have HB:=n0_;have BK336:=n1_;have GW336:=n2_;have GE336:=n3_;clear n0_ n1_ n2_ n3_;clear hb hbox hg;have hcz9_0:w8.cell? ⟨gb336,0,none⟩=some (.slice A0_0 l0_0.length c0_0):=(kc BK336.out 0).trans rfl;have hcz9_1:w8.cell? ⟨gb336,1,none⟩=some (.slice A0_1 l0_1.length c0_1):=(kc BK336.out 1).trans rfl;have hfz9_0:=kf BK336.out 0;have hfz9_1:=kf BK336.out 1)|((with_reducible refine gcl (f:=18) rfl ?_);refine goesL_ (some 18) rfl rfl Tryd.func18 (by kernel_rfl) rfl #[.agg #[.slice A0_0 l0_0.length c0_0,.slice A0_1 l0_1.length c0_1],.int .i64 1048576] rfl (by (try simp only [zA,zC,zN]);first|done|rfl|(simp only [zM,zL];rfl)) ?_;(with_reducible refine (laws_szSkip.calls k _ _ l0_0 _ _ l0_1 1048576 t337 _ ?side1 ?side2 ?side3 ?side4 A6.out).mono ?_);(case side1=>repeat (first|exact (Kd.C_below HR0_0.out HB.out)|(with_reducible refine Kd.C_alloc ?_ _)|(with_reducible refine Kd.C_drewN ?_ _)|(with_reducible refine Kd.C_drew ?_)));(case side2=>exact HC0_0.out);(case side3=>repeat (first|exact (Kd.C_below HR0_1.out HB.out)|(with_reducible refine Kd.C_alloc ?_ _)|(with_reducible refine Kd.C_drewN ?_ _)|(with_reducible refine Kd.C_drew ?_)));(case side4=>exact HC0_1.out);rintro e w10 ⟨rfl,hb⟩;refine ⟨_,rfl,?_⟩;have n0_:=AsZ.mk (kb (g:=gb336) (o := .cells #[.slice A0_0 l0_0.length c0_0,.slice A0_1 l0_1.length c0_1] 43 (0,0)) (by (with_reducible repeat (first|refine kdN ?_ _|refine kd ?_|refine ka ?_ _));exact BK336.out) hb);have n1_:=AsZ.mk (bwp (by repeat (first|(with_reducible first|exact HB.out|apply bwa|apply pbN|apply bw1|refine bws ?_ GE336.out)|exact HB.out)) hb);clear BK336;clear HB;have BK336:=n0_;have HB:=n1_;clear n0_ n1_;(try clear hb);(try clear hb2);(try clear hk);(try clear hi)))
   go_ret
   exact ⟨by first|rfl|(simp [errW_none,errW_some]<;>rfl)|(simp [*,errW_none,errW_some]<;>rfl),by repeat (first|(with_reducible first|exact HB.out|apply bwa|apply pbN|apply bw1|refine bws ?_ GE336.out)|exact HB.out)⟩
 rw [if_neg c7] at H
 have c7b0:decide (t337 < 0)=false:=decide_eq_false c7
 clear c7
 replace H:=Option.bind_eq_some_iff.mp H
 obtain ⟨⟨t338,t341⟩,A110,H⟩:=H
 replace H:((spec_FindSkip.f k t338 t341 a1 a2).bind fun bt344=>((laws_toSkip.f k l0_0 l0_1).bind fun bt350=>((impl_FindSkip.f k bt350.1 bt350.2 a1 a2).bind fun bt357=>((laws_eqItem.f bt357.1 bt357.2.1 bt357.2.2.1 bt357.2.2.2.1 bt344.1 bt344.2.1 bt344.2.2.1 bt344.2.2.2.1).bind fun t363=>(if t363=true then (laws_FnExactFindSkip.j0 k (bt357.2.2.2.2 != bt344.2.2.2.2) l0_0 l0_1 bt350.1 bt350.2) else (laws_FnExactFindSkip.j0 k true l0_0 l0_1 bt350.1 bt350.2))))))=some r:=H
 have A11:=AsZ.mk A110
 clear A110
 replace H:=Option.bind_eq_some_iff.mp H
 obtain ⟨⟨t344,t345,t346,t347,t348⟩,A120,H⟩:=H
 replace H:((laws_toSkip.f k l0_0 l0_1).bind fun bt350=>((impl_FindSkip.f k bt350.1 bt350.2 a1 a2).bind fun bt357=>((laws_eqItem.f bt357.1 bt357.2.1 bt357.2.2.1 bt357.2.2.2.1 t344 t345 t346 t347).bind fun t363=>(if t363=true then (laws_FnExactFindSkip.j0 k (bt357.2.2.2.2 != t348) l0_0 l0_1 bt350.1 bt350.2) else (laws_FnExactFindSkip.j0 k true l0_0 l0_1 bt350.1 bt350.2)))))=some r:=H
 have A12:=AsZ.mk A120
 clear A120
 replace H:=Option.bind_eq_some_iff.mp H
 obtain ⟨⟨t350,t353⟩,A130,H⟩:=H
 replace H:((impl_FindSkip.f k t350 t353 a1 a2).bind fun bt357=>((laws_eqItem.f bt357.1 bt357.2.1 bt357.2.2.1 bt357.2.2.2.1 t344 t345 t346 t347).bind fun t363=>(if t363=true then (laws_FnExactFindSkip.j0 k (bt357.2.2.2.2 != t348) l0_0 l0_1 t350 t353) else (laws_FnExactFindSkip.j0 k true l0_0 l0_1 t350 t353))))=some r:=H
 have A13:=AsZ.mk A130
 clear A130
 replace H:=Option.bind_eq_some_iff.mp H
 obtain ⟨⟨t357,t358,t359,t360,t361⟩,A140,H⟩:=H
 replace H:((laws_eqItem.f t357 t358 t359 t360 t344 t345 t346 t347).bind fun t363=>(if t363=true then (laws_FnExactFindSkip.j0 k (t361 != t348) l0_0 l0_1 t350 t353) else (laws_FnExactFindSkip.j0 k true l0_0 l0_1 t350 t353)))=some r:=H
 have A14:=AsZ.mk A140
 clear A140
 have HC15:=AsZ.mk H
 clear H
 go_enter Tryd.func10,Tryd.ntmps10
 go_upto_region 10 with (first|((with_reducible refine gate_dst (N:=3) rfl ?_);refine box_event ?hg (N:=3) ?hd (cs:=#[.slice A0_0 l0_0.length c0_0,.slice A0_1 l0_1.length c0_1]) (t:=43) ?hr ?_;(case hd=>rfl);(case hg=>rfl);(case hr=>first|(go_simp;done)|(go_simp;rfl));intro gb336 hg w16 hbox hb;have n0_:=AsZ.mk (bwp (by repeat (first|(with_reducible first|exact HB.out|apply bwa|apply pbN|apply bw1)|exact HB.out)) hb);have n1_:=AsZ.mk (hbox);have n2_:=AsZ.mk ((by rw [hg];exact (bwz (by repeat (first|(with_reducible first|exact HB.out|apply bwa|apply pbN|apply bw1)|exact HB.out))):w.heap.size≤gb336));have n3_:=AsZ.mk ((by rw [hg];exact (bwz (by repeat (first|(with_reducible first|exact HB.out|apply bwa|apply pbN|apply bw1)|exact HB.out))):w.heap.size≤gb336));clear HB;have HB:=n0_;have BK336:=n1_;have GW336:=n2_;have GE336:=n3_;clear n0_ n1_ n2_ n3_;clear hb hbox hg;have hcz17_0:w16.cell? ⟨gb336,0,none⟩=some (.slice A0_0 l0_0.length c0_0):=(kc BK336.out 0).trans rfl;have hcz17_1:w16.cell? ⟨gb336,1,none⟩=some (.slice A0_1 l0_1.length c0_1):=(kc BK336.out 1).trans rfl;have hfz17_0:=kf BK336.out 0;have hfz17_1:=kf BK336.out 1)|((with_reducible refine gcl (f:=18) rfl ?_);refine goesL_ (some 18) rfl rfl Tryd.func18 (by kernel_rfl) rfl #[.agg #[.slice A0_0 l0_0.length c0_0,.slice A0_1 l0_1.length c0_1],.int .i64 1048576] rfl (by (try simp only [zA,zC,zN]);first|done|rfl|(simp only [zM,zL];rfl)) ?_;(with_reducible refine (laws_szSkip.calls k _ _ l0_0 _ _ l0_1 1048576 t337 _ ?side1 ?side2 ?side3 ?side4 A6.out).mono ?_);(case side1=>repeat (first|exact (Kd.C_below HR0_0.out HB.out)|(with_reducible refine Kd.C_alloc ?_ _)|(with_reducible refine Kd.C_drewN ?_ _)|(with_reducible refine Kd.C_drew ?_)));(case side2=>exact HC0_0.out);(case side3=>repeat (first|exact (Kd.C_below HR0_1.out HB.out)|(with_reducible refine Kd.C_alloc ?_ _)|(with_reducible refine Kd.C_drewN ?_ _)|(with_reducible refine Kd.C_drew ?_)));(case side4=>exact HC0_1.out);rintro e w18 ⟨rfl,hb⟩;refine ⟨_,rfl,?_⟩;have n0_:=AsZ.mk (kb (g:=gb336) (o := .cells #[.slice A0_0 l0_0.length c0_0,.slice A0_1 l0_1.length c0_1] 43 (0,0)) (by (with_reducible repeat (first|refine kdN ?_ _|refine kd ?_|refine ka ?_ _));exact BK336.out) hb);have n1_:=AsZ.mk (bwp (by repeat (first|(with_reducible first|exact HB.out|apply bwa|apply pbN|apply bw1|refine bws ?_ GE336.out)|exact HB.out)) hb);clear BK336;clear HB;have BK336:=n0_;have HB:=n1_;clear n0_ n1_;(try clear hb);(try clear hb2);(try clear hk);(try clear hi);have hcz19_0:w18.cell? ⟨gb336,0,none⟩=some (.slice A0_0 l0_0.length c0_0):=(kc BK336.out 0).trans rfl;have hcz19_1:w18.cell? ⟨gb336,1,none⟩=some (.slice A0_1 l0_1.length c0_1):=(kc BK336.out 1).trans rfl;have hfz19_0:=kf BK336.out 0;have hfz19_1:=kf BK336.out 1)|((with_reducible refine gcl (f:=20) rfl ?_);refine goesL_ (some 23) rfl rfl Tryd.func20 (by kernel_rfl) rfl #[.agg #[.slice A0_0 l0_0.length c0_0,.slice A0_1 l0_1.length c0_1]] rfl (by (try simp only [zA,zC,zN]);first|done|rfl|(simp only [zM,zL];rfl)) ?_;(with_reducible refine (laws_toSkip.calls k _ _ l0_0 _ _ l0_1 t338 t341 _ ?side1 ?side2 ?side3 ?side4 A11.out).mono ?_);(case side1=>repeat (first|exact (Kd.C_below HR0_0.out HB.out)|(with_reducible refine Kd.C_alloc ?_ _)|(with_reducible refine Kd.C_drewN ?_ _)|(with_reducible refine Kd.C_drew ?_)));(case side2=>exact HC0_0.out);(case side3=>repeat (first|exact (Kd.C_below HR0_1.out HB.out)|(with_reducible refine Kd.C_alloc ?_ _)|(with_reducible refine Kd.C_drewN ?_ _)|(with_reducible refine Kd.C_drew ?_)));(case side4=>exact HC0_1.out);rintro e w20 ⟨v339,v342,rfl,ho0,ho1,hb⟩;refine ⟨_,rfl,?_⟩;have n0_:=AsZ.mk (Kd.R_lower ho0 (bwz (by repeat (first|(with_reducible first|exact HB.out|apply bwa|apply pbN|apply bw1|refine bws ?_ GE336.out)|exact HB.out))));have n1_:=AsZ.mk (Kd.S_lower ho1 (bwz (by repeat (first|(with_reducible first|exact HB.out|apply bwa|apply pbN|apply bw1|refine bws ?_ GE336.out)|exact HB.out))));have n2_:=AsZ.mk (kb (g:=gb336) (o := .cells #[.slice A0_0 l0_0.length c0_0,.slice A0_1 l0_1.length c0_1] 43 (0,0)) (by (with_reducible repeat (first|refine kdN ?_ _|refine kd ?_|refine ka ?_ _));exact BK336.out) hb);have n3_:=AsZ.mk (bwp (by repeat (first|(with_reducible first|exact HB.out|apply bwa|apply pbN|apply bw1|refine bws ?_ GE336.out)|exact HB.out)) hb);clear BK336;clear HB;have HO340:=n0_;have HO343:=n1_;have BK336:=n2_;have HB:=n3_;clear n0_ n1_ n2_ n3_;(try clear hb);(try clear hb2);(try clear hk);(try clear hi);(try clear ho0);(try clear ho1);obtain ⟨Ao21,co21,eo21⟩:=Kd.R_slice HO340.out;subst eo21;obtain ⟨Ao22,co22,eo22⟩:=Kd.S_slice HO343.out;subst eo22)|((with_reducible refine gcl (f:=36) rfl ?_);refine goesL_ (some 26) rfl rfl Tryd.func36 (by kernel_rfl) rfl #[.agg #[.slice Ao21 t338.length co21,.slice Ao22 t341.length co22],.string a1,.int .i64 a2] rfl (by (try simp only [zA,zC,zN]);first|done|rfl|(simp only [zM,zL];rfl)) ?_;(with_reducible refine (spec_FindSkip.calls k _ _ t338 _ _ t341 a1 a2 t344 t345 t346 t347 t348 _ ?side1 ?side2 ?side3 ?side4 A12.out).mono ?_);(case side1=>repeat (first|exact (Kd.R_reads' HO340.out).2.2|(with_reducible refine Kd.C_alloc ?_ _)|(with_reducible refine Kd.C_drewN ?_ _)|(with_reducible refine Kd.C_drew ?_)));(case side2=>exact (Kd.R_reads' HO340.out).2.1);(case side3=>repeat (first|exact (Kd.S_reads' HO343.out).2.2|(with_reducible refine Kd.C_alloc ?_ _)|(with_reducible refine Kd.C_drewN ?_ _)|(with_reducible refine Kd.C_drew ?_)));(case side4=>exact (Kd.S_reads' HO343.out).2.1);rintro e w23 ⟨rfl,hb⟩;refine ⟨_,rfl,?_⟩;have n0_:=AsZ.mk (Kd.R_below (by (with_reducible repeat (first|apply Kd.R_alloc|apply Kd.R_drewN|apply Kd.R_drew));exact HO340.out) hb);have n1_:=AsZ.mk (Kd.S_below (by (with_reducible repeat (first|apply Kd.S_alloc|apply Kd.S_drewN|apply Kd.S_drew));exact HO343.out) hb);have n2_:=AsZ.mk (kb (g:=gb336) (o := .cells #[.slice A0_0 l0_0.length c0_0,.slice A0_1 l0_1.length c0_1] 43 (0,0)) (by (with_reducible repeat (first|refine kdN ?_ _|refine kd ?_|refine ka ?_ _));exact BK336.out) hb);have n3_:=AsZ.mk (bwp (by repeat (first|(with_reducible first|exact HB.out|apply bwa|apply pbN|apply bw1|refine bws ?_ GE336.out)|exact HB.out)) hb);clear HO340;clear HO343;clear BK336;clear HB;have HO340:=n0_;have HO343:=n1_;have BK336:=n2_;have HB:=n3_;clear n0_ n1_ n2_ n3_;(try clear hb);(try clear hb2);(try clear hk);(try clear hi))|((with_reducible refine gate_dst (N:=8) rfl ?_);refine box_event ?hg (N:=8) ?hd (cs:=#[.string (⟨#[]⟩:ByteArray),.int .i64 0,.int .i64 0,.string (⟨#[]⟩:ByteArray)]) (t:=28) ?hr ?_;(case hd=>rfl);(case hg=>rfl);(case hr=>first|(go_simp;done)|(go_simp;rfl));intro gb349 hg w24 hbox hb;have n0_:=AsZ.mk (Kd.R_below (by (with_reducible repeat (first|apply Kd.R_alloc|apply Kd.R_drewN|apply Kd.R_drew));exact HO340.out) hb);have n1_:=AsZ.mk (Kd.S_below (by (with_reducible repeat (first|apply Kd.S_alloc|apply Kd.S_drewN|apply Kd.S_drew));exact HO343.out) hb);have n2_:=AsZ.mk (kb (g:=gb336) (o := .cells #[.slice A0_0 l0_0.length c0_0,.slice A0_1 l0_1.length c0_1] 43 (0,0)) (by (with_reducible repeat (first|refine kdN ?_ _|refine kd ?_|refine ka ?_ _));exact BK336.out) hb);have n3_:=AsZ.mk (bwp (by repeat (first|(with_reducible first|exact HB.out|apply bwa|apply pbN|apply bw1|refine bws ?_ GE336.out)|exact HB.out)) hb);have n4_:=AsZ.mk (hbox);have n5_:=AsZ.mk ((by rw [hg];exact (bwz (by repeat (first|(with_reducible first|exact HB.out|apply bwa|apply pbN|apply bw1|refine bws ?_ GE336.out)|exact HB.out))):w.heap.size≤gb349));have n6_:=AsZ.mk ((by rw [hg];exact (bwz (by repeat (first|(with_reducible first|exact HB.out|apply bwa|apply pbN|apply bw1|refine bws ?_ GE336.out)|exact HB.out))):w.heap.size≤gb349));have n7_:=AsZ.mk ((by rw [hg];exact Nat.ne_of_lt (blk_lt (g:=gb336) (o := .cells #[.slice A0_0 l0_0.length c0_0,.slice A0_1 l0_1.length c0_1] 43 (0,0)) (by (with_reducible repeat (first|refine kdN ?_ _|refine kd ?_|refine ka ?_ _));exact BK336.out)):gb336 ≠ gb349));have n8_:=AsZ.mk ((by rw [hg];exact Nat.ne_of_gt (blk_lt (g:=gb336) (o := .cells #[.slice A0_0 l0_0.length c0_0,.slice A0_1 l0_1.length c0_1] 43 (0,0)) (by (with_reducible repeat (first|refine kdN ?_ _|refine kd ?_|refine ka ?_ _));exact BK336.out)):gb349 ≠ gb336));clear HO340;clear HO343;clear BK336;clear HB;have HO340:=n0_;have HO343:=n1_;have BK336:=n2_;have HB:=n3_;have BK349:=n4_;have GW349:=n5_;have GE349:=n6_;have NB336_349:=n7_;have NB349_336:=n8_;clear n0_ n1_ n2_ n3_ n4_ n5_ n6_ n7_ n8_;clear hb hbox hg;have hnb25:=NB349_336.out;have hnc25:=NB336_349.out;have hcz26_0:w24.cell? ⟨gb349,0,none⟩=some (.string (⟨#[]⟩:ByteArray)):=(kc BK349.out 0).trans rfl;have hcz26_1:w24.cell? ⟨gb349,1,none⟩=some (.int .i64 0):=(kc BK349.out 1).trans rfl;have hcz26_2:w24.cell? ⟨gb349,2,none⟩=some (.int .i64 0):=(kc BK349.out 2).trans rfl;have hcz26_3:w24.cell? ⟨gb349,3,none⟩=some (.string (⟨#[]⟩:ByteArray)):=(kc BK349.out 3).trans rfl;have hfz26_0:=kf BK349.out 0;have hfz26_1:=kf BK349.out 1;have hfz26_2:=kf BK349.out 2;have hfz26_3:=kf BK349.out 3;have hcz27_0:w24.cell? ⟨gb336,0,none⟩=some (.slice A0_0 l0_0.length c0_0):=(kc BK336.out 0).trans rfl;have hcz27_1:w24.cell? ⟨gb336,1,none⟩=some (.slice A0_1 l0_1.length c0_1):=(kc BK336.out 1).trans rfl;have hfz27_0:=kf BK336.out 0;have hfz27_1:=kf BK336.out 1)|((with_reducible refine gcl (f:=20) rfl ?_);refine goesL_ (some 30) rfl rfl Tryd.func20 (by kernel_rfl) rfl #[.agg #[.slice A0_0 l0_0.length c0_0,.slice A0_1 l0_1.length c0_1]] rfl (by (try simp only [zA,zC,zN]);first|done|rfl|(simp only [zM,zL];rfl)) ?_;(with_reducible refine (laws_toSkip.calls k _ _ l0_0 _ _ l0_1 t350 t353 _ ?side1 ?side2 ?side3 ?side4 A13.out).mono ?_);(case side1=>exact Kd.C_below HR0_0.out (by repeat (first|(with_reducible first|exact HB.out|apply bwa|apply pbN|apply bw1|refine bws ?_ GE336.out|refine bws ?_ GE349.out)|exact HB.out)));(case side2=>exact HC0_0.out);(case side3=>exact Kd.C_below HR0_1.out (by repeat (first|(with_reducible first|exact HB.out|apply bwa|apply pbN|apply bw1|refine bws ?_ GE336.out|refine bws ?_ GE349.out)|exact HB.out)));(case side4=>exact HC0_1.out);rintro e w28 ⟨v351,v354,rfl,ho0,ho1,hb⟩;refine ⟨_,rfl,?_⟩;have n0_:=AsZ.mk (Kd.R_elder' (by (with_reducible repeat (first|apply Kd.R_alloc|apply Kd.R_drewN|apply Kd.R_drew));exact (Kd.R_mono (Kd.R_far (p:=⟨gb349,3,none⟩) (Kd.R_far (p:=⟨gb349,2,none⟩) (Kd.R_far (p:=⟨gb349,1,none⟩) (Kd.R_far (p:=⟨gb349,0,none⟩) (Kd.R_types HO340.out BK349.out (by decide)) (fun _ hk=>hk.2) (.string t344)) (fun _ hk=>hk.2) (.int .i64 t345)) (fun _ hk=>hk.2) (.int .i64 t346)) (fun _ hk=>hk.2) (.string t347)) (fun _ h_=>h_.1))) (Kd.R_base ho0) hb);have n1_:=AsZ.mk (Kd.S_mono (Kd.S_told (Kd.S_told (Kd.S_old (by (with_reducible repeat (first|apply Kd.S_alloc|apply Kd.S_drewN|apply Kd.S_drew));exact (Kd.S_mono (Kd.S_far (p:=⟨gb349,3,none⟩) (Kd.S_far (p:=⟨gb349,2,none⟩) (Kd.S_far (p:=⟨gb349,1,none⟩) (Kd.S_far (p:=⟨gb349,0,none⟩) (Kd.S_types HO343.out BK349.out (by decide)) (fun _ hk=>hk.2) (.string t344)) (fun _ hk=>hk.2) (.int .i64 t345)) (fun _ hk=>hk.2) (.int .i64 t346)) (fun _ hk=>hk.2) (.string t347)) (fun _ h_=>h_.1))) hb) (Kd.R_base ho0)) (Kd.S_base ho1)) (fun _ h_=>h_.1));have n2_:=AsZ.mk (Kd.R_lower (Kd.R_new' ho0 (Kd.R_lt (by (with_reducible repeat (first|apply Kd.R_alloc|apply Kd.R_drewN|apply Kd.R_drew));exact (Kd.R_mono (Kd.R_far (p:=⟨gb349,3,none⟩) (Kd.R_far (p:=⟨gb349,2,none⟩) (Kd.R_far (p:=⟨gb349,1,none⟩) (Kd.R_far (p:=⟨gb349,0,none⟩) (Kd.R_types HO340.out BK349.out (by decide)) (fun _ hk=>hk.2) (.string t344)) (fun _ hk=>hk.2) (.int .i64 t345)) (fun _ hk=>hk.2) (.int .i64 t346)) (fun _ hk=>hk.2) (.string t347)) (fun _ h_=>h_.1))))) (bwz (by repeat (first|(with_reducible first|exact HB.out|apply bwa|apply pbN|apply bw1|refine bws ?_ GE336.out|refine bws ?_ GE349.out)|exact HB.out))));have n3_:=AsZ.mk (Kd.S_lower (Kd.S_new' (Kd.S_new' ho1 (Kd.R_lt (by (with_reducible repeat (first|apply Kd.R_alloc|apply Kd.R_drewN|apply Kd.R_drew));exact (Kd.R_mono (Kd.R_far (p:=⟨gb349,3,none⟩) (Kd.R_far (p:=⟨gb349,2,none⟩) (Kd.R_far (p:=⟨gb349,1,none⟩) (Kd.R_far (p:=⟨gb349,0,none⟩) (Kd.R_types HO340.out BK349.out (by decide)) (fun _ hk=>hk.2) (.string t344)) (fun _ hk=>hk.2) (.int .i64 t345)) (fun _ hk=>hk.2) (.int .i64 t346)) (fun _ hk=>hk.2) (.string t347)) (fun _ h_=>h_.1))))) (Kd.S_lt (by (with_reducible repeat (first|apply Kd.S_alloc|apply Kd.S_drewN|apply Kd.S_drew));exact (Kd.S_mono (Kd.S_far (p:=⟨gb349,3,none⟩) (Kd.S_far (p:=⟨gb349,2,none⟩) (Kd.S_far (p:=⟨gb349,1,none⟩) (Kd.S_far (p:=⟨gb349,0,none⟩) (Kd.S_types HO343.out BK349.out (by decide)) (fun _ hk=>hk.2) (.string t344)) (fun _ hk=>hk.2) (.int .i64 t345)) (fun _ hk=>hk.2) (.int .i64 t346)) (fun _ hk=>hk.2) (.string t347)) (fun _ h_=>h_.1))))) (bwz (by repeat (first|(with_reducible first|exact HB.out|apply bwa|apply pbN|apply bw1|refine bws ?_ GE336.out|refine bws ?_ GE349.out)|exact HB.out))));have n4_:=AsZ.mk (kb (g:=gb336) (o := .cells #[.slice A0_0 l0_0.length c0_0,.slice A0_1 l0_1.length c0_1] 43 (0,0)) (by (with_reducible repeat (first|refine kdN ?_ _|refine kd ?_|refine ka ?_ _));refine blk_far ?_ NB336_349.out _;(with_reducible repeat (first|refine kdN ?_ _|refine kd ?_|refine ka ?_ _));refine blk_far ?_ NB336_349.out _;(with_reducible repeat (first|refine kdN ?_ _|refine kd ?_|refine ka ?_ _));refine blk_far ?_ NB336_349.out _;(with_reducible repeat (first|refine kdN ?_ _|refine kd ?_|refine ka ?_ _));refine blk_far ?_ NB336_349.out _;(with_reducible repeat (first|refine kdN ?_ _|refine kd ?_|refine ka ?_ _));exact BK336.out) hb);have n5_:=AsZ.mk (kb (g:=gb349) (o := .cells #[.string t344,.int .i64 t345,.int .i64 t346,.string t347] 28 (0,0)) (by (with_reducible repeat (first|refine kdN ?_ _|refine kd ?_|refine ka ?_ _));refine blk_put (cs:=#[.string t344,.int .i64 t345,.int .i64 t346,.string (⟨#[]⟩:ByteArray)]) ?_ 3 _ rfl;(with_reducible repeat (first|refine kdN ?_ _|refine kd ?_|refine ka ?_ _));refine blk_put (cs:=#[.string t344,.int .i64 t345,.int .i64 0,.string (⟨#[]⟩:ByteArray)]) ?_ 2 _ rfl;(with_reducible repeat (first|refine kdN ?_ _|refine kd ?_|refine ka ?_ _));refine blk_put (cs:=#[.string t344,.int .i64 0,.int .i64 0,.string (⟨#[]⟩:ByteArray)]) ?_ 1 _ rfl;(with_reducible repeat (first|refine kdN ?_ _|refine kd ?_|refine ka ?_ _));refine blk_put (cs:=#[.string (⟨#[]⟩:ByteArray),.int .i64 0,.int .i64 0,.string (⟨#[]⟩:ByteArray)]) ?_ 0 _ rfl;(with_reducible repeat (first|refine kdN ?_ _|refine kd ?_|refine ka ?_ _));exact BK349.out) hb);have n6_:=AsZ.mk (bwp (by repeat (first|(with_reducible first|exact HB.out|apply bwa|apply pbN|apply bw1|refine bws ?_ GE336.out|refine bws ?_ GE349.out)|exact HB.out)) hb);clear HO340;clear HO343;clear BK336;clear BK349;clear HB;have HO340:=n0_;have HO343:=n1_;have HO352:=n2_;have HO355:=n3_;have BK336:=n4_;have BK349:=n5_;have HB:=n6_;clear n0_ n1_ n2_ n3_ n4_ n5_ n6_;(try clear hb);(try clear hb2);(try clear hk);(try clear hi);(try clear ho0);(try clear ho1))|((with_reducible refine gate_dst (N:=10) rfl ?_);refine box_event ?hg (N:=10) ?hd (cs:=#[.slice none 0 0,.slice none 0 0]) (t:=26) ?hr ?_;(case hd=>rfl);(case hg=>rfl);(case hr=>first|(go_simp;done)|(go_simp;rfl));intro gb356 hg w29 hbox hb;have n0_:=AsZ.mk (Kd.R_below (by (with_reducible repeat (first|apply Kd.R_alloc|apply Kd.R_drewN|apply Kd.R_drew));exact HO340.out) hb);have n1_:=AsZ.mk (Kd.S_below (by (with_reducible repeat (first|apply Kd.S_alloc|apply Kd.S_drewN|apply Kd.S_drew));exact HO343.out) hb);have n2_:=AsZ.mk (Kd.R_below (by (with_reducible repeat (first|apply Kd.R_alloc|apply Kd.R_drewN|apply Kd.R_drew));exact HO352.out) hb);have n3_:=AsZ.mk (Kd.S_below (by (with_reducible repeat (first|apply Kd.S_alloc|apply Kd.S_drewN|apply Kd.S_drew));exact HO355.out) hb);have n4_:=AsZ.mk (kb (g:=gb336) (o := .cells #[.slice A0_0 l0_0.length c0_0,.slice A0_1 l0_1.length c0_1] 43 (0,0)) (by (with_reducible repeat (first|refine kdN ?_ _|refine kd ?_|refine ka ?_ _));exact BK336.out) hb);have n5_:=AsZ.mk (kb (g:=gb349) (o := .cells #[.string t344,.int .i64 t345,.int .i64 t346,.string t347] 28 (0,0)) (by (with_reducible repeat (first|refine kdN ?_ _|refine kd ?_|refine ka ?_ _));exact BK349.out) hb);have n6_:=AsZ.mk (bwp (by repeat (first|(with_reducible first|exact HB.out|apply bwa|apply pbN|apply bw1|refine bws ?_ GE336.out|refine bws ?_ GE349.out)|exact HB.out)) hb);have n7_:=AsZ.mk (hbox);have n8_:=AsZ.mk ((by rw [hg];exact (bwz (by repeat (first|(with_reducible first|exact HB.out|apply bwa|apply pbN|apply bw1|refine bws ?_ GE336.out|refine bws ?_ GE349.out)|exact HB.out))):w.heap.size≤gb356));have n9_:=AsZ.mk ((by rw [hg];exact (bwz (by repeat (first|(with_reducible first|exact HB.out|apply bwa|apply pbN|apply bw1|refine bws ?_ GE336.out|refine bws ?_ GE349.out)|exact HB.out))):w.heap.size≤gb356));have n10_:=AsZ.mk ((by rw [hg];exact Nat.ne_of_lt (blk_lt (g:=gb336) (o := .cells #[.slice A0_0 l0_0.length c0_0,.slice A0_1 l0_1.length c0_1] 43 (0,0)) (by (with_reducible repeat (first|refine kdN ?_ _|refine kd ?_|refine ka ?_ _));exact BK336.out)):gb336 ≠ gb356));have n11_:=AsZ.mk ((by rw [hg];exact Nat.ne_of_gt (blk_lt (g:=gb336) (o := .cells #[.slice A0_0 l0_0.length c0_0,.slice A0_1 l0_1.length c0_1] 43 (0,0)) (by (with_reducible repeat (first|refine kdN ?_ _|refine kd ?_|refine ka ?_ _));exact BK336.out)):gb356 ≠ gb336));have n12_:=AsZ.mk ((by rw [hg];exact Nat.ne_of_lt (blk_lt (g:=gb349) (o := .cells #[.string t344,.int .i64 t345,.int .i64 t346,.string t347] 28 (0,0)) (by (with_reducible repeat (first|refine kdN ?_ _|refine kd ?_|refine ka ?_ _));exact BK349.out)):gb349 ≠ gb356));have n13_:=AsZ.mk ((by rw [hg];exact Nat.ne_of_gt (blk_lt (g:=gb349) (o := .cells #[.string t344,.int .i64 t345,.int .i64 t346,.string t347] 28 (0,0)) (by (with_reducible repeat (first|refine kdN ?_ _|refine kd ?_|refine ka ?_ _));exact BK349.out)):gb356 ≠ gb349));clear HO340;clear HO343;clear HO352;clear HO355;clear BK336;clear BK349;clear HB;have HO340:=n0_;have HO343:=n1_;have HO352:=n2_;have HO355:=n3_;have BK336:=n4_;have BK349:=n5_;have HB:=n6_;have BK356:=n7_;have GW356:=n8_;have GE356:=n9_;have NB336_356:=n10_;have NB356_336:=n11_;have NB349_356:=n12_;have NB356_349:=n13_;clear n0_ n1_ n2_ n3_ n4_ n5_ n6_ n7_ n8_ n9_ n10_ n11_ n12_ n13_;clear hb hbox hg;obtain ⟨Ao30,co30,eo30⟩:=Kd.R_slice HO352.out;subst eo30;have hnb31:=NB356_336.out;have hnc31:=NB336_356.out;have hnb32:=NB356_349.out;have hnc32:=NB349_356.out;have hcz33_0:w29.cell? ⟨gb356,0,none⟩=some (.slice none 0 0):=(kc BK356.out 0).trans rfl;have hcz33_1:w29.cell? ⟨gb356,1,none⟩=some (.slice none 0 0):=(kc BK356.out 1).trans rfl;have hfz33_0:=kf BK356.out 0;have hfz33_1:=kf BK356.out 1;obtain ⟨Ao34,co34,eo34⟩:=Kd.S_slice HO355.out;subst eo34)|((with_reducible refine gcl (f:=35) rfl ?_);refine goesL_ (some 35) rfl rfl Tryd.func35 (by kernel_rfl) rfl #[.agg #[.slice Ao30 t350.length co30,.slice Ao34 t353.length co34],.string a1,.int .i64 a2] rfl (by (try simp only [zA,zC,zN]);first|done|rfl|(simp only [zM,zL];rfl)) ?_;(with_reducible refine (impl_FindSkip.calls k _ _ t350 _ _ t353 a1 a2 t357 t358 t359 t360 t361 _ ?side1 ?side2 ?side3 ?side4 ?sideT A14.out).mono ?_);(case sideT=>exact tab_below HT.out (by repeat (first|(with_reducible first|exact HB.out|apply bwa|apply pbN|apply bw1|refine bws ?_ (AsZ.out (by assumption)))|exact HB.out)));(case side1=>refine (Kd.R_reads' (e:=3) (base:=w.heap.size) (ok:=fun k_=>(True∧some k_ ≠ (.slice Ao21 t338.length co21:Value).ownBlock)) (n:=t350.length) (c:=co30) ?_).2.2;exact (by (with_reducible repeat (first|apply Kd.R_alloc|apply Kd.R_drewN|apply Kd.R_drew));exact (Kd.R_mono (Kd.R_far (p:=⟨gb356,1,none⟩) (Kd.R_far (p:=⟨gb356,0,none⟩) (Kd.R_types HO352.out BK356.out (by decide)) (fun _ hk=>hk.2) (.slice Ao30 t350.length co30)) (fun _ hk=>hk.2) (.slice Ao34 t353.length co34)) (fun _ h_=>h_.1))));(case side2=>exact (Kd.R_reads' HO352.out).2.1);(case side3=>refine (Kd.S_reads' (e:=77) (base:=w.heap.size) (ok:=fun k_=>((some k_ ≠ (.slice Ao30 t350.length co30:Value).ownBlock∧some k_ ≠ (.slice Ao21 t338.length co21:Value).ownBlock)∧some k_ ≠ (.slice Ao22 t341.length co22:Value).ownBlock)) (n:=t353.length) (c:=co34) ?_).2.2;exact (by (with_reducible repeat (first|apply Kd.S_alloc|apply Kd.S_drewN|apply Kd.S_drew));exact (Kd.S_mono (Kd.S_far (p:=⟨gb356,1,none⟩) (Kd.S_far (p:=⟨gb356,0,none⟩) (Kd.S_types HO355.out BK356.out (by decide)) (fun _ hk=>hk.2) (.slice Ao30 t350.length co30)) (fun _ hk=>hk.2) (.slice Ao34 t353.length co34)) (fun _ h_=>h_.1))));(case side4=>exact (Kd.S_reads' HO355.out).2.1);rintro e w35 ⟨rfl,hb⟩;refine ⟨_,rfl,?_⟩;have n0_:=AsZ.mk (Kd.R_below (by (with_reducible repeat (first|apply Kd.R_alloc|apply Kd.R_drewN|apply Kd.R_drew));exact (Kd.R_mono (Kd.R_far (p:=⟨gb356,1,none⟩) (Kd.R_far (p:=⟨gb356,0,none⟩) (Kd.R_types HO340.out BK356.out (by decide)) (fun _ hk=>hk.2) (.slice Ao30 t350.length co30)) (fun _ hk=>hk.2) (.slice Ao34 t353.length co34)) (fun _ h_=>h_.1))) hb);have n1_:=AsZ.mk (Kd.S_below (by (with_reducible repeat (first|apply Kd.S_alloc|apply Kd.S_drewN|apply Kd.S_drew));exact (Kd.S_mono (Kd.S_far (p:=⟨gb356,1,none⟩) (Kd.S_far (p:=⟨gb356,0,none⟩) (Kd.S_types HO343.out BK356.out (by decide)) (fun _ hk=>hk.2) (.slice Ao30 t350.length co30)) (fun _ hk=>hk.2) (.slice Ao34 t353.length co34)) (fun _ h_=>h_.1))) hb);have n2_:=AsZ.mk (Kd.R_below (by (with_reducible repeat (first|apply Kd.R_alloc|apply Kd.R_drewN|apply Kd.R_drew));exact (Kd.R_mono (Kd.R_far (p:=⟨gb356,1,none⟩) (Kd.R_far (p:=⟨gb356,0,none⟩) (Kd.R_types HO352.out BK356.out (by decide)) (fun _ hk=>hk.2) (.slice Ao30 t350.length co30)) (fun _ hk=>hk.2) (.slice Ao34 t353.length co34)) (fun _ h_=>h_.1))) hb);have n3_:=AsZ.mk (Kd.S_below (by (with_reducible repeat (first|apply Kd.S_alloc|apply Kd.S_drewN|apply Kd.S_drew));exact (Kd.S_mono (Kd.S_far (p:=⟨gb356,1,none⟩) (Kd.S_far (p:=⟨gb356,0,none⟩) (Kd.S_types HO355.out BK356.out (by decide)) (fun _ hk=>hk.2) (.slice Ao30 t350.length co30)) (fun _ hk=>hk.2) (.slice Ao34 t353.length co34)) (fun _ h_=>h_.1))) hb);have n4_:=AsZ.mk (kb (g:=gb336) (o := .cells #[.slice A0_0 l0_0.length c0_0,.slice A0_1 l0_1.length c0_1] 43 (0,0)) (by (with_reducible repeat (first|refine kdN ?_ _|refine kd ?_|refine ka ?_ _));refine blk_far ?_ NB336_356.out _;(with_reducible repeat (first|refine kdN ?_ _|refine kd ?_|refine ka ?_ _));refine blk_far ?_ NB336_356.out _;(with_reducible repeat (first|refine kdN ?_ _|refine kd ?_|refine ka ?_ _));exact BK336.out) hb);have n5_:=AsZ.mk (kb (g:=gb349) (o := .cells #[.string t344,.int .i64 t345,.int .i64 t346,.string t347] 28 (0,0)) (by (with_reducible repeat (first|refine kdN ?_ _|refine kd ?_|refine ka ?_ _));refine blk_far ?_ NB349_356.out _;(with_reducible repeat (first|refine kdN ?_ _|refine kd ?_|refine ka ?_ _));refine blk_far ?_ NB349_356.out _;(with_reducible repeat (first|refine kdN ?_ _|refine kd ?_|refine ka ?_ _));exact BK349.out) hb);have n6_:=AsZ.mk (kb (g:=gb356) (o := .cells #[.slice Ao30 t350.length co30,.slice Ao34 t353.length co34] 26 (0,0)) (by (with_reducible repeat (first|refine kdN ?_ _|refine kd ?_|refine ka ?_ _));refine blk_put (cs:=#[.slice Ao30 t350.length co30,.slice none 0 0]) ?_ 1 _ rfl;(with_reducible repeat (first|refine kdN ?_ _|refine kd ?_|refine ka ?_ _));refine blk_put (cs:=#[.slice none 0 0,.slice none 0 0]) ?_ 0 _ rfl;(with_reducible repeat (first|refine kdN ?_ _|refine kd ?_|refine ka ?_ _));exact BK356.out) hb);have n7_:=AsZ.mk (bwp (by repeat (first|(with_reducible first|exact HB.out|apply bwa|apply pbN|apply bw1|refine bws ?_ GE336.out|refine bws ?_ GE349.out|refine bws ?_ GE356.out)|exact HB.out)) hb);clear HO340;clear HO343;clear HO352;clear HO355;clear BK336;clear BK349;clear BK356;clear HB;have HO340:=n0_;have HO343:=n1_;have HO352:=n2_;have HO355:=n3_;have BK336:=n4_;have BK349:=n5_;have BK356:=n6_;have HB:=n7_;clear n0_ n1_ n2_ n3_ n4_ n5_ n6_ n7_;(try clear hb);(try clear hb2);(try clear hk);(try clear hi))|((with_reducible refine gate_dst (N:=11) rfl ?_);refine box_event ?hg (N:=11) ?hd (cs:=#[.string (⟨#[]⟩:ByteArray),.int .i64 0,.int .i64 0,.string (⟨#[]⟩:ByteArray)]) (t:=28) ?hr ?_;(case hd=>rfl);(case hg=>rfl);(case hr=>first|(go_simp;done)|(go_simp;rfl));intro gb362 hg w36 hbox hb;have n0_:=AsZ.mk (Kd.R_below (by (with_reducible repeat (first|apply Kd.R_alloc|apply Kd.R_drewN|apply Kd.R_drew));exact HO340.out) hb);have n1_:=AsZ.mk (Kd.S_below (by (with_reducible repeat (first|apply Kd.S_alloc|apply Kd.S_drewN|apply Kd.S_drew));exact HO343.out) hb);have n2_:=AsZ.mk (Kd.R_below (by (with_reducible repeat (first|apply Kd.R_alloc|apply Kd.R_drewN|apply Kd.R_drew));exact HO352.out) hb);have n3_:=AsZ.mk (Kd.S_below (by (with_reducible repeat (first|apply Kd.S_alloc|apply Kd.S_drewN|apply Kd.S_drew));exact HO355.out) hb);have n4_:=AsZ.mk (kb (g:=gb336) (o := .cells #[.slice A0_0 l0_0.length c0_0,.slice A0_1 l0_1.length c0_1] 43 (0,0)) (by (with_reducible repeat (first|refine kdN ?_ _|refine kd ?_|refine ka ?_ _));exact BK336.out) hb);have n5_:=AsZ.mk (kb (g:=gb349) (o := .cells #[.string t344,.int .i64 t345,.int .i64 t346,.string t347] 28 (0,0)) (by (with_reducible repeat (first|refine kdN ?_ _|refine kd ?_|refine ka ?_ _));exact BK349.out) hb);have n6_:=AsZ.mk (kb (g:=gb356) (o := .cells #[.slice Ao30 t350.length co30,.slice Ao34 t353.length co34] 26 (0,0)) (by (with_reducible repeat (first|refine kdN ?_ _|refine kd ?_|refine ka ?_ _));exact BK356.out) hb);have n7_:=AsZ.mk (bwp (by repeat (first|(with_reducible first|exact HB.out|apply bwa|apply pbN|apply bw1|refine bws ?_ GE336.out|refine bws ?_ GE349.out|refine bws ?_ GE356.out)|exact HB.out)) hb);have n8_:=AsZ.mk (hbox);have n9_:=AsZ.mk ((by rw [hg];exact (bwz (by repeat (first|(with_reducible first|exact HB.out|apply bwa|apply pbN|apply bw1|refine bws ?_ GE336.out|refine bws ?_ GE349.out|refine bws ?_ GE356.out)|exact HB.out))):w.heap.size≤gb362));have n10_:=AsZ.mk ((by rw [hg];exact (bwz (by repeat (first|(with_reducible first|exact HB.out|apply bwa|apply pbN|apply bw1|refine bws ?_ GE336.out|refine bws ?_ GE349.out|refine bws ?_ GE356.out)|exact HB.out))):w.heap.size≤gb362));have n11_:=AsZ.mk ((by rw [hg];exact Nat.ne_of_lt (blk_lt (g:=gb336) (o := .cells #[.slice A0_0 l0_0.length c0_0,.slice A0_1 l0_1.length c0_1] 43 (0,0)) (by (with_reducible repeat (first|refine kdN ?_ _|refine kd ?_|refine ka ?_ _));exact BK336.out)):gb336 ≠ gb362));have n12_:=AsZ.mk ((by rw [hg];exact Nat.ne_of_gt (blk_lt (g:=gb336) (o := .cells #[.slice A0_0 l0_0.length c0_0,.slice A0_1 l0_1.length c0_1] 43 (0,0)) (by (with_reducible repeat (first|refine kdN ?_ _|refine kd ?_|refine ka ?_ _));exact BK336.out)):gb362 ≠ gb336));have n13_:=AsZ.mk ((by rw [hg];exact Nat.ne_of_lt (blk_lt (g:=gb349) (o := .cells #[.string t344,.int .i64 t345,.int .i64 t346,.string t347] 28 (0,0)) (by (with_reducible repeat (first|refine kdN ?_ _|refine kd ?_|refine ka ?_ _));exact BK349.out)):gb349 ≠ gb362));have n14_:=AsZ.mk ((by rw [hg];exact Nat.ne_of_gt (blk_lt (g:=gb349) (o := .cells #[.string t344,.int .i64 t345,.int .i64 t346,.string t347] 28 (0,0)) (by (with_reducible repeat (first|refine kdN ?_ _|refine kd ?_|refine ka ?_ _));exact BK349.out)):gb362 ≠ gb349));have n15_:=AsZ.mk ((by rw [hg];exact Nat.ne_of_lt (blk_lt (g:=gb356) (o := .cells #[.slice Ao30 t350.length co30,.slice Ao34 t353.length co34] 26 (0,0)) (by (with_reducible repeat (first|refine kdN ?_ _|refine kd ?_|refine ka ?_ _));exact BK356.out)):gb356 ≠ gb362));have n16_:=AsZ.mk ((by rw [hg];exact Nat.ne_of_gt (blk_lt (g:=gb356) (o := .cells #[.slice Ao30 t350.length co30,.slice Ao34 t353.length co34] 26 (0,0)) (by (with_reducible repeat (first|refine kdN ?_ _|refine kd ?_|refine ka ?_ _));exact BK356.out)):gb362 ≠ gb356));clear HO340;clear HO343;clear HO352;clear HO355;clear BK336;clear BK349;clear BK356;clear HB;have HO340:=n0_;have HO343:=n1_;have HO352:=n2_;have HO355:=n3_;have BK336:=n4_;have BK349:=n5_;have BK356:=n6_;have HB:=n7_;have BK362:=n8_;have GW362:=n9_;have GE362:=n10_;have NB336_362:=n11_;have NB362_336:=n12_;have NB349_362:=n13_;have NB362_349:=n14_;have NB356_362:=n15_;have NB362_356:=n16_;clear n0_ n1_ n2_ n3_ n4_ n5_ n6_ n7_ n8_ n9_ n10_ n11_ n12_ n13_ n14_ n15_ n16_;clear hb hbox hg;have hnb37:=NB362_336.out;have hnc37:=NB336_362.out;have hnb38:=NB362_349.out;have hnc38:=NB349_362.out;have hnb39:=NB362_356.out;have hnc39:=NB356_362.out;have hcz40_0:w36.cell? ⟨gb362,0,none⟩=some (.string (⟨#[]⟩:ByteArray)):=(kc BK362.out 0).trans rfl;have hcz40_1:w36.cell? ⟨gb362,1,none⟩=some (.int .i64 0):=(kc BK362.out 1).trans rfl;have hcz40_2:w36.cell? ⟨gb362,2,none⟩=some (.int .i64 0):=(kc BK362.out 2).trans rfl;have hcz40_3:w36.cell? ⟨gb362,3,none⟩=some (.string (⟨#[]⟩:ByteArray)):=(kc BK362.out 3).trans rfl;have hfz40_0:=kf BK362.out 0;have hfz40_1:=kf BK362.out 1;have hfz40_2:=kf BK362.out 2;have hfz40_3:=kf BK362.out 3))
 (try simp only [Act.put,zS,zT,zU])
 go_cut [46] (fun v46 wc => ∃ (kq:Nat) (x46_14:Bool),v46 = .bool x46_14∧AsZ (laws_FnExactFindSkip.j0 kq x46_14 l0_0 l0_1 t350 t353=some r)∧AsZ (kq≤k)∧AsZ (Kd.R (Kd.int .i64) 3 wc w.heap.size (fun _=>True) (.slice Ao30 t350.length co30) t350)∧AsZ (Kd.S k77 77 wc w.heap.size (fun k_=>some k_ ≠ ((.slice Ao30 t350.length co30):Value).ownBlock) (.slice Ao34 t353.length co34) t353)∧AsZ (wc.heap[gb336]? = some (.cells #[(.slice A0_0 l0_0.length c0_0),(.slice A0_1 l0_1.length c0_1)] 43 (0,0)))∧AsZ (wc.heap[gb349]? = some (.cells #[.string t344,.int .i64 t345,.int .i64 t346,.string t347] 28 (0,0)))∧AsZ (wc.heap[gb356]? = some (.cells #[(.slice Ao30 t350.length co30),(.slice Ao34 t353.length co34)] 26 (0,0)))∧AsZ (wc.heap[gb362]? = some (.cells #[.string t357,.int .i64 t358,.int .i64 t359,.string t360] 28 (0,0)))∧AsZ (Below w.heap.size w wc))
 case first =>
  have H:=HC15.out
  clear HC15
  replace H:=Option.bind_eq_some_iff.mp H
  obtain ⟨t363,A410,H⟩:=H
  replace H:(if t363=true then (laws_FnExactFindSkip.j0 k (t361 != t348) l0_0 l0_1 t350 t353) else (laws_FnExactFindSkip.j0 k true l0_0 l0_1 t350 t353))=some r:=H
  have A41:=AsZ.mk A410
  clear A410
  by_cases c42:t363=true
  · subst c42
    have H1:(laws_FnExactFindSkip.j0 k (t361 != t348) l0_0 l0_1 t350 t353)=some r:=by rw [if_pos rfl] at H;exact H
    clear H
    have H:=H1
    clear H1
    have H':=AsZ.mk H
    clear H
    have hnb43:=NB362_336.out
    have hnc43:=NB336_362.out
    have hnb44:=NB362_349.out
    have hnc44:=NB349_362.out
    have hnb45:=NB362_356.out
    have hnc45:=NB356_362.out
    have hcz46_0:w36.cell? ⟨gb362,0,none⟩=some (.string (⟨#[]⟩:ByteArray)):=(kc BK362.out 0).trans rfl
    have hcz46_1:w36.cell? ⟨gb362,1,none⟩=some (.int .i64 0):=(kc BK362.out 1).trans rfl
    have hcz46_2:w36.cell? ⟨gb362,2,none⟩=some (.int .i64 0):=(kc BK362.out 2).trans rfl
    have hcz46_3:w36.cell? ⟨gb362,3,none⟩=some (.string (⟨#[]⟩:ByteArray)):=(kc BK362.out 3).trans rfl
    have hfz46_0:=kf BK362.out 0
    have hfz46_1:=kf BK362.out 1
    have hfz46_2:=kf BK362.out 2
    have hfz46_3:=kf BK362.out 3
    have hnb47:=NB349_336.out
    have hnc47:=NB336_349.out
    have hnb48:=NB349_356.out
    have hnc48:=NB356_349.out
    have hcz49_0:w36.cell? ⟨gb349,0,none⟩=some (.string t344):=(kc BK349.out 0).trans rfl
    have hcz49_1:w36.cell? ⟨gb349,1,none⟩=some (.int .i64 t345):=(kc BK349.out 1).trans rfl
    have hcz49_2:w36.cell? ⟨gb349,2,none⟩=some (.int .i64 t346):=(kc BK349.out 2).trans rfl
    have hcz49_3:w36.cell? ⟨gb349,3,none⟩=some (.string t347):=(kc BK349.out 3).trans rfl
    have hfz49_0:=kf BK349.out 0
    have hfz49_1:=kf BK349.out 1
    have hfz49_2:=kf BK349.out 2
    have hfz49_3:=kf BK349.out 3
    go_wp2_with (first|((with_reducible refine gcl (f:=33) rfl ?_);refine goesL_ (some 40) rfl rfl Tryd.func33 (by kernel_rfl) rfl #[.agg #[.string t357,.int .i64 t358,.int .i64 t359,.string t360],.agg #[.string t344,.int .i64 t345,.int .i64 t346,.string t347]] rfl (by (try simp only [zA,zC,zN]);first|done|rfl|(simp only [zM,zL];rfl)) ?_;(with_reducible refine (laws_eqItem.calls t357 t358 t359 t360 t344 t345 t346 t347 true _ A41.out).mono ?_);rintro e w50 ⟨rfl,hb⟩;refine ⟨_,rfl,?_⟩;have n0_:=AsZ.mk (Kd.R_below (by (with_reducible repeat (first|apply Kd.R_alloc|apply Kd.R_drewN|apply Kd.R_drew));exact (Kd.R_mono (Kd.R_far (p:=⟨gb362,3,none⟩) (Kd.R_far (p:=⟨gb362,2,none⟩) (Kd.R_far (p:=⟨gb362,1,none⟩) (Kd.R_far (p:=⟨gb362,0,none⟩) (Kd.R_types HO340.out BK362.out (by decide)) (fun _ hk=>hk.2) (.string t357)) (fun _ hk=>hk.2) (.int .i64 t358)) (fun _ hk=>hk.2) (.int .i64 t359)) (fun _ hk=>hk.2) (.string t360)) (fun _ h_=>h_.1))) hb);have n1_:=AsZ.mk (Kd.S_below (by (with_reducible repeat (first|apply Kd.S_alloc|apply Kd.S_drewN|apply Kd.S_drew));exact (Kd.S_mono (Kd.S_far (p:=⟨gb362,3,none⟩) (Kd.S_far (p:=⟨gb362,2,none⟩) (Kd.S_far (p:=⟨gb362,1,none⟩) (Kd.S_far (p:=⟨gb362,0,none⟩) (Kd.S_types HO343.out BK362.out (by decide)) (fun _ hk=>hk.2) (.string t357)) (fun _ hk=>hk.2) (.int .i64 t358)) (fun _ hk=>hk.2) (.int .i64 t359)) (fun _ hk=>hk.2) (.string t360)) (fun _ h_=>h_.1))) hb);have n2_:=AsZ.mk (Kd.R_below (by (with_reducible repeat (first|apply Kd.R_alloc|apply Kd.R_drewN|apply Kd.R_drew));exact (Kd.R_mono (Kd.R_far (p:=⟨gb362,3,none⟩) (Kd.R_far (p:=⟨gb362,2,none⟩) (Kd.R_far (p:=⟨gb362,1,none⟩) (Kd.R_far (p:=⟨gb362,0,none⟩) (Kd.R_types HO352.out BK362.out (by decide)) (fun _ hk=>hk.2) (.string t357)) (fun _ hk=>hk.2) (.int .i64 t358)) (fun _ hk=>hk.2) (.int .i64 t359)) (fun _ hk=>hk.2) (.string t360)) (fun _ h_=>h_.1))) hb);have n3_:=AsZ.mk (Kd.S_below (by (with_reducible repeat (first|apply Kd.S_alloc|apply Kd.S_drewN|apply Kd.S_drew));exact (Kd.S_mono (Kd.S_far (p:=⟨gb362,3,none⟩) (Kd.S_far (p:=⟨gb362,2,none⟩) (Kd.S_far (p:=⟨gb362,1,none⟩) (Kd.S_far (p:=⟨gb362,0,none⟩) (Kd.S_types HO355.out BK362.out (by decide)) (fun _ hk=>hk.2) (.string t357)) (fun _ hk=>hk.2) (.int .i64 t358)) (fun _ hk=>hk.2) (.int .i64 t359)) (fun _ hk=>hk.2) (.string t360)) (fun _ h_=>h_.1))) hb);have n4_:=AsZ.mk (kb (g:=gb336) (o := .cells #[.slice A0_0 l0_0.length c0_0,.slice A0_1 l0_1.length c0_1] 43 (0,0)) (by (with_reducible repeat (first|refine kdN ?_ _|refine kd ?_|refine ka ?_ _));refine blk_far ?_ NB336_362.out _;(with_reducible repeat (first|refine kdN ?_ _|refine kd ?_|refine ka ?_ _));refine blk_far ?_ NB336_362.out _;(with_reducible repeat (first|refine kdN ?_ _|refine kd ?_|refine ka ?_ _));refine blk_far ?_ NB336_362.out _;(with_reducible repeat (first|refine kdN ?_ _|refine kd ?_|refine ka ?_ _));refine blk_far ?_ NB336_362.out _;(with_reducible repeat (first|refine kdN ?_ _|refine kd ?_|refine ka ?_ _));exact BK336.out) hb);have n5_:=AsZ.mk (kb (g:=gb349) (o := .cells #[.string t344,.int .i64 t345,.int .i64 t346,.string t347] 28 (0,0)) (by (with_reducible repeat (first|refine kdN ?_ _|refine kd ?_|refine ka ?_ _));refine blk_far ?_ NB349_362.out _;(with_reducible repeat (first|refine kdN ?_ _|refine kd ?_|refine ka ?_ _));refine blk_far ?_ NB349_362.out _;(with_reducible repeat (first|refine kdN ?_ _|refine kd ?_|refine ka ?_ _));refine blk_far ?_ NB349_362.out _;(with_reducible repeat (first|refine kdN ?_ _|refine kd ?_|refine ka ?_ _));refine blk_far ?_ NB349_362.out _;(with_reducible repeat (first|refine kdN ?_ _|refine kd ?_|refine ka ?_ _));exact BK349.out) hb);have n6_:=AsZ.mk (kb (g:=gb356) (o := .cells #[.slice Ao30 t350.length co30,.slice Ao34 t353.length co34] 26 (0,0)) (by (with_reducible repeat (first|refine kdN ?_ _|refine kd ?_|refine ka ?_ _));refine blk_far ?_ NB356_362.out _;(with_reducible repeat (first|refine kdN ?_ _|refine kd ?_|refine ka ?_ _));refine blk_far ?_ NB356_362.out _;(with_reducible repeat (first|refine kdN ?_ _|refine kd ?_|refine ka ?_ _));refine blk_far ?_ NB356_362.out _;(with_reducible repeat (first|refine kdN ?_ _|refine kd ?_|refine ka ?_ _));refine blk_far ?_ NB356_362.out _;(with_reducible repeat (first|refine kdN ?_ _|refine kd ?_|refine ka ?_ _));exact BK356.out) hb);have n7_:=AsZ.mk (kb (g:=gb362) (o := .cells #[.string t357,.int .i64 t358,.int .i64 t359,.string t360] 28 (0,0)) (by (with_reducible repeat (first|refine kdN ?_ _|refine kd ?_|refine ka ?_ _));refine blk_put (cs:=#[.string t357,.int .i64 t358,.int .i64 t359,.string (⟨#[]⟩:ByteArray)]) ?_ 3 _ rfl;(with_reducible repeat (first|refine kdN ?_ _|refine kd ?_|refine ka ?_ _));refine blk_put (cs:=#[.string t357,.int .i64 t358,.int .i64 0,.string (⟨#[]⟩:ByteArray)]) ?_ 2 _ rfl;(with_reducible repeat (first|refine kdN ?_ _|refine kd ?_|refine ka ?_ _));refine blk_put (cs:=#[.string t357,.int .i64 0,.int .i64 0,.string (⟨#[]⟩:ByteArray)]) ?_ 1 _ rfl;(with_reducible repeat (first|refine kdN ?_ _|refine kd ?_|refine ka ?_ _));refine blk_put (cs:=#[.string (⟨#[]⟩:ByteArray),.int .i64 0,.int .i64 0,.string (⟨#[]⟩:ByteArray)]) ?_ 0 _ rfl;(with_reducible repeat (first|refine kdN ?_ _|refine kd ?_|refine ka ?_ _));exact BK362.out) hb);have n8_:=AsZ.mk (bwp (by repeat (first|(with_reducible first|exact HB.out|apply bwa|apply pbN|apply bw1|refine bws ?_ GE336.out|refine bws ?_ GE349.out|refine bws ?_ GE356.out|refine bws ?_ GE362.out)|exact HB.out)) hb);clear HO340;clear HO343;clear HO352;clear HO355;clear BK336;clear BK349;clear BK356;clear BK362;clear HB;have HO340:=n0_;have HO343:=n1_;have HO352:=n2_;have HO355:=n3_;have BK336:=n4_;have BK349:=n5_;have BK356:=n6_;have BK362:=n7_;have HB:=n8_;clear n0_ n1_ n2_ n3_ n4_ n5_ n6_ n7_ n8_;(try clear hb);(try clear hb2);(try clear hk);(try clear hi)))
    go_meet
    case rel=>exact ⟨_,((t361 != t348)),(by first|rfl|(simp;done)|(simp [*];done)),H',⟨by first|omega|exact Nat.le_refl _⟩,⟨by (with_reducible repeat (first|apply Kd.R_alloc|apply Kd.R_drewN|apply Kd.R_drew));exact Kd.R_mono HO352.out (fun _ hk=>trivial)⟩,⟨by (with_reducible repeat (first|apply Kd.S_alloc|apply Kd.S_drewN|apply Kd.S_drew));exact Kd.S_mono HO355.out (fun _ hk=>hk.1.1)⟩,⟨by (with_reducible repeat (first|refine kdN ?_ _|refine kd ?_|refine ka ?_ _));exact BK336.out⟩,⟨by (with_reducible repeat (first|refine kdN ?_ _|refine kd ?_|refine ka ?_ _));exact BK349.out⟩,⟨by (with_reducible repeat (first|refine kdN ?_ _|refine kd ?_|refine ka ?_ _));exact BK356.out⟩,⟨by (with_reducible repeat (first|refine kdN ?_ _|refine kd ?_|refine ka ?_ _));exact BK362.out⟩,⟨by repeat (first|(with_reducible first|exact HB.out|apply bwa|apply pbN|apply bw1|refine bws ?_ GE336.out|refine bws ?_ GE349.out|refine bws ?_ GE356.out|refine bws ?_ GE362.out)|exact HB.out)⟩⟩
  replace c42:=Bool.eq_false_iff.mpr c42
  subst c42
  have H1:(laws_FnExactFindSkip.j0 k true l0_0 l0_1 t350 t353)=some r:=by rw [if_neg (show ¬ (false=true) by decide)] at H;exact H
  clear H
  have H:=H1
  clear H1
  have H':=AsZ.mk H
  clear H
  have hnb51:=NB362_336.out
  have hnc51:=NB336_362.out
  have hnb52:=NB362_349.out
  have hnc52:=NB349_362.out
  have hnb53:=NB362_356.out
  have hnc53:=NB356_362.out
  have hcz54_0:w36.cell? ⟨gb362,0,none⟩=some (.string (⟨#[]⟩:ByteArray)):=(kc BK362.out 0).trans rfl
  have hcz54_1:w36.cell? ⟨gb362,1,none⟩=some (.int .i64 0):=(kc BK362.out 1).trans rfl
  have hcz54_2:w36.cell? ⟨gb362,2,none⟩=some (.int .i64 0):=(kc BK362.out 2).trans rfl
  have hcz54_3:w36.cell? ⟨gb362,3,none⟩=some (.string (⟨#[]⟩:ByteArray)):=(kc BK362.out 3).trans rfl
  have hfz54_0:=kf BK362.out 0
  have hfz54_1:=kf BK362.out 1
  have hfz54_2:=kf BK362.out 2
  have hfz54_3:=kf BK362.out 3
  have hnb55:=NB349_336.out
  have hnc55:=NB336_349.out
  have hnb56:=NB349_356.out
  have hnc56:=NB356_349.out
  have hcz57_0:w36.cell? ⟨gb349,0,none⟩=some (.string t344):=(kc BK349.out 0).trans rfl
  have hcz57_1:w36.cell? ⟨gb349,1,none⟩=some (.int .i64 t345):=(kc BK349.out 1).trans rfl
  have hcz57_2:w36.cell? ⟨gb349,2,none⟩=some (.int .i64 t346):=(kc BK349.out 2).trans rfl
  have hcz57_3:w36.cell? ⟨gb349,3,none⟩=some (.string t347):=(kc BK349.out 3).trans rfl
  have hfz57_0:=kf BK349.out 0
  have hfz57_1:=kf BK349.out 1
  have hfz57_2:=kf BK349.out 2
  have hfz57_3:=kf BK349.out 3
  go_wp2_with (first|((with_reducible refine gcl (f:=33) rfl ?_);refine goesL_ (some 40) rfl rfl Tryd.func33 (by kernel_rfl) rfl #[.agg #[.string t357,.int .i64 t358,.int .i64 t359,.string t360],.agg #[.string t344,.int .i64 t345,.int .i64 t346,.string t347]] rfl (by (try simp only [zA,zC,zN]);first|done|rfl|(simp only [zM,zL];rfl)) ?_;(with_reducible refine (laws_eqItem.calls t357 t358 t359 t360 t344 t345 t346 t347 false _ A41.out).mono ?_);rintro e w58 ⟨rfl,hb⟩;refine ⟨_,rfl,?_⟩;have n0_:=AsZ.mk (Kd.R_below (by (with_reducible repeat (first|apply Kd.R_alloc|apply Kd.R_drewN|apply Kd.R_drew));exact (Kd.R_mono (Kd.R_far (p:=⟨gb362,3,none⟩) (Kd.R_far (p:=⟨gb362,2,none⟩) (Kd.R_far (p:=⟨gb362,1,none⟩) (Kd.R_far (p:=⟨gb362,0,none⟩) (Kd.R_types HO340.out BK362.out (by decide)) (fun _ hk=>hk.2) (.string t357)) (fun _ hk=>hk.2) (.int .i64 t358)) (fun _ hk=>hk.2) (.int .i64 t359)) (fun _ hk=>hk.2) (.string t360)) (fun _ h_=>h_.1))) hb);have n1_:=AsZ.mk (Kd.S_below (by (with_reducible repeat (first|apply Kd.S_alloc|apply Kd.S_drewN|apply Kd.S_drew));exact (Kd.S_mono (Kd.S_far (p:=⟨gb362,3,none⟩) (Kd.S_far (p:=⟨gb362,2,none⟩) (Kd.S_far (p:=⟨gb362,1,none⟩) (Kd.S_far (p:=⟨gb362,0,none⟩) (Kd.S_types HO343.out BK362.out (by decide)) (fun _ hk=>hk.2) (.string t357)) (fun _ hk=>hk.2) (.int .i64 t358)) (fun _ hk=>hk.2) (.int .i64 t359)) (fun _ hk=>hk.2) (.string t360)) (fun _ h_=>h_.1))) hb);have n2_:=AsZ.mk (Kd.R_below (by (with_reducible repeat (first|apply Kd.R_alloc|apply Kd.R_drewN|apply Kd.R_drew));exact (Kd.R_mono (Kd.R_far (p:=⟨gb362,3,none⟩) (Kd.R_far (p:=⟨gb362,2,none⟩) (Kd.R_far (p:=⟨gb362,1,none⟩) (Kd.R_far (p:=⟨gb362,0,none⟩) (Kd.R_types HO352.out BK362.out (by decide)) (fun _ hk=>hk.2) (.string t357)) (fun _ hk=>hk.2) (.int .i64 t358)) (fun _ hk=>hk.2) (.int .i64 t359)) (fun _ hk=>hk.2) (.string t360)) (fun _ h_=>h_.1))) hb);have n3_:=AsZ.mk (Kd.S_below (by (with_reducible repeat (first|apply Kd.S_alloc|apply Kd.S_drewN|apply Kd.S_drew));exact (Kd.S_mono (Kd.S_far (p:=⟨gb362,3,none⟩) (Kd.S_far (p:=⟨gb362,2,none⟩) (Kd.S_far (p:=⟨gb362,1,none⟩) (Kd.S_far (p:=⟨gb362,0,none⟩) (Kd.S_types HO355.out BK362.out (by decide)) (fun _ hk=>hk.2) (.string t357)) (fun _ hk=>hk.2) (.int .i64 t358)) (fun _ hk=>hk.2) (.int .i64 t359)) (fun _ hk=>hk.2) (.string t360)) (fun _ h_=>h_.1))) hb);have n4_:=AsZ.mk (kb (g:=gb336) (o := .cells #[.slice A0_0 l0_0.length c0_0,.slice A0_1 l0_1.length c0_1] 43 (0,0)) (by (with_reducible repeat (first|refine kdN ?_ _|refine kd ?_|refine ka ?_ _));refine blk_far ?_ NB336_362.out _;(with_reducible repeat (first|refine kdN ?_ _|refine kd ?_|refine ka ?_ _));refine blk_far ?_ NB336_362.out _;(with_reducible repeat (first|refine kdN ?_ _|refine kd ?_|refine ka ?_ _));refine blk_far ?_ NB336_362.out _;(with_reducible repeat (first|refine kdN ?_ _|refine kd ?_|refine ka ?_ _));refine blk_far ?_ NB336_362.out _;(with_reducible repeat (first|refine kdN ?_ _|refine kd ?_|refine ka ?_ _));exact BK336.out) hb);have n5_:=AsZ.mk (kb (g:=gb349) (o := .cells #[.string t344,.int .i64 t345,.int .i64 t346,.string t347] 28 (0,0)) (by (with_reducible repeat (first|refine kdN ?_ _|refine kd ?_|refine ka ?_ _));refine blk_far ?_ NB349_362.out _;(with_reducible repeat (first|refine kdN ?_ _|refine kd ?_|refine ka ?_ _));refine blk_far ?_ NB349_362.out _;(with_reducible repeat (first|refine kdN ?_ _|refine kd ?_|refine ka ?_ _));refine blk_far ?_ NB349_362.out _;(with_reducible repeat (first|refine kdN ?_ _|refine kd ?_|refine ka ?_ _));refine blk_far ?_ NB349_362.out _;(with_reducible repeat (first|refine kdN ?_ _|refine kd ?_|refine ka ?_ _));exact BK349.out) hb);have n6_:=AsZ.mk (kb (g:=gb356) (o := .cells #[.slice Ao30 t350.length co30,.slice Ao34 t353.length co34] 26 (0,0)) (by (with_reducible repeat (first|refine kdN ?_ _|refine kd ?_|refine ka ?_ _));refine blk_far ?_ NB356_362.out _;(with_reducible repeat (first|refine kdN ?_ _|refine kd ?_|refine ka ?_ _));refine blk_far ?_ NB356_362.out _;(with_reducible repeat (first|refine kdN ?_ _|refine kd ?_|refine ka ?_ _));refine blk_far ?_ NB356_362.out _;(with_reducible repeat (first|refine kdN ?_ _|refine kd ?_|refine ka ?_ _));refine blk_far ?_ NB356_362.out _;(with_reducible repeat (first|refine kdN ?_ _|refine kd ?_|refine ka ?_ _));exact BK356.out) hb);have n7_:=AsZ.mk (kb (g:=gb362) (o := .cells #[.string t357,.int .i64 t358,.int .i64 t359,.string t360] 28 (0,0)) (by (with_reducible repeat (first|refine kdN ?_ _|refine kd ?_|refine ka ?_ _));refine blk_put (cs:=#[.string t357,.int .i64 t358,.int .i64 t359,.string (⟨#[]⟩:ByteArray)]) ?_ 3 _ rfl;(with_reducible repeat (first|refine kdN ?_ _|refine kd ?_|refine ka ?_ _));refine blk_put (cs:=#[.string t357,.int .i64 t358,.int .i64 0,.string (⟨#[]⟩:ByteArray)]) ?_ 2 _ rfl;(with_reducible repeat (first|refine kdN ?_ _|refine kd ?_|refine ka ?_ _));refine blk_put (cs:=#[.string t357,.int .i64 0,.int .i64 0,.string (⟨#[]⟩:ByteArray)]) ?_ 1 _ rfl;(with_reducible repeat (first|refine kdN ?_ _|refine kd ?_|refine ka ?_ _));refine blk_put (cs:=#[.string (⟨#[]⟩:ByteArray),.int .i64 0,.int .i64 0,.string (⟨#[]⟩:ByteArray)]) ?_ 0 _ rfl;(with_reducible repeat (first|refine kdN ?_ _|refine kd ?_|refine ka ?_ _));exact BK362.out) hb);have n8_:=AsZ.mk (bwp (by repeat (first|(with_reducible first|exact HB.out|apply bwa|apply pbN|apply bw1|refine bws ?_ GE336.out|refine bws ?_ GE349.out|refine bws ?_ GE356.out|refine bws ?_ GE362.out)|exact HB.out)) hb);clear HO340;clear HO343;clear HO352;clear HO355;clear BK336;clear BK349;clear BK356;clear BK362;clear HB;have HO340:=n0_;have HO343:=n1_;have HO352:=n2_;have HO355:=n3_;have BK336:=n4_;have BK349:=n5_;have BK356:=n6_;have BK362:=n7_;have HB:=n8_;clear n0_ n1_ n2_ n3_ n4_ n5_ n6_ n7_ n8_;(try clear hb);(try clear hb2);(try clear hk);(try clear hi)))
  go_meet
  case rel=>exact ⟨_,(true),(by first|rfl|(simp;done)|(simp [*];done)),H',⟨by first|omega|exact Nat.le_refl _⟩,⟨by (with_reducible repeat (first|apply Kd.R_alloc|apply Kd.R_drewN|apply Kd.R_drew));exact Kd.R_mono HO352.out (fun _ hk=>trivial)⟩,⟨by (with_reducible repeat (first|apply Kd.S_alloc|apply Kd.S_drewN|apply Kd.S_drew));exact Kd.S_mono HO355.out (fun _ hk=>hk.1.1)⟩,⟨by (with_reducible repeat (first|refine kdN ?_ _|refine kd ?_|refine ka ?_ _));exact BK336.out⟩,⟨by (with_reducible repeat (first|refine kdN ?_ _|refine kd ?_|refine ka ?_ _));exact BK349.out⟩,⟨by (with_reducible repeat (first|refine kdN ?_ _|refine kd ?_|refine ka ?_ _));exact BK356.out⟩,⟨by (with_reducible repeat (first|refine kdN ?_ _|refine kd ?_|refine ka ?_ _));exact BK362.out⟩,⟨by repeat (first|(with_reducible first|exact HB.out|apply bwa|apply pbN|apply bw1|refine bws ?_ GE336.out|refine bws ?_ GE349.out|refine bws ?_ GE356.out|refine bws ?_ GE362.out)|exact HB.out)⟩⟩
 case rest =>
  clear HC15
  try clear c1
  try clear c2
  try clear p2
  try clear c3
  try clear c4
  try clear c4b0
  try clear c4b1
  try clear c5
  try clear c7
  try clear c7b0
  try clear c10
  try clear c18
  try clear c20
  try clear c25
  try clear c31
  try clear c32
  try clear c33
  try clear c35
  try clear c36
  try clear c37
  try clear c38
  try clear c39
  try clear c42
  try clear c43
  try clear c44
  try clear c45
  try clear c47
  try clear c48
  try clear c51
  try clear c52
  try clear c53
  try clear c55
  try clear c56
  try clear hcz17_0
  try clear hcz17_1
  try clear hcz19_0
  try clear hcz19_1
  try clear hcz26_0
  try clear hcz26_1
  try clear hcz26_2
  try clear hcz26_3
  try clear hcz27_0
  try clear hcz27_1
  try clear hcz33_0
  try clear hcz33_1
  try clear hcz40_0
  try clear hcz40_1
  try clear hcz40_2
  try clear hcz40_3
  try clear hcz46_0
  try clear hcz46_1
  try clear hcz46_2
  try clear hcz46_3
  try clear hcz49_0
  try clear hcz49_1
  try clear hcz49_2
  try clear hcz49_3
  try clear hcz54_0
  try clear hcz54_1
  try clear hcz54_2
  try clear hcz54_3
  try clear hcz57_0
  try clear hcz57_1
  try clear hcz57_2
  try clear hcz57_3
  try clear hcz9_0
  try clear hcz9_1
  try clear hfz17_0
  try clear hfz17_1
  try clear hfz19_0
  try clear hfz19_1
  try clear hfz26_0
  try clear hfz26_1
  try clear hfz26_2
  try clear hfz26_3
  try clear hfz27_0
  try clear hfz27_1
  try clear hfz33_0
  try clear hfz33_1
  try clear hfz40_0
  try clear hfz40_1
  try clear hfz40_2
  try clear hfz40_3
  try clear hfz46_0
  try clear hfz46_1
  try clear hfz46_2
  try clear hfz46_3
  try clear hfz49_0
  try clear hfz49_1
  try clear hfz49_2
  try clear hfz49_3
  try clear hfz54_0
  try clear hfz54_1
  try clear hfz54_2
  try clear hfz54_3
  try clear hfz57_0
  try clear hfz57_1
  try clear hfz57_2
  try clear hfz57_3
  try clear hfz9_0
  try clear hfz9_1
  obtain ⟨kq,x46_14,rfl,HA,HJ14,HO_357000,HO_357001,BK336,BK349,BK356,BK362,HB⟩:=hcut
  cases kq with
  |zero=>exact absurd HA.out (by simp [laws_FnExactFindSkip.j0])
  |succ kj14 =>
   have H:=HA.out
   clear HA
   simp only [laws_FnExactFindSkip.j0] at H
   by_cases c59:x46_14=true
   · subst c59
     have H1:(some false)=some r:=by rw [if_pos rfl] at H;exact H
     clear H
     have H:=H1
     clear H1
     obtain rfl:=zI H
     go_wp2
     go_ret
     exact ⟨by first|rfl|(simp [errW_none,errW_some]<;>rfl)|(simp [*,errW_none,errW_some]<;>rfl),by repeat (first|(with_reducible first|exact HB.out|apply bwa|apply pbN|apply bw1|refine bws ?_ GE336.out|refine bws ?_ GE349.out|refine bws ?_ GE356.out|refine bws ?_ GE362.out)|exact HB.out)⟩
   replace c59:=Bool.eq_false_iff.mpr c59
   subst c59
   have H1:((laws_toSkip.f kj14 l0_0 l0_1).bind fun bt364=>((laws_eqSkip.f kj14 t350 t353 bt364.1 bt364.2).bind fun t370=>(if t370=true then (some true) else (some false))))=some r:=by rw [if_neg (show ¬ (false=true) by decide)] at H;exact H
   clear H
   have H:=H1
   clear H1
   replace H:=Option.bind_eq_some_iff.mp H
   obtain ⟨⟨t364,t367⟩,A600,H⟩:=H
   replace H:((laws_eqSkip.f kj14 t350 t353 t364 t367).bind fun t370=>(if t370=true then (some true) else (some false)))=some r:=H
   have A60:=AsZ.mk A600
   clear A600
   replace H:=Option.bind_eq_some_iff.mp H
   obtain ⟨t370,A610,H⟩:=H
   replace H:(if t370=true then (some true) else (some false))=some r:=H
   have A61:=AsZ.mk A610
   clear A610
   by_cases c62:t370=true
   · subst c62
     have H1:(some true)=some r:=by rw [if_pos rfl] at H;exact H
     clear H
     have H:=H1
     clear H1
     obtain rfl:=zI H
     try go_wp2
     have n0_:=AsZ.mk (Kd.R_drew HO_357000.out)
     have n1_:=AsZ.mk (Kd.S_drew HO_357001.out)
     have n2_:=AsZ.mk (kd BK336.out)
     have n3_:=AsZ.mk (kd BK349.out)
     have n4_:=AsZ.mk (kd BK356.out)
     have n5_:=AsZ.mk (kd BK362.out)
     have n6_:=AsZ.mk (bw1 HB.out)
     clear HO_357000 HO_357001 BK336 BK349 BK356 BK362 HB
     have HO_357000:=n0_
     have HO_357001:=n1_
     have BK336:=n2_
     have BK349:=n3_
     have BK356:=n4_
     have BK362:=n5_
     have HB:=n6_
     clear n0_ n1_ n2_ n3_ n4_ n5_ n6_
     refine start_ (n:=5) (S:=fun w'=>w'.cell? ⟨gb356,0,none⟩=some (.slice Ao30 t350.length co30)∧w'.cell? ⟨gb356,1,none⟩=some (.slice Ao34 t353.length co34)∧w'.cell? ⟨gb336,0,none⟩=some (.slice A0_0 l0_0.length c0_0)∧w'.cell? ⟨gb336,1,none⟩=some (.slice A0_1 l0_1.length c0_1)) (ds:=[]) (b_ 0 5) (by kernel_rfl) rfl rfl ⟨(kc BK356.out 0).trans rfl,(kc BK356.out 1).trans rfl,(kc BK336.out 0).trans rfl,(kc BK336.out 1).trans rfl⟩ (fun hHeld=>?_)
     generalize wc.drew=w63 at HO_357000 HO_357001 BK336 BK349 BK356 BK362 HB hHeld ⊢
     refine take_ (i:=0) (N:=some 47) (v:=?_) (a':=?_) (b_ 1 4) rfl rfl (by kernel_rfl) (fun _ _ _ h=>h) (Or.inl ⟨by rfl,?_⟩) hHeld ?_ ?_
     rotate_left
     · rintro w' ⟨s0,s1,s2,s3⟩
       go_simp
       with_reducible rfl
     rotate_left
     · simp only [Act.put,zS,zT,zU,i64_w,i32_w]
       rfl
     refine take_ (i:=1) (N:=some 48) (v:=?_) (a':=?_) (b_ 2 3) rfl rfl (by kernel_rfl) (fun _ _ _ h=>h) (Or.inl ⟨by rfl,?_⟩) hHeld ?_ ?_
     rotate_left
     · rintro w' ⟨s0,s1,s2,s3⟩
       go_simp
       with_reducible rfl
     rotate_left
     · simp only [Act.put,zS,zT,zU,i64_w,i32_w]
       rfl
     refine one_ (i:=2) (N:=some 49) (b_ 3 2) rfl rfl (by kernel_rfl) (by decide) (fun K hK=>?_)
     refine goes_ Tryd.func20 (by kernel_rfl) rfl #[.agg #[.slice A0_0 l0_0.length c0_0,.slice A0_1 l0_1.length c0_1]] (by rfl) rfl rfl (by (try simp only [zA,zC,zN]);first|done|rfl|(simp only [zM,zL];rfl)) ?_
     with_reducible refine (laws_toSkip.calls kj14 _ _ l0_0 _ _ l0_1 t364 t367 _ ?side1 ?side2 ?side3 ?side4 A60.out).mono ?_
     (case side1=>repeat (first|exact (Kd.C_below HR0_0.out HB.out)|(with_reducible refine Kd.C_alloc ?_ _)|(with_reducible refine Kd.C_drewN ?_ _)|(with_reducible refine Kd.C_drew ?_)))
     (case side2=>exact HC0_0.out)
     (case side3=>repeat (first|exact (Kd.C_below HR0_1.out HB.out)|(with_reducible refine Kd.C_alloc ?_ _)|(with_reducible refine Kd.C_drewN ?_ _)|(with_reducible refine Kd.C_drew ?_)))
     (case side4=>exact HC0_1.out)
     rintro e w64 ⟨v365,v368,rfl,ho0,ho1,hb⟩
     refine ⟨_,rfl,?_⟩
     have n0_:=AsZ.mk (Kd.R_elder' (by (with_reducible repeat (first|apply Kd.R_alloc|apply Kd.R_drewN|apply Kd.R_drew));exact HO_357000.out) (Kd.R_base ho0) hb)
     have n1_:=AsZ.mk (Kd.S_mono (Kd.S_told (Kd.S_told (Kd.S_old (by (with_reducible repeat (first|apply Kd.S_alloc|apply Kd.S_drewN|apply Kd.S_drew));exact HO_357001.out) hb) (Kd.R_base ho0)) (Kd.S_base ho1)) (fun _ h_=>h_.1))
     have n2_:=AsZ.mk (Kd.R_lower (Kd.R_new' ho0 (Kd.R_lt (by (with_reducible repeat (first|apply Kd.R_alloc|apply Kd.R_drewN|apply Kd.R_drew));exact HO_357000.out))) (bwz (by repeat (first|(with_reducible first|exact HB.out|apply bwa|apply pbN|apply bw1|refine bws ?_ GE336.out|refine bws ?_ GE349.out|refine bws ?_ GE356.out|refine bws ?_ GE362.out)|exact HB.out))))
     have n3_:=AsZ.mk (Kd.S_lower (Kd.S_new' (Kd.S_new' ho1 (Kd.R_lt (by (with_reducible repeat (first|apply Kd.R_alloc|apply Kd.R_drewN|apply Kd.R_drew));exact HO_357000.out))) (Kd.S_lt (by (with_reducible repeat (first|apply Kd.S_alloc|apply Kd.S_drewN|apply Kd.S_drew));exact HO_357001.out))) (bwz (by repeat (first|(with_reducible first|exact HB.out|apply bwa|apply pbN|apply bw1|refine bws ?_ GE336.out|refine bws ?_ GE349.out|refine bws ?_ GE356.out|refine bws ?_ GE362.out)|exact HB.out))))
     have n4_:=AsZ.mk (kb (g:=gb336) (o := .cells #[.slice A0_0 l0_0.length c0_0,.slice A0_1 l0_1.length c0_1] 43 (0,0)) (by (with_reducible repeat (first|refine kdN ?_ _|refine kd ?_|refine ka ?_ _));exact BK336.out) hb)
     have n5_:=AsZ.mk (kb (g:=gb349) (o := .cells #[.string t344,.int .i64 t345,.int .i64 t346,.string t347] 28 (0,0)) (by (with_reducible repeat (first|refine kdN ?_ _|refine kd ?_|refine ka ?_ _));exact BK349.out) hb)
     have n6_:=AsZ.mk (kb (g:=gb356) (o := .cells #[.slice Ao30 t350.length co30,.slice Ao34 t353.length co34] 26 (0,0)) (by (with_reducible repeat (first|refine kdN ?_ _|refine kd ?_|refine ka ?_ _));exact BK356.out) hb)
     have n7_:=AsZ.mk (kb (g:=gb362) (o := .cells #[.string t357,.int .i64 t358,.int .i64 t359,.string t360] 28 (0,0)) (by (with_reducible repeat (first|refine kdN ?_ _|refine kd ?_|refine ka ?_ _));exact BK362.out) hb)
     have n8_:=AsZ.mk (bwp (by repeat (first|(with_reducible first|exact HB.out|apply bwa|apply pbN|apply bw1|refine bws ?_ GE336.out|refine bws ?_ GE349.out|refine bws ?_ GE356.out|refine bws ?_ GE362.out)|exact HB.out)) hb)
     clear HO_357000 HO_357001 BK336 BK349 BK356 BK362 HB
     have HO_357000:=n0_
     have HO_357001:=n1_
     have HO366:=n2_
     have HO369:=n3_
     have BK336:=n4_
     have BK349:=n5_
     have BK356:=n6_
     have BK362:=n7_
     have HB:=n8_
     clear n0_ n1_ n2_ n3_ n4_ n5_ n6_ n7_ n8_
     (try clear hb)
     (try clear hb2)
     (try clear hk)
     (try clear hi)
     (try clear ho0)
     (try clear ho1)
     obtain ⟨Ao65,co65,eo65⟩:=Kd.R_slice HO366.out
     (first|subst eo65|(injection eo65 with f1_ f2_ f3_;have f4_:=f1_.symm;have f5_:=f3_.symm;clear f1_ f2_ f3_;subst f4_;subst f5_))
     obtain ⟨Ao66,co66,eo66⟩:=Kd.S_slice HO369.out
     (first|subst eo66|(injection eo66 with f1_ f2_ f3_;have f4_:=f1_.symm;have f5_:=f3_.symm;clear f1_ f2_ f3_;subst f4_;subst f5_))
     refine hK.out _ _ ⟨(kc BK356.out 0).trans rfl,(kc BK356.out 1).trans rfl,(kc BK336.out 0).trans rfl,(kc BK336.out 1).trans rfl⟩ (fun hHeld=>?_)
     clear hK K
     refine norm_ (a':=?_) ?_ ?_
     rotate_left
     · show Act.put _ (some 49) _=_
       simp only [Act.put,zS,zT,zU,i64_w,i32_w]
       rfl
     refine one_ (i:=3) (N:=some 50) (b_ 4 1) rfl rfl (by kernel_rfl) (by decide) (fun K hK=>?_)
     refine goes_ Tryd.func22 (by kernel_rfl) rfl #[.agg #[.slice Ao30 t350.length co30,.slice Ao34 t353.length co34],.agg #[.slice Ao65 t364.length co65,.slice Ao66 t367.length co66]] (by rfl) rfl rfl (by (try simp only [zA,zC,zN]);first|done|rfl|(simp only [zM,zL];rfl)) ?_
     with_reducible refine (laws_eqSkip.calls kj14 _ _ t350 _ _ t353 _ _ t364 _ _ t367 true _ ?side1 ?side2 ?side3 ?side4 ?side5 ?side6 ?side7 ?side8 A61.out).mono ?_
     (case side1=>repeat (first|exact (Kd.R_reads' HO_357000.out).2.2|(with_reducible refine Kd.C_alloc ?_ _)|(with_reducible refine Kd.C_drewN ?_ _)|(with_reducible refine Kd.C_drew ?_)))
     (case side2=>exact (Kd.R_reads' HO_357000.out).2.1)
     (case side3=>repeat (first|exact (Kd.S_reads' HO_357001.out).2.2|(with_reducible refine Kd.C_alloc ?_ _)|(with_reducible refine Kd.C_drewN ?_ _)|(with_reducible refine Kd.C_drew ?_)))
     (case side4=>exact (Kd.S_reads' HO_357001.out).2.1)
     (case side5=>repeat (first|exact (Kd.R_reads' HO366.out).2.2|(with_reducible refine Kd.C_alloc ?_ _)|(with_reducible refine Kd.C_drewN ?_ _)|(with_reducible refine Kd.C_drew ?_)))
     (case side6=>exact (Kd.R_reads' HO366.out).2.1)
     (case side7=>repeat (first|exact (Kd.S_reads' HO369.out).2.2|(with_reducible refine Kd.C_alloc ?_ _)|(with_reducible refine Kd.C_drewN ?_ _)|(with_reducible refine Kd.C_drew ?_)))
     (case side8=>exact (Kd.S_reads' HO369.out).2.1)
     rintro e w67 ⟨rfl,hb⟩
     refine ⟨_,rfl,?_⟩
     have n0_:=AsZ.mk (Kd.R_below (by (with_reducible repeat (first|apply Kd.R_alloc|apply Kd.R_drewN|apply Kd.R_drew));exact HO_357000.out) hb)
     have n1_:=AsZ.mk (Kd.S_below (by (with_reducible repeat (first|apply Kd.S_alloc|apply Kd.S_drewN|apply Kd.S_drew));exact HO_357001.out) hb)
     have n2_:=AsZ.mk (Kd.R_below (by (with_reducible repeat (first|apply Kd.R_alloc|apply Kd.R_drewN|apply Kd.R_drew));exact HO366.out) hb)
     have n3_:=AsZ.mk (Kd.S_below (by (with_reducible repeat (first|apply Kd.S_alloc|apply Kd.S_drewN|apply Kd.S_drew));exact HO369.out) hb)
     have n4_:=AsZ.mk (kb (g:=gb336) (o := .cells #[.slice A0_0 l0_0.length c0_0,.slice A0_1 l0_1.length c0_1] 43 (0,0)) (by (with_reducible repeat (first|refine kdN ?_ _|refine kd ?_|refine ka ?_ _));exact BK336.out) hb)
     have n5_:=AsZ.mk (kb (g:=gb349) (o := .cells #[.string t344,.int .i64 t345,.int .i64 t346,.string t347] 28 (0,0)) (by (with_reducible repeat (first|refine kdN ?_ _|refine kd ?_|refine ka ?_ _));exact BK349.out) hb)
     have n6_:=AsZ.mk (kb (g:=gb356) (o := .cells #[.slice Ao30 t350.length co30,.slice Ao34 t353.length co34] 26 (0,0)) (by (with_reducible repeat (first|refine kdN ?_ _|refine kd ?_|refine ka ?_ _));exact BK356.out) hb)
     have n7_:=AsZ.mk (kb (g:=gb362) (o := .cells #[.string t357,.int .i64 t358,.int .i64 t359,.string t360] 28 (0,0)) (by (with_reducible repeat (first|refine kdN ?_ _|refine kd ?_|refine ka ?_ _));exact BK362.out) hb)
     have n8_:=AsZ.mk (bwp (by repeat (first|(with_reducible first|exact HB.out|apply bwa|apply pbN|apply bw1|refine bws ?_ GE336.out|refine bws ?_ GE349.out|refine bws ?_ GE356.out|refine bws ?_ GE362.out)|exact HB.out)) hb)
     clear HO_357000 HO_357001 HO366 HO369 BK336 BK349 BK356 BK362 HB
     have HO_357000:=n0_
     have HO_357001:=n1_
     have HO366:=n2_
     have HO369:=n3_
     have BK336:=n4_
     have BK349:=n5_
     have BK356:=n6_
     have BK362:=n7_
     have HB:=n8_
     clear n0_ n1_ n2_ n3_ n4_ n5_ n6_ n7_ n8_
     (try clear hb)
     (try clear hb2)
     (try clear hk)
     (try clear hi)
     refine hK.out _ _ ⟨(kc BK356.out 0).trans rfl,(kc BK356.out 1).trans rfl,(kc BK336.out 0).trans rfl,(kc BK336.out 1).trans rfl⟩ (fun hHeld=>?_)
     clear hK K
     refine norm_ (a':=?_) ?_ ?_
     rotate_left
     · show Act.put _ (some 50) _=_
       simp only [Act.put,zS,zT,zU,i64_w,i32_w]
       rfl
     refine pure_ (i:=4) (N:=some 51) (v:=?_) (a':=?_) (b_ 5 0) rfl rfl (by kernel_rfl) (fun _ _ _ h=>h) (Or.inl ⟨by rfl,?_⟩) ?_ ?_
     rotate_left
     · intro w'
       go_simp
       with_reducible rfl
     rotate_left
     · simp only [Act.put,zS,zT,zU,i64_w,i32_w]
       rfl
     refine dn_ (by kernel_rfl) ?_
     try go_wp2
     go_ret
     exact ⟨by first|rfl|(simp [errW_none,errW_some]<;>rfl)|(simp [*,errW_none,errW_some]<;>rfl),by repeat (first|(with_reducible first|exact HB.out|apply bwa|apply pbN|apply bw1|refine bws ?_ GE336.out|refine bws ?_ GE349.out|refine bws ?_ GE356.out|refine bws ?_ GE362.out)|exact HB.out)⟩
   replace c62:=Bool.eq_false_iff.mpr c62
   subst c62
   have H1:(some false)=some r:=by rw [if_neg (show ¬ (false=true) by decide)] at H;exact H
   clear H
   have H:=H1
   clear H1
   obtain rfl:=zI H
   try go_wp2
   have n0_:=AsZ.mk (Kd.R_drew HO_357000.out)
   have n1_:=AsZ.mk (Kd.S_drew HO_357001.out)
   have n2_:=AsZ.mk (kd BK336.out)
   have n3_:=AsZ.mk (kd BK349.out)
   have n4_:=AsZ.mk (kd BK356.out)
   have n5_:=AsZ.mk (kd BK362.out)
   have n6_:=AsZ.mk (bw1 HB.out)
   clear HO_357000 HO_357001 BK336 BK349 BK356 BK362 HB
   have HO_357000:=n0_
   have HO_357001:=n1_
   have BK336:=n2_
   have BK349:=n3_
   have BK356:=n4_
   have BK362:=n5_
   have HB:=n6_
   clear n0_ n1_ n2_ n3_ n4_ n5_ n6_
   refine start_ (n:=5) (S:=fun w'=>w'.cell? ⟨gb356,0,none⟩=some (.slice Ao30 t350.length co30)∧w'.cell? ⟨gb356,1,none⟩=some (.slice Ao34 t353.length co34)∧w'.cell? ⟨gb336,0,none⟩=some (.slice A0_0 l0_0.length c0_0)∧w'.cell? ⟨gb336,1,none⟩=some (.slice A0_1 l0_1.length c0_1)) (ds:=[]) (b_ 0 5) (by kernel_rfl) rfl rfl ⟨(kc BK356.out 0).trans rfl,(kc BK356.out 1).trans rfl,(kc BK336.out 0).trans rfl,(kc BK336.out 1).trans rfl⟩ (fun hHeld=>?_)
   generalize wc.drew=w68 at HO_357000 HO_357001 BK336 BK349 BK356 BK362 HB hHeld ⊢
   refine take_ (i:=0) (N:=some 47) (v:=?_) (a':=?_) (b_ 1 4) rfl rfl (by kernel_rfl) (fun _ _ _ h=>h) (Or.inl ⟨by rfl,?_⟩) hHeld ?_ ?_
   rotate_left
   · rintro w' ⟨s0,s1,s2,s3⟩
     go_simp
     with_reducible rfl
   rotate_left
   · simp only [Act.put,zS,zT,zU,i64_w,i32_w]
     rfl
   refine take_ (i:=1) (N:=some 48) (v:=?_) (a':=?_) (b_ 2 3) rfl rfl (by kernel_rfl) (fun _ _ _ h=>h) (Or.inl ⟨by rfl,?_⟩) hHeld ?_ ?_
   rotate_left
   · rintro w' ⟨s0,s1,s2,s3⟩
     go_simp
     with_reducible rfl
   rotate_left
   · simp only [Act.put,zS,zT,zU,i64_w,i32_w]
     rfl
   refine one_ (i:=2) (N:=some 49) (b_ 3 2) rfl rfl (by kernel_rfl) (by decide) (fun K hK=>?_)
   refine goes_ Tryd.func20 (by kernel_rfl) rfl #[.agg #[.slice A0_0 l0_0.length c0_0,.slice A0_1 l0_1.length c0_1]] (by rfl) rfl rfl (by (try simp only [zA,zC,zN]);first|done|rfl|(simp only [zM,zL];rfl)) ?_
   with_reducible refine (laws_toSkip.calls kj14 _ _ l0_0 _ _ l0_1 t364 t367 _ ?side1 ?side2 ?side3 ?side4 A60.out).mono ?_
   (case side1=>repeat (first|exact (Kd.C_below HR0_0.out HB.out)|(with_reducible refine Kd.C_alloc ?_ _)|(with_reducible refine Kd.C_drewN ?_ _)|(with_reducible refine Kd.C_drew ?_)))
   (case side2=>exact HC0_0.out)
   (case side3=>repeat (first|exact (Kd.C_below HR0_1.out HB.out)|(with_reducible refine Kd.C_alloc ?_ _)|(with_reducible refine Kd.C_drewN ?_ _)|(with_reducible refine Kd.C_drew ?_)))
   (case side4=>exact HC0_1.out)
   rintro e w69 ⟨v365,v368,rfl,ho0,ho1,hb⟩
   refine ⟨_,rfl,?_⟩
   have n0_:=AsZ.mk (Kd.R_elder' (by (with_reducible repeat (first|apply Kd.R_alloc|apply Kd.R_drewN|apply Kd.R_drew));exact HO_357000.out) (Kd.R_base ho0) hb)
   have n1_:=AsZ.mk (Kd.S_mono (Kd.S_told (Kd.S_told (Kd.S_old (by (with_reducible repeat (first|apply Kd.S_alloc|apply Kd.S_drewN|apply Kd.S_drew));exact HO_357001.out) hb) (Kd.R_base ho0)) (Kd.S_base ho1)) (fun _ h_=>h_.1))
   have n2_:=AsZ.mk (Kd.R_lower (Kd.R_new' ho0 (Kd.R_lt (by (with_reducible repeat (first|apply Kd.R_alloc|apply Kd.R_drewN|apply Kd.R_drew));exact HO_357000.out))) (bwz (by repeat (first|(with_reducible first|exact HB.out|apply bwa|apply pbN|apply bw1|refine bws ?_ GE336.out|refine bws ?_ GE349.out|refine bws ?_ GE356.out|refine bws ?_ GE362.out)|exact HB.out))))
   have n3_:=AsZ.mk (Kd.S_lower (Kd.S_new' (Kd.S_new' ho1 (Kd.R_lt (by (with_reducible repeat (first|apply Kd.R_alloc|apply Kd.R_drewN|apply Kd.R_drew));exact HO_357000.out))) (Kd.S_lt (by (with_reducible repeat (first|apply Kd.S_alloc|apply Kd.S_drewN|apply Kd.S_drew));exact HO_357001.out))) (bwz (by repeat (first|(with_reducible first|exact HB.out|apply bwa|apply pbN|apply bw1|refine bws ?_ GE336.out|refine bws ?_ GE349.out|refine bws ?_ GE356.out|refine bws ?_ GE362.out)|exact HB.out))))
   have n4_:=AsZ.mk (kb (g:=gb336) (o := .cells #[.slice A0_0 l0_0.length c0_0,.slice A0_1 l0_1.length c0_1] 43 (0,0)) (by (with_reducible repeat (first|refine kdN ?_ _|refine kd ?_|refine ka ?_ _));exact BK336.out) hb)
   have n5_:=AsZ.mk (kb (g:=gb349) (o := .cells #[.string t344,.int .i64 t345,.int .i64 t346,.string t347] 28 (0,0)) (by (with_reducible repeat (first|refine kdN ?_ _|refine kd ?_|refine ka ?_ _));exact BK349.out) hb)
   have n6_:=AsZ.mk (kb (g:=gb356) (o := .cells #[.slice Ao30 t350.length co30,.slice Ao34 t353.length co34] 26 (0,0)) (by (with_reducible repeat (first|refine kdN ?_ _|refine kd ?_|refine ka ?_ _));exact BK356.out) hb)
   have n7_:=AsZ.mk (kb (g:=gb362) (o := .cells #[.string t357,.int .i64 t358,.int .i64 t359,.string t360] 28 (0,0)) (by (with_reducible repeat (first|refine kdN ?_ _|refine kd ?_|refine ka ?_ _));exact BK362.out) hb)
   have n8_:=AsZ.mk (bwp (by repeat (first|(with_reducible first|exact HB.out|apply bwa|apply pbN|apply bw1|refine bws ?_ GE336.out|refine bws ?_ GE349.out|refine bws ?_ GE356.out|refine bws ?_ GE362.out)|exact HB.out)) hb)
   clear HO_357000 HO_357001 BK336 BK349 BK356 BK362 HB
   have HO_357000:=n0_
   have HO_357001:=n1_
   have HO366:=n2_
   have HO369:=n3_
   have BK336:=n4_
   have BK349:=n5_
   have BK356:=n6_
   have BK362:=n7_
   have HB:=n8_
   clear n0_ n1_ n2_ n3_ n4_ n5_ n6_ n7_ n8_
   (try clear hb)
   (try clear hb2)
   (try clear hk)
   (try clear hi)
   (try clear ho0)
   (try clear ho1)
   obtain ⟨Ao70,co70,eo70⟩:=Kd.R_slice HO366.out
   (first|subst eo70|(injection eo70 with f1_ f2_ f3_;have f4_:=f1_.symm;have f5_:=f3_.symm;clear f1_ f2_ f3_;subst f4_;subst f5_))
   obtain ⟨Ao71,co71,eo71⟩:=Kd.S_slice HO369.out
   (first|subst eo71|(injection eo71 with f1_ f2_ f3_;have f4_:=f1_.symm;have f5_:=f3_.symm;clear f1_ f2_ f3_;subst f4_;subst f5_))
   refine hK.out _ _ ⟨(kc BK356.out 0).trans rfl,(kc BK356.out 1).trans rfl,(kc BK336.out 0).trans rfl,(kc BK336.out 1).trans rfl⟩ (fun hHeld=>?_)
   clear hK K
   refine norm_ (a':=?_) ?_ ?_
   rotate_left
   · show Act.put _ (some 49) _=_
     simp only [Act.put,zS,zT,zU,i64_w,i32_w]
     rfl
   refine one_ (i:=3) (N:=some 50) (b_ 4 1) rfl rfl (by kernel_rfl) (by decide) (fun K hK=>?_)
   refine goes_ Tryd.func22 (by kernel_rfl) rfl #[.agg #[.slice Ao30 t350.length co30,.slice Ao34 t353.length co34],.agg #[.slice Ao70 t364.length co70,.slice Ao71 t367.length co71]] (by rfl) rfl rfl (by (try simp only [zA,zC,zN]);first|done|rfl|(simp only [zM,zL];rfl)) ?_
   with_reducible refine (laws_eqSkip.calls kj14 _ _ t350 _ _ t353 _ _ t364 _ _ t367 false _ ?side1 ?side2 ?side3 ?side4 ?side5 ?side6 ?side7 ?side8 A61.out).mono ?_
   (case side1=>repeat (first|exact (Kd.R_reads' HO_357000.out).2.2|(with_reducible refine Kd.C_alloc ?_ _)|(with_reducible refine Kd.C_drewN ?_ _)|(with_reducible refine Kd.C_drew ?_)))
   (case side2=>exact (Kd.R_reads' HO_357000.out).2.1)
   (case side3=>repeat (first|exact (Kd.S_reads' HO_357001.out).2.2|(with_reducible refine Kd.C_alloc ?_ _)|(with_reducible refine Kd.C_drewN ?_ _)|(with_reducible refine Kd.C_drew ?_)))
   (case side4=>exact (Kd.S_reads' HO_357001.out).2.1)
   (case side5=>repeat (first|exact (Kd.R_reads' HO366.out).2.2|(with_reducible refine Kd.C_alloc ?_ _)|(with_reducible refine Kd.C_drewN ?_ _)|(with_reducible refine Kd.C_drew ?_)))
   (case side6=>exact (Kd.R_reads' HO366.out).2.1)
   (case side7=>repeat (first|exact (Kd.S_reads' HO369.out).2.2|(with_reducible refine Kd.C_alloc ?_ _)|(with_reducible refine Kd.C_drewN ?_ _)|(with_reducible refine Kd.C_drew ?_)))
   (case side8=>exact (Kd.S_reads' HO369.out).2.1)
   rintro e w72 ⟨rfl,hb⟩
   refine ⟨_,rfl,?_⟩
   have n0_:=AsZ.mk (Kd.R_below (by (with_reducible repeat (first|apply Kd.R_alloc|apply Kd.R_drewN|apply Kd.R_drew));exact HO_357000.out) hb)
   have n1_:=AsZ.mk (Kd.S_below (by (with_reducible repeat (first|apply Kd.S_alloc|apply Kd.S_drewN|apply Kd.S_drew));exact HO_357001.out) hb)
   have n2_:=AsZ.mk (Kd.R_below (by (with_reducible repeat (first|apply Kd.R_alloc|apply Kd.R_drewN|apply Kd.R_drew));exact HO366.out) hb)
   have n3_:=AsZ.mk (Kd.S_below (by (with_reducible repeat (first|apply Kd.S_alloc|apply Kd.S_drewN|apply Kd.S_drew));exact HO369.out) hb)
   have n4_:=AsZ.mk (kb (g:=gb336) (o := .cells #[.slice A0_0 l0_0.length c0_0,.slice A0_1 l0_1.length c0_1] 43 (0,0)) (by (with_reducible repeat (first|refine kdN ?_ _|refine kd ?_|refine ka ?_ _));exact BK336.out) hb)
   have n5_:=AsZ.mk (kb (g:=gb349) (o := .cells #[.string t344,.int .i64 t345,.int .i64 t346,.string t347] 28 (0,0)) (by (with_reducible repeat (first|refine kdN ?_ _|refine kd ?_|refine ka ?_ _));exact BK349.out) hb)
   have n6_:=AsZ.mk (kb (g:=gb356) (o := .cells #[.slice Ao30 t350.length co30,.slice Ao34 t353.length co34] 26 (0,0)) (by (with_reducible repeat (first|refine kdN ?_ _|refine kd ?_|refine ka ?_ _));exact BK356.out) hb)
   have n7_:=AsZ.mk (kb (g:=gb362) (o := .cells #[.string t357,.int .i64 t358,.int .i64 t359,.string t360] 28 (0,0)) (by (with_reducible repeat (first|refine kdN ?_ _|refine kd ?_|refine ka ?_ _));exact BK362.out) hb)
   have n8_:=AsZ.mk (bwp (by repeat (first|(with_reducible first|exact HB.out|apply bwa|apply pbN|apply bw1|refine bws ?_ GE336.out|refine bws ?_ GE349.out|refine bws ?_ GE356.out|refine bws ?_ GE362.out)|exact HB.out)) hb)
   clear HO_357000 HO_357001 HO366 HO369 BK336 BK349 BK356 BK362 HB
   have HO_357000:=n0_
   have HO_357001:=n1_
   have HO366:=n2_
   have HO369:=n3_
   have BK336:=n4_
   have BK349:=n5_
   have BK356:=n6_
   have BK362:=n7_
   have HB:=n8_
   clear n0_ n1_ n2_ n3_ n4_ n5_ n6_ n7_ n8_
   (try clear hb)
   (try clear hb2)
   (try clear hk)
   (try clear hi)
   refine hK.out _ _ ⟨(kc BK356.out 0).trans rfl,(kc BK356.out 1).trans rfl,(kc BK336.out 0).trans rfl,(kc BK336.out 1).trans rfl⟩ (fun hHeld=>?_)
   clear hK K
   refine norm_ (a':=?_) ?_ ?_
   rotate_left
   · show Act.put _ (some 50) _=_
     simp only [Act.put,zS,zT,zU,i64_w,i32_w]
     rfl
   refine pure_ (i:=4) (N:=some 51) (v:=?_) (a':=?_) (b_ 5 0) rfl rfl (by kernel_rfl) (fun _ _ _ h=>h) (Or.inl ⟨by rfl,?_⟩) ?_ ?_
   rotate_left
   · intro w'
     go_simp
     with_reducible rfl
   rotate_left
   · simp only [Act.put,zS,zT,zU,i64_w,i32_w]
     rfl
   refine dn_ (by kernel_rfl) ?_
   try go_wp2
   go_ret
   exact ⟨by first|rfl|(simp [errW_none,errW_some]<;>rfl)|(simp [*,errW_none,errW_some]<;>rfl),by repeat (first|(with_reducible first|exact HB.out|apply bwa|apply pbN|apply bw1|refine bws ?_ GE336.out|refine bws ?_ GE349.out|refine bws ?_ GE356.out|refine bws ?_ GE362.out)|exact HB.out)⟩
end Go.Proofs.YtffjlpphcjfdgaaDoor.MFnExactFindSkip
