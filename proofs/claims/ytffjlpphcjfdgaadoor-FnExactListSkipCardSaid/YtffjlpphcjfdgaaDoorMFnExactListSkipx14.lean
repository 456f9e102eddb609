-- Written by a program of this session out of the translation. Not trusted: Lean checks it.
import Derived.Test.YtffjlpphcjfdgaaDoorMFnExactListSkipx0
import Derived.Test.YtffjlpphcjfdgaaDoorMFnExactListSkipx5
import Derived.Test.YtffjlpphcjfdgaaDoorMFnExactListSkipx9
import Derived.Test.YtffjlpphcjfdgaaDoorMFnExactListSkipx10
import Derived.Test.YtffjlpphcjfdgaaDoorMFnExactListSkipx11
import Derived.Test.YtffjlpphcjfdgaaDoorMFnExactListSkipx12
import Derived.Test.YtffjlpphcjfdgaaDoorMFnExactListSkipx13
namespace Go.Proofs.YtffjlpphcjfdgaaDoor.MFnExactListSkip
-- short
-- shrunk
-- TAB
-- RD
open Go.Proofs.YtffjlpphcjfdgaaDoor Go.RowKit Go.Proofs.YtffjlpphcjfdgaaDoorW.PrintWords Go.Proofs.YtffjlpphcjfdgaaDoorW.PrintLast Go.Proofs.YtffjlpphcjfdgaaDoorW.PrintMore Go.Proofs.YtffjlpphcjfdgaaDoorX
attribute [local go_sem] max2_int min2_int max_two min_two max_three min_three max_four min_four str_gtr str_leq str_geq cell_twice
set_option linter.unusedVariables false
set_option linter.unusedSimpArgs false
/-! ### laws_FnExactListSkip: function 4 -/
mutual
def laws_FnExactListSkip.j0:Nat→Int→List (S28)→Bool→List (S28)→Bool→Bool→List Int→List (S113)→List Int→List (S77)→Option (Bool)
  |0,_,_,_,_,_,_,_,_,_,_=>none
  |k + 1,x1,x6,x7,x9,x10,x44,x320000,x320001,x338000,x338001=>if x44=true then (some false) else ((laws_toSkip.f k x320000 x320001).bind fun bt343=>((laws_eqSkip.f k x338000 x338001 bt343.1 bt343.2).bind fun t349=>(if t349=true then ((laws_markSkip.f k x338000 x338001 1).bind fun t350=>(if t350 < 0 then (laws_FnExactListSkip.j1 k x1 x6 x7 x9 true x320000 x320001) else ((laws_eqItemS.f k x9 x6).bind fun t351=>(if t351=true then (laws_FnExactListSkip.j1 k x1 x6 x7 x9 (x10 != x7) x320000 x320001) else (laws_FnExactListSkip.j1 k x1 x6 x7 x9 true x320000 x320001))))) else (some false))))
def laws_FnExactListSkip.j1:Nat→Int→List (S28)→Bool→List (S28)→Bool→List Int→List (S113)→Option (Bool)
  |0,_,_,_,_,_,_,_=>none
  |k + 1,x1,x6,x7,x9,x65,x320000,x320001=>if x65=true then (some false) else ((laws_markItemS.f k x9 1).bind fun bt352=>((laws_heldItemS.f k bt352.2 1).bind fun t354=>(if t354 < 0 then (some false) else (if t354=bt352.1 then ((laws_toSkip.f k x320000 x320001).bind fun bt355=>((impl_ListSkip.f k bt355.1 bt355.2 x1).bind fun bt361=>((laws_eqItemS.f k bt361.1 x6).bind fun t365=>(if t365=true then (laws_FnExactListSkip.j2 k bt352.2 bt352.1 (bt361.2 != x7)) else (laws_FnExactListSkip.j2 k bt352.2 bt352.1 true))))) else (some false)))))
def laws_FnExactListSkip.j2:Nat→List (S28)→Int→Bool→Option (Bool)
  |0,_,_,_=>none
  |k + 1,x9,x12,x92=>if x92=true then (some false) else ((laws_heldItemS.f k x9 1).bind fun t366=>(if t366 < 0 then (some false) else (if t366=x12 then (some true) else (some false))))
end
def laws_FnExactListSkip.f (k:Nat) (l0_0:List Int) (l0_1:List (S113)) (a1:Int):Option (Bool):=(laws_szSkip.f k l0_0 l0_1 1048576).bind fun t320=>(if t320 < 0 then (some true) else ((laws_toSkip.f k l0_0 l0_1).bind fun bt321=>((spec_ListSkip.f k bt321.1 bt321.2 a1).bind fun bt327=>((laws_toSkip.f k l0_0 l0_1).bind fun bt331=>((impl_ListSkip.f k bt331.1 bt331.2 a1).bind fun bt338=>((laws_eqItemS.f k bt338.1 bt327.1).bind fun t342=>(if t342=true then (laws_FnExactListSkip.j0 k a1 bt327.1 bt327.2 bt338.1 bt338.2 (bt338.2 != bt327.2) l0_0 l0_1 bt331.1 bt331.2) else (laws_FnExactListSkip.j0 k a1 bt327.1 bt327.2 bt338.1 bt338.2 true l0_0 l0_1 bt331.1 bt331.2))))))))
theorem laws_FnExactListSkip.mono_l:∀ k,(∀ y0 y1 y2 y3 y4 y5 y6 y7 y8 y9,LeO (laws_FnExactListSkip.j0 k y0 y1 y2 y3 y4 y5 y6 y7 y8 y9) (laws_FnExactListSkip.j0 (k + 1) y0 y1 y2 y3 y4 y5 y6 y7 y8 y9))∧(∀ y0 y1 y2 y3 y4 y5 y6,LeO (laws_FnExactListSkip.j1 k y0 y1 y2 y3 y4 y5 y6) (laws_FnExactListSkip.j1 (k + 1) y0 y1 y2 y3 y4 y5 y6))∧(∀ y0 y1 y2,LeO (laws_FnExactListSkip.j2 k y0 y1 y2) (laws_FnExactListSkip.j2 (k + 1) y0 y1 y2))
  |0=>⟨fun _ _ _ _ _ _ _ _ _ _ r h=>by simp [laws_FnExactListSkip.j0] at h,fun _ _ _ _ _ _ _ r h=>by simp [laws_FnExactListSkip.j1] at h,fun _ _ _ r h=>by simp [laws_FnExactListSkip.j2] at h⟩
  |k + 1=>by
    obtain ⟨ih0,ih1,ih2⟩:=laws_FnExactListSkip.mono_l k
    refine ⟨?_,?_,?_⟩
    · intro y0 y1 y2 y3 y4 y5 y6 y7 y8 y9
      unfold laws_FnExactListSkip.j0
      repeat' first
      |(with_reducible exact ih0 _ _ _ _ _ _ _ _ _ _)
      |(with_reducible exact ih1 _ _ _ _ _ _ _)
      |(with_reducible exact ih2 _ _ _)
      |(with_reducible exact impl_ListSkip.mono _ _ _ _)
      |(with_reducible exact laws_eqItemS.mono _ _ _)
      |(with_reducible exact laws_eqSkip.mono _ _ _ _ _)
      |(with_reducible exact laws_heldItemS.mono _ _ _)
      |(with_reducible exact laws_markItemS.mono _ _ _)
      |(with_reducible exact laws_markSkip.mono _ _ _ _)
      |(with_reducible exact laws_szSkip.mono _ _ _ _)
      |(with_reducible exact laws_toSkip.mono _ _ _)
      |(with_reducible exact spec_ListSkip.mono _ _ _ _)
      |(with_reducible exact LeO.refl _)
      |(with_reducible exact LeO.none _)
      |(with_reducible refine LeO.ite ?_ ?_)
      |(with_reducible refine LeO.bind ?_ (fun _=>?_))
      |exact ih0 _ _ _ _ _ _ _ _ _ _
      |exact ih1 _ _ _ _ _ _ _
      |exact ih2 _ _ _
      |exact impl_ListSkip.mono _ _ _ _
      |exact laws_eqItemS.mono _ _ _
      |exact laws_eqSkip.mono _ _ _ _ _
      |exact laws_heldItemS.mono _ _ _
      |exact laws_markItemS.mono _ _ _
      |exact laws_markSkip.mono _ _ _ _
      |exact laws_szSkip.mono _ _ _ _
      |exact laws_toSkip.mono _ _ _
      |exact spec_ListSkip.mono _ _ _ _
      |exact LeO.none _
      |refine LeO.ite ?_ ?_
      |refine LeO.bind ?_ (fun _=>?_)
    · intro y0 y1 y2 y3 y4 y5 y6
      unfold laws_FnExactListSkip.j1
      repeat' first
      |(with_reducible exact ih0 _ _ _ _ _ _ _ _ _ _)
      |(with_reducible exact ih1 _ _ _ _ _ _ _)
      |(with_reducible exact ih2 _ _ _)
      |(with_reducible exact impl_ListSkip.mono _ _ _ _)
      |(with_reducible exact laws_eqItemS.mono _ _ _)
      |(with_reducible exact laws_eqSkip.mono _ _ _ _ _)
      |(with_reducible exact laws_heldItemS.mono _ _ _)
      |(with_reducible exact laws_markItemS.mono _ _ _)
      |(with_reducible exact laws_markSkip.mono _ _ _ _)
      |(with_reducible exact laws_szSkip.mono _ _ _ _)
      |(with_reducible exact laws_toSkip.mono _ _ _)
      |(with_reducible exact spec_ListSkip.mono _ _ _ _)
      |(with_reducible exact LeO.refl _)
      |(with_reducible exact LeO.none _)
      |(with_reducible refine LeO.ite ?_ ?_)
      |(with_reducible refine LeO.bind ?_ (fun _=>?_))
      |exact ih0 _ _ _ _ _ _ _ _ _ _
      |exact ih1 _ _ _ _ _ _ _
      |exact ih2 _ _ _
      |exact impl_ListSkip.mono _ _ _ _
      |exact laws_eqItemS.mono _ _ _
      |exact laws_eqSkip.mono _ _ _ _ _
      |exact laws_heldItemS.mono _ _ _
      |exact laws_markItemS.mono _ _ _
      |exact laws_markSkip.mono _ _ _ _
      |exact laws_szSkip.mono _ _ _ _
      |exact laws_toSkip.mono _ _ _
      |exact spec_ListSkip.mono _ _ _ _
      |exact LeO.none _
      |refine LeO.ite ?_ ?_
      |refine LeO.bind ?_ (fun _=>?_)
    · intro y0 y1 y2
      unfold laws_FnExactListSkip.j2
      repeat' first
      |(with_reducible exact ih0 _ _ _ _ _ _ _ _ _ _)
      |(with_reducible exact ih1 _ _ _ _ _ _ _)
      |(with_reducible exact ih2 _ _ _)
      |(with_reducible exact impl_ListSkip.mono _ _ _ _)
      |(with_reducible exact laws_eqItemS.mono _ _ _)
      |(with_reducible exact laws_eqSkip.mono _ _ _ _ _)
      |(with_reducible exact laws_heldItemS.mono _ _ _)
      |(with_reducible exact laws_markItemS.mono _ _ _)
      |(with_reducible exact laws_markSkip.mono _ _ _ _)
      |(with_reducible exact laws_szSkip.mono _ _ _ _)
      |(with_reducible exact laws_toSkip.mono _ _ _)
      |(with_reducible exact spec_ListSkip.mono _ _ _ _)
      |(with_reducible exact LeO.refl _)
      |(with_reducible exact LeO.none _)
      |(with_reducible refine LeO.ite ?_ ?_)
      |(with_reducible refine LeO.bind ?_ (fun _=>?_))
      |exact ih0 _ _ _ _ _ _ _ _ _ _
      |exact ih1 _ _ _ _ _ _ _
      |exact ih2 _ _ _
      |exact impl_ListSkip.mono _ _ _ _
      |exact laws_eqItemS.mono _ _ _
      |exact laws_eqSkip.mono _ _ _ _ _
      |exact laws_heldItemS.mono _ _ _
      |exact laws_markItemS.mono _ _ _
      |exact laws_markSkip.mono _ _ _ _
      |exact laws_szSkip.mono _ _ _ _
      |exact laws_toSkip.mono _ _ _
      |exact spec_ListSkip.mono _ _ _ _
      |exact LeO.none _
      |refine LeO.ite ?_ ?_
      |refine LeO.bind ?_ (fun _=>?_)
theorem laws_FnExactListSkip.mono:∀ a0 a1 a2 k,LeO (laws_FnExactListSkip.f k a0 a1 a2) (laws_FnExactListSkip.f (k + 1) a0 a1 a2):=by
  intro a0 a1 a2 k
  obtain ⟨ih0,ih1,ih2⟩:=laws_FnExactListSkip.mono_l k
  unfold laws_FnExactListSkip.f
  repeat' first
      |(with_reducible exact ih0 _ _ _ _ _ _ _ _ _ _)
      |(with_reducible exact ih1 _ _ _ _ _ _ _)
      |(with_reducible exact ih2 _ _ _)
      |(with_reducible exact impl_ListSkip.mono _ _ _ _)
      |(with_reducible exact laws_eqItemS.mono _ _ _)
      |(with_reducible exact laws_eqSkip.mono _ _ _ _ _)
      |(with_reducible exact laws_heldItemS.mono _ _ _)
      |(with_reducible exact laws_markItemS.mono _ _ _)
      |(with_reducible exact laws_markSkip.mono _ _ _ _)
      |(with_reducible exact laws_szSkip.mono _ _ _ _)
      |(with_reducible exact laws_toSkip.mono _ _ _)
      |(with_reducible exact spec_ListSkip.mono _ _ _ _)
      |(with_reducible exact LeO.refl _)
      |(with_reducible exact LeO.none _)
      |(with_reducible refine LeO.ite ?_ ?_)
      |(with_reducible refine LeO.bind ?_ (fun _=>?_))
      |exact ih0 _ _ _ _ _ _ _ _ _ _
      |exact ih1 _ _ _ _ _ _ _
      |exact ih2 _ _ _
      |exact impl_ListSkip.mono _ _ _ _
      |exact laws_eqItemS.mono _ _ _
      |exact laws_eqSkip.mono _ _ _ _ _
      |exact laws_heldItemS.mono _ _ _
      |exact laws_markItemS.mono _ _ _
      |exact laws_markSkip.mono _ _ _ _
      |exact laws_szSkip.mono _ _ _ _
      |exact laws_toSkip.mono _ _ _
      |exact spec_ListSkip.mono _ _ _ _
      |exact LeO.none _
      |refine LeO.ite ?_ ?_
      |refine LeO.bind ?_ (fun _=>?_)
set_option maxHeartbeats 8000000 in
set_option maxRecDepth 100000 in
theorem laws_FnExactListSkip.calls (k:Nat) (A0_0:Option Addr) (c0_0:Nat) (l0_0:List Int) (A0_1:Option Addr) (c0_1:Nat) (l0_1:List (S113)) (a1:Int) (r:Bool) (w:World) (hr0_0:Kd.C (Kd.int .i64) w A0_0 l0_0.length l0_0) (hc0_0:l0_0.length≤c0_0) (hr0_1:Kd.C k113 w A0_1 l0_1.length l0_1) (hc0_1:l0_1.length≤c0_1) (hT:Tab w) (h:laws_FnExactListSkip.f k l0_0 l0_1 a1=some r) :
    Calls Tryd.prog 4 #[.agg #[.slice A0_0 l0_0.length c0_0,.slice A0_1 l0_1.length c0_1],.int .i64 a1] w fun e w'=>e = .returned (.bool r)∧Below w.heap.size w w':=by
 have HT:=AsZ.mk hT
 clear hT
 have hu43:=Tryd.underlying43
 have hu26:=Tryd.underlying26
 have HR0_0:=AsZ.mk hr0_0
 have HC0_0:=AsZ.mk hc0_0
 clear hr0_0 hc0_0
 have HR0_1:=AsZ.mk hr0_1
 have HC0_1:=AsZ.mk hc0_1
 clear hr0_1 hc0_1
 have HB:=AsZ.mk (Below.refl w.heap.size w)
 have H:((laws_szSkip.f k l0_0 l0_1 1048576).bind fun t320=>(if t320 < 0 then (some true) else ((laws_toSkip.f k l0_0 l0_1).bind fun bt321=>((spec_ListSkip.f k bt321.1 bt321.2 a1).bind fun bt327=>((laws_toSkip.f k l0_0 l0_1).bind fun bt331=>((impl_ListSkip.f k bt331.1 bt331.2 a1).bind fun bt338=>((laws_eqItemS.f k bt338.1 bt327.1).bind fun t342=>(if t342=true then (laws_FnExactListSkip.j0 k a1 bt327.1 bt327.2 bt338.1 bt338.2 (bt338.2 != bt327.2) l0_0 l0_1 bt331.1 bt331.2) else (laws_FnExactListSkip.j0 k a1 bt327.1 bt327.2 bt338.1 bt338.2 true l0_0 l0_1 bt331.1 bt331.2)))))))))=some r:=h
 clear h
 replace H:=Option.bind_eq_some_iff.mp H
 obtain ⟨t320,A30,H⟩:=H
 replace H:(if t320 < 0 then (some true) else ((laws_toSkip.f k l0_0 l0_1).bind fun bt321=>((spec_ListSkip.f k bt321.1 bt321.2 a1).bind fun bt327=>((laws_toSkip.f k l0_0 l0_1).bind fun bt331=>((impl_ListSkip.f k bt331.1 bt331.2 a1).bind fun bt338=>((laws_eqItemS.f k bt338.1 bt327.1).bind fun t342=>(if t342=true then (laws_FnExactListSkip.j0 k a1 bt327.1 bt327.2 bt338.1 bt338.2 (bt338.2 != bt327.2) l0_0 l0_1 bt331.1 bt331.2) else (laws_FnExactListSkip.j0 k a1 bt327.1 bt327.2 bt338.1 bt338.2 true l0_0 l0_1 bt331.1 bt331.2))))))))=some r:=H
 have A3:=AsZ.mk A30
 clear A30
 by_cases c4:t320 < 0
 · rw [if_pos c4] at H
   have c4b0:decide (t320 < 0)=true:=zE c4
   clear c4
   obtain rfl:=zI H
   go_enter Tryd.func4,Tryd.ntmps4
   go_wp2_with (first|((with_reducible refine gate_dst (N:=2) rfl ?_);refine box_event ?hg (N:=2) ?hd (cs:=#[.slice A0_0 l0_0.length c0_0,.slice A0_1 l0_1.length c0_1]) (t:=43) ?hr ?_;(case hd=>rfl);(case hg=>rfl);(case hr=>first|(go_simp;done)|(go_simp;rfl));intro gb319 hg w5 hbox hb;have n0_:=AsZ.mk (bwp (by repeat (first|(with_reducible first|exact HB.out|apply bwa|apply pbN|apply bw1)|exact HB.out)) hb);have n1_:=AsZ.mk (hbox);have n2_:=AsZ.mk ((by rw [hg];exact (bwz (by repeat (first|(with_reducible first|exact HB.out|apply bwa|apply pbN|apply bw1)|exact HB.out))):w.heap.size≤gb319));have n3_:=AsZ.mk ((by rw [hg];exact (bwz (by repeat (first|(with_reducible first|exact HB.out|apply bwa|apply pbN|apply bw1)|exact HB.out))):w.heap.size≤gb319));clear HB;have HB:=n0_;have BK319:=n1_;have GW319:=n2_;have GE319:=n3_;clear n0_ n1_ n2_ n3_;clear hb hbox hg;have hcz6_0:w5.cell? ⟨gb319,0,none⟩=some (.slice A0_0 l0_0.length c0_0):=(kc BK319.out 0).trans rfl;have hcz6_1:w5.cell? ⟨gb319,1,none⟩=some (.slice A0_1 l0_1.length c0_1):=(kc BK319.out 1).trans rfl;have hfz6_0:=kf BK319.out 0;have hfz6_1:=kf BK319.out 1)|((with_reducible refine gcl (f:=18) rfl ?_);refine goesL_ (some 18) rfl rfl Tryd.func18 (by kernel_rfl) rfl #[.agg #[.slice A0_0 l0_0.length c0_0,.slice A0_1 l0_1.length c0_1],.int .i64 1048576] rfl (by (try simp only [zA,zC,zN]);first|done|rfl|(simp only [zM,zL];rfl)) ?_;(with_reducible refine (laws_szSkip.calls k _ _ l0_0 _ _ l0_1 1048576 t320 _ ?side1 ?side2 ?side3 ?side4 A3.out).mono ?_);(case side1=>repeat (first|exact (Kd.C_below HR0_0.out HB.out)|(with_reducible refine Kd.C_alloc ?_ _)|(with_reducible refine Kd.C_drewN ?_ _)|(with_reducible refine Kd.C_drew ?_)));(case side2=>exact HC0_0.out);(case side3=>repeat (first|exact (Kd.C_below HR0_1.out HB.out)|(with_reducible refine Kd.C_alloc ?_ _)|(with_reducible refine Kd.C_drewN ?_ _)|(with_reducible refine Kd.C_drew ?_)));(case side4=>exact HC0_1.out);rintro e w7 ⟨rfl,hb⟩;refine ⟨_,rfl,?_⟩;have n0_:=AsZ.mk (kb (g:=gb319) (o := .cells #[.slice A0_0 l0_0.length c0_0,.slice A0_1 l0_1.length c0_1] 43 (0,0)) (by (with_reducible repeat (first|refine kdN ?_ _|refine kd ?_|refine ka ?_ _));exact BK319.out) hb);have n1_:=AsZ.mk (bwp (by repeat (first|(with_reducible first|exact HB.out|apply bwa|apply pbN|apply bw1|refine bws ?_ GE319.out)|exact HB.out)) hb);clear BK319;clear HB;have BK319:=n0_;have HB:=n1_;clear n0_ n1_;(try clear hb);(try clear hb2);(try clear hk);(try clear hi)))
   go_ret
   exact ⟨by first|rfl|(simp [errW_none,errW_some]<;>rfl)|(simp [*,errW_none,errW_some]<;>rfl),by repeat (first|(with_reducible first|exact HB.out|apply bwa|apply pbN|apply bw1|refine bws ?_ GE319.out)|exact HB.out)⟩
 rw [if_neg c4] at H
 have c4b0:decide (t320 < 0)=false:=decide_eq_false c4
 clear c4
 replace H:=Option.bind_eq_some_iff.mp H
 obtain ⟨⟨t321,t324⟩,A80,H⟩:=H
 replace H:((spec_ListSkip.f k t321 t324 a1).bind fun bt327=>((laws_toSkip.f k l0_0 l0_1).bind fun bt331=>((impl_ListSkip.f k bt331.1 bt331.2 a1).bind fun bt338=>((laws_eqItemS.f k bt338.1 bt327.1).bind fun t342=>(if t342=true then (laws_FnExactListSkip.j0 k a1 bt327.1 bt327.2 bt338.1 bt338.2 (bt338.2 != bt327.2) l0_0 l0_1 bt331.1 bt331.2) else (laws_FnExactListSkip.j0 k a1 bt327.1 bt327.2 bt338.1 bt338.2 true l0_0 l0_1 bt331.1 bt331.2))))))=some r:=H
 have A8:=AsZ.mk A80
 clear A80
 replace H:=Option.bind_eq_some_iff.mp H
 obtain ⟨⟨t327,t330⟩,A90,H⟩:=H
 replace H:((laws_toSkip.f k l0_0 l0_1).bind fun bt331=>((impl_ListSkip.f k bt331.1 bt331.2 a1).bind fun bt338=>((laws_eqItemS.f k bt338.1 t327).bind fun t342=>(if t342=true then (laws_FnExactListSkip.j0 k a1 t327 t330 bt338.1 bt338.2 (bt338.2 != t330) l0_0 l0_1 bt331.1 bt331.2) else (laws_FnExactListSkip.j0 k a1 t327 t330 bt338.1 bt338.2 true l0_0 l0_1 bt331.1 bt331.2)))))=some r:=H
 have A9:=AsZ.mk A90
 clear A90
 replace H:=Option.bind_eq_some_iff.mp H
 obtain ⟨⟨t331,t334⟩,A100,H⟩:=H
 replace H:((impl_ListSkip.f k t331 t334 a1).bind fun bt338=>((laws_eqItemS.f k bt338.1 t327).bind fun t342=>(if t342=true then (laws_FnExactListSkip.j0 k a1 t327 t330 bt338.1 bt338.2 (bt338.2 != t330) l0_0 l0_1 t331 t334) else (laws_FnExactListSkip.j0 k a1 t327 t330 bt338.1 bt338.2 true l0_0 l0_1 t331 t334))))=some r:=H
 have A10:=AsZ.mk A100
 clear A100
 replace H:=Option.bind_eq_some_iff.mp H
 obtain ⟨⟨t338,t341⟩,A110,H⟩:=H
 replace H:((laws_eqItemS.f k t338 t327).bind fun t342=>(if t342=true then (laws_FnExactListSkip.j0 k a1 t327 t330 t338 t341 (t341 != t330) l0_0 l0_1 t331 t334) else (laws_FnExactListSkip.j0 k a1 t327 t330 t338 t341 true l0_0 l0_1 t331 t334)))=some r:=H
 have A11:=AsZ.mk A110
 clear A110
 have HC12:=AsZ.mk H
 clear H
 go_enter Tryd.func4,Tryd.ntmps4
 go_upto_region 8 with (first|((with_reducible refine gate_dst (N:=2) rfl ?_);refine box_event ?hg (N:=2) ?hd (cs:=#[.slice A0_0 l0_0.length c0_0,.slice A0_1 l0_1.length c0_1]) (t:=43) ?hr ?_;(case hd=>rfl);(case hg=>rfl);(case hr=>first|(go_simp;done)|(go_simp;rfl));intro gb319 hg w13 hbox hb;have n0_:=AsZ.mk (bwp (by repeat (first|(with_reducible first|exact HB.out|apply bwa|apply pbN|apply bw1)|exact HB.out)) hb);have n1_:=AsZ.mk (hbox);have n2_:=AsZ.mk ((by rw [hg];exact (bwz (by repeat (first|(with_reducible first|exact HB.out|apply bwa|apply pbN|apply bw1)|exact HB.out))):w.heap.size≤gb319));have n3_:=AsZ.mk ((by rw [hg];exact (bwz (by repeat (first|(with_reducible first|exact HB.out|apply bwa|apply pbN|apply bw1)|exact HB.out))):w.heap.size≤gb319));clear HB;have HB:=n0_;have BK319:=n1_;have GW319:=n2_;have GE319:=n3_;clear n0_ n1_ n2_ n3_;clear hb hbox hg;have hcz14_0:w13.cell? ⟨gb319,0,none⟩=some (.slice A0_0 l0_0.length c0_0):=(kc BK319.out 0).trans rfl;have hcz14_1:w13.cell? ⟨gb319,1,none⟩=some (.slice A0_1 l0_1.length c0_1):=(kc BK319.out 1).trans rfl;have hfz14_0:=kf BK319.out 0;have hfz14_1:=kf BK319.out 1)|((with_reducible refine gcl (f:=18) rfl ?_);refine goesL_ (some 18) rfl rfl Tryd.func18 (by kernel_rfl) rfl #[.agg #[.slice A0_0 l0_0.length c0_0,.slice A0_1 l0_1.length c0_1],.int .i64 1048576] rfl (by (try simp only [zA,zC,zN]);first|done|rfl|(simp only [zM,zL];rfl)) ?_;(with_reducible refine (laws_szSkip.calls k _ _ l0_0 _ _ l0_1 1048576 t320 _ ?side1 ?side2 ?side3 ?side4 A3.out).mono ?_);(case side1=>repeat (first|exact (Kd.C_below HR0_0.out HB.out)|(with_reducible refine Kd.C_alloc ?_ _)|(with_reducible refine Kd.C_drewN ?_ _)|(with_reducible refine Kd.C_drew ?_)));(case side2=>exact HC0_0.out);(case side3=>repeat (first|exact (Kd.C_below HR0_1.out HB.out)|(with_reducible refine Kd.C_alloc ?_ _)|(with_reducible refine Kd.C_drewN ?_ _)|(with_reducible refine Kd.C_drew ?_)));(case side4=>exact HC0_1.out);rintro e w15 ⟨rfl,hb⟩;refine ⟨_,rfl,?_⟩;have n0_:=AsZ.mk (kb (g:=gb319) (o := .cells #[.slice A0_0 l0_0.length c0_0,.slice A0_1 l0_1.length c0_1] 43 (0,0)) (by (with_reducible repeat (first|refine kdN ?_ _|refine kd ?_|refine ka ?_ _));exact BK319.out) hb);have n1_:=AsZ.mk (bwp (by repeat (first|(with_reducible first|exact HB.out|apply bwa|apply pbN|apply bw1|refine bws ?_ GE319.out)|exact HB.out)) hb);clear BK319;clear HB;have BK319:=n0_;have HB:=n1_;clear n0_ n1_;(try clear hb);(try clear hb2);(try clear hk);(try clear hi);have hcz16_0:w15.cell? ⟨gb319,0,none⟩=some (.slice A0_0 l0_0.length c0_0):=(kc BK319.out 0).trans rfl;have hcz16_1:w15.cell? ⟨gb319,1,none⟩=some (.slice A0_1 l0_1.length c0_1):=(kc BK319.out 1).trans rfl;have hfz16_0:=kf BK319.out 0;have hfz16_1:=kf BK319.out 1)|((with_reducible refine gcl (f:=20) rfl ?_);refine goesL_ (some 23) rfl rfl Tryd.func20 (by kernel_rfl) rfl #[.agg #[.slice A0_0 l0_0.length c0_0,.slice A0_1 l0_1.length c0_1]] rfl (by (try simp only [zA,zC,zN]);first|done|rfl|(simp only [zM,zL];rfl)) ?_;(with_reducible refine (laws_toSkip.calls k _ _ l0_0 _ _ l0_1 t321 t324 _ ?side1 ?side2 ?side3 ?side4 A8.out).mono ?_);(case side1=>repeat (first|exact (Kd.C_below HR0_0.out HB.out)|(with_reducible refine Kd.C_alloc ?_ _)|(with_reducible refine Kd.C_drewN ?_ _)|(with_reducible refine Kd.C_drew ?_)));(case side2=>exact HC0_0.out);(case side3=>repeat (first|exact (Kd.C_below HR0_1.out HB.out)|(with_reducible refine Kd.C_alloc ?_ _)|(with_reducible refine Kd.C_drewN ?_ _)|(with_reducible refine Kd.C_drew ?_)));(case side4=>exact HC0_1.out);rintro e w17 ⟨v322,v325,rfl,ho0,ho1,hb⟩;refine ⟨_,rfl,?_⟩;have n0_:=AsZ.mk (Kd.R_lower ho0 (bwz (by repeat (first|(with_reducible first|exact HB.out|apply bwa|apply pbN|apply bw1|refine bws ?_ GE319.out)|exact HB.out))));have n1_:=AsZ.mk (Kd.S_lower ho1 (bwz (by repeat (first|(with_reducible first|exact HB.out|apply bwa|apply pbN|apply bw1|refine bws ?_ GE319.out)|exact HB.out))));have n2_:=AsZ.mk (kb (g:=gb319) (o := .cells #[.slice A0_0 l0_0.length c0_0,.slice A0_1 l0_1.length c0_1] 43 (0,0)) (by (with_reducible repeat (first|refine kdN ?_ _|refine kd ?_|refine ka ?_ _));exact BK319.out) hb);have n3_:=AsZ.mk (bwp (by repeat (first|(with_reducible first|exact HB.out|apply bwa|apply pbN|apply bw1|refine bws ?_ GE319.out)|exact HB.out)) hb);clear BK319;clear HB;have HO323:=n0_;have HO326:=n1_;have BK319:=n2_;have HB:=n3_;clear n0_ n1_ n2_ n3_;(try clear hb);(try clear hb2);(try clear hk);(try clear hi);(try clear ho0);(try clear ho1);obtain ⟨Ao18,co18,eo18⟩:=Kd.R_slice HO323.out;subst eo18;obtain ⟨Ao19,co19,eo19⟩:=Kd.S_slice HO326.out;subst eo19)|((with_reducible refine gcl (f:=19) rfl ?_);refine goesL_ (some 25) rfl rfl Tryd.func19 (by kernel_rfl) rfl #[.agg #[.slice Ao18 t321.length co18,.slice Ao19 t324.length co19],.int .i64 a1] rfl (by (try simp only [zA,zC,zN]);first|done|rfl|(simp only [zM,zL];rfl)) ?_;(with_reducible refine (spec_ListSkip.calls k _ _ t321 _ _ t324 a1 t327 t330 _ ?side1 ?side2 ?side3 ?side4 A9.out).mono ?_);(case side1=>repeat (first|exact (Kd.R_reads' HO323.out).2.2|(with_reducible refine Kd.C_alloc ?_ _)|(with_reducible refine Kd.C_drewN ?_ _)|(with_reducible refine Kd.C_drew ?_)));(case side2=>exact (Kd.R_reads' HO323.out).2.1);(case side3=>repeat (first|exact (Kd.S_reads' HO326.out).2.2|(with_reducible refine Kd.C_alloc ?_ _)|(with_reducible refine Kd.C_drewN ?_ _)|(with_reducible refine Kd.C_drew ?_)));(case side4=>exact (Kd.S_reads' HO326.out).2.1);rintro e w20 ⟨v328,rfl,ho0,hb⟩;refine ⟨_,rfl,?_⟩;have n0_:=AsZ.mk (Kd.R_below (by (with_reducible repeat (first|apply Kd.R_alloc|apply Kd.R_drewN|apply Kd.R_drew));exact HO323.out) hb);have n1_:=AsZ.mk (Kd.S_below (by (with_reducible repeat (first|apply Kd.S_alloc|apply Kd.S_drewN|apply Kd.S_drew));exact HO326.out) hb);have n2_:=AsZ.mk (Kd.R_lower ho0 (bwz (by repeat (first|(with_reducible first|exact HB.out|apply bwa|apply pbN|apply bw1|refine bws ?_ GE319.out)|exact HB.out))));have n3_:=AsZ.mk (kb (g:=gb319) (o := .cells #[.slice A0_0 l0_0.length c0_0,.slice A0_1 l0_1.length c0_1] 43 (0,0)) (by (with_reducible repeat (first|refine kdN ?_ _|refine kd ?_|refine ka ?_ _));exact BK319.out) hb);have n4_:=AsZ.mk (bwp (by repeat (first|(with_reducible first|exact HB.out|apply bwa|apply pbN|apply bw1|refine bws ?_ GE319.out)|exact HB.out)) hb);clear HO323;clear HO326;clear BK319;clear HB;have HO323:=n0_;have HO326:=n1_;have HO329:=n2_;have BK319:=n3_;have HB:=n4_;clear n0_ n1_ n2_ n3_ n4_;(try clear hb);(try clear hb2);(try clear hk);(try clear hi);(try clear ho0);have hcz21_0:w20.cell? ⟨gb319,0,none⟩=some (.slice A0_0 l0_0.length c0_0):=(kc BK319.out 0).trans rfl;have hcz21_1:w20.cell? ⟨gb319,1,none⟩=some (.slice A0_1 l0_1.length c0_1):=(kc BK319.out 1).trans rfl;have hfz21_0:=kf BK319.out 0;have hfz21_1:=kf BK319.out 1)|((with_reducible refine gcl (f:=20) rfl ?_);refine goesL_ (some 29) rfl rfl Tryd.func20 (by kernel_rfl) rfl #[.agg #[.slice A0_0 l0_0.length c0_0,.slice A0_1 l0_1.length c0_1]] rfl (by (try simp only [zA,zC,zN]);first|done|rfl|(simp only [zM,zL];rfl)) ?_;(with_reducible refine (laws_toSkip.calls k _ _ l0_0 _ _ l0_1 t331 t334 _ ?side1 ?side2 ?side3 ?side4 A10.out).mono ?_);(case side1=>repeat (first|exact (Kd.C_below HR0_0.out HB.out)|(with_reducible refine Kd.C_alloc ?_ _)|(with_reducible refine Kd.C_drewN ?_ _)|(with_reducible refine Kd.C_drew ?_)));(case side2=>exact HC0_0.out);(case side3=>repeat (first|exact (Kd.C_below HR0_1.out HB.out)|(with_reducible refine Kd.C_alloc ?_ _)|(with_reducible refine Kd.C_drewN ?_ _)|(with_reducible refine Kd.C_drew ?_)));(case side4=>exact HC0_1.out);rintro e w22 ⟨v332,v335,rfl,ho0,ho1,hb⟩;refine ⟨_,rfl,?_⟩;have n0_:=AsZ.mk (Kd.R_elder' (by (with_reducible repeat (first|apply Kd.R_alloc|apply Kd.R_drewN|apply Kd.R_drew));exact HO323.out) (Kd.R_base ho0) hb);have n1_:=AsZ.mk (Kd.S_mono (Kd.S_told (Kd.S_told (Kd.S_old (by (with_reducible repeat (first|apply Kd.S_alloc|apply Kd.S_drewN|apply Kd.S_drew));exact HO326.out) hb) (Kd.R_base ho0)) (Kd.S_base ho1)) (fun _ h_=>h_.1));have n2_:=AsZ.mk (Kd.R_below (by (with_reducible repeat (first|apply Kd.R_alloc|apply Kd.R_drewN|apply Kd.R_drew));exact HO329.out) hb);have n3_:=AsZ.mk (Kd.R_lower (Kd.R_new' ho0 (Kd.R_lt (by (with_reducible repeat (first|apply Kd.R_alloc|apply Kd.R_drewN|apply Kd.R_drew));exact HO323.out))) (bwz (by repeat (first|(with_reducible first|exact HB.out|apply bwa|apply pbN|apply bw1|refine bws ?_ GE319.out)|exact HB.out))));have n4_:=AsZ.mk (Kd.S_lower (Kd.S_new' (Kd.S_new' ho1 (Kd.R_lt (by (with_reducible repeat (first|apply Kd.R_alloc|apply Kd.R_drewN|apply Kd.R_drew));exact HO323.out))) (Kd.S_lt (by (with_reducible repeat (first|apply Kd.S_alloc|apply Kd.S_drewN|apply Kd.S_drew));exact HO326.out))) (bwz (by repeat (first|(with_reducible first|exact HB.out|apply bwa|apply pbN|apply bw1|refine bws ?_ GE319.out)|exact HB.out))));have n5_:=AsZ.mk (kb (g:=gb319) (o := .cells #[.slice A0_0 l0_0.length c0_0,.slice A0_1 l0_1.length c0_1] 43 (0,0)) (by (with_reducible repeat (first|refine kdN ?_ _|refine kd ?_|refine ka ?_ _));exact BK319.out) hb);have n6_:=AsZ.mk (bwp (by repeat (first|(with_reducible first|exact HB.out|apply bwa|apply pbN|apply bw1|refine bws ?_ GE319.out)|exact HB.out)) hb);clear HO323;clear HO326;clear HO329;clear BK319;clear HB;have HO323:=n0_;have HO326:=n1_;have HO329:=n2_;have HO333:=n3_;have HO336:=n4_;have BK319:=n5_;have HB:=n6_;clear n0_ n1_ n2_ n3_ n4_ n5_ n6_;(try clear hb);(try clear hb2);(try clear hk);(try clear hi);(try clear ho0);(try clear ho1))|((with_reducible refine gate_dst (N:=8) rfl ?_);refine box_event ?hg (N:=8) ?hd (cs:=#[.slice none 0 0,.slice none 0 0]) (t:=26) ?hr ?_;(case hd=>rfl);(case hg=>rfl);(case hr=>first|(go_simp;done)|(go_simp;rfl));intro gb337 hg w23 hbox hb;have n0_:=AsZ.mk (Kd.R_below (by (with_reducible repeat (first|apply Kd.R_alloc|apply Kd.R_drewN|apply Kd.R_drew));exact HO323.out) hb);have n1_:=AsZ.mk (Kd.S_below (by (with_reducible repeat (first|apply Kd.S_alloc|apply Kd.S_drewN|apply Kd.S_drew));exact HO326.out) hb);have n2_:=AsZ.mk (Kd.R_below (by (with_reducible repeat (first|apply Kd.R_alloc|apply Kd.R_drewN|apply Kd.R_drew));exact HO329.out) hb);have n3_:=AsZ.mk (Kd.R_below (by (with_reducible repeat (first|apply Kd.R_alloc|apply Kd.R_drewN|apply Kd.R_drew));exact HO333.out) hb);have n4_:=AsZ.mk (Kd.S_below (by (with_reducible repeat (first|apply Kd.S_alloc|apply Kd.S_drewN|apply Kd.S_drew));exact HO336.out) hb);have n5_:=AsZ.mk (kb (g:=gb319) (o := .cells #[.slice A0_0 l0_0.length c0_0,.slice A0_1 l0_1.length c0_1] 43 (0,0)) (by (with_reducible repeat (first|refine kdN ?_ _|refine kd ?_|refine ka ?_ _));exact BK319.out) hb);have n6_:=AsZ.mk (bwp (by repeat (first|(with_reducible first|exact HB.out|apply bwa|apply pbN|apply bw1|refine bws ?_ GE319.out)|exact HB.out)) hb);have n7_:=AsZ.mk (hbox);have n8_:=AsZ.mk ((by rw [hg];exact (bwz (by repeat (first|(with_reducible first|exact HB.out|apply bwa|apply pbN|apply bw1|refine bws ?_ GE319.out)|exact HB.out))):w.heap.size≤gb337));have n9_:=AsZ.mk ((by rw [hg];exact (bwz (by repeat (first|(with_reducible first|exact HB.out|apply bwa|apply pbN|apply bw1|refine bws ?_ GE319.out)|exact HB.out))):w.heap.size≤gb337));have n10_:=AsZ.mk ((by rw [hg];exact Nat.ne_of_lt (blk_lt (g:=gb319) (o := .cells #[.slice A0_0 l0_0.length c0_0,.slice A0_1 l0_1.length c0_1] 43 (0,0)) (by (with_reducible repeat (first|refine kdN ?_ _|refine kd ?_|refine ka ?_ _));exact BK319.out)):gb319 ≠ gb337));have n11_:=AsZ.mk ((by rw [hg];exact Nat.ne_of_gt (blk_lt (g:=gb319) (o := .cells #[.slice A0_0 l0_0.length c0_0,.slice A0_1 l0_1.length c0_1] 43 (0,0)) (by (with_reducible repeat (first|refine kdN ?_ _|refine kd ?_|refine ka ?_ _));exact BK319.out)):gb337 ≠ gb319));clear HO323;clear HO326;clear HO329;clear HO333;clear HO336;clear BK319;clear HB;have HO323:=n0_;have HO326:=n1_;have HO329:=n2_;have HO333:=n3_;have HO336:=n4_;have BK319:=n5_;have HB:=n6_;have BK337:=n7_;have GW337:=n8_;have GE337:=n9_;have NB319_337:=n10_;have NB337_319:=n11_;clear n0_ n1_ n2_ n3_ n4_ n5_ n6_ n7_ n8_ n9_ n10_ n11_;clear hb hbox hg;obtain ⟨Ao24,co24,eo24⟩:=Kd.R_slice HO333.out;subst eo24;have hnb25:=NB337_319.out;have hnc25:=NB319_337.out;have hcz26_0:w23.cell? ⟨gb337,0,none⟩=some (.slice none 0 0):=(kc BK337.out 0).trans rfl;have hcz26_1:w23.cell? ⟨gb337,1,none⟩=some (.slice none 0 0):=(kc BK337.out 1).trans rfl;have hfz26_0:=kf BK337.out 0;have hfz26_1:=kf BK337.out 1;obtain ⟨Ao27,co27,eo27⟩:=Kd.S_slice HO336.out;subst eo27)|((with_reducible refine gcl (f:=14) rfl ?_);refine goesL_ (some 33) rfl rfl Tryd.func14 (by kernel_rfl) rfl #[.agg #[.slice Ao24 t331.length co24,.slice Ao27 t334.length co27],.int .i64 a1] rfl (by (try simp only [zA,zC,zN]);first|done|rfl|(simp only [zM,zL];rfl)) ?_;(with_reducible refine (impl_ListSkip.calls k _ _ t331 _ _ t334 a1 t338 t341 _ ?side1 ?side2 ?side3 ?side4 ?sideT A11.out).mono ?_);(case sideT=>exact tab_below HT.out (by repeat (first|(with_reducible first|exact HB.out|apply bwa|apply pbN|apply bw1|refine bws ?_ (AsZ.out (by assumption)))|exact HB.out)));(case side1=>refine (Kd.R_reads' (e:=3) (base:=w.heap.size) (ok:=fun k_=>(True∧some k_ ≠ (.slice Ao18 t321.length co18:Value).ownBlock)) (n:=t331.length) (c:=co24) ?_).2.2;exact (by (with_reducible repeat (first|apply Kd.R_alloc|apply Kd.R_drewN|apply Kd.R_drew));exact (Kd.R_mono (Kd.R_far (p:=⟨gb337,1,none⟩) (Kd.R_far (p:=⟨gb337,0,none⟩) (Kd.R_types HO333.out BK337.out (by decide)) (fun _ hk=>hk.2) (.slice Ao24 t331.length co24)) (fun _ hk=>hk.2) (.slice Ao27 t334.length co27)) (fun _ h_=>h_.1))));(case side2=>exact (Kd.R_reads' HO333.out).2.1);(case side3=>refine (Kd.S_reads' (e:=77) (base:=w.heap.size) (ok:=fun k_=>((some k_ ≠ (.slice Ao24 t331.length co24:Value).ownBlock∧some k_ ≠ (.slice Ao18 t321.length co18:Value).ownBlock)∧some k_ ≠ (.slice Ao19 t324.length co19:Value).ownBlock)) (n:=t334.length) (c:=co27) ?_).2.2;exact (by (with_reducible repeat (first|apply Kd.S_alloc|apply Kd.S_drewN|apply Kd.S_drew));exact (Kd.S_mono (Kd.S_far (p:=⟨gb337,1,none⟩) (Kd.S_far (p:=⟨gb337,0,none⟩) (Kd.S_types HO336.out BK337.out (by decide)) (fun _ hk=>hk.2) (.slice Ao24 t331.length co24)) (fun _ hk=>hk.2) (.slice Ao27 t334.length co27)) (fun _ h_=>h_.1))));(case side4=>exact (Kd.S_reads' HO336.out).2.1);rintro e w28 ⟨v339,rfl,ho0,hb⟩;refine ⟨_,rfl,?_⟩;have n0_:=AsZ.mk (Kd.R_below (by (with_reducible repeat (first|apply Kd.R_alloc|apply Kd.R_drewN|apply Kd.R_drew));exact (Kd.R_mono (Kd.R_far (p:=⟨gb337,1,none⟩) (Kd.R_far (p:=⟨gb337,0,none⟩) (Kd.R_types HO323.out BK337.out (by decide)) (fun _ hk=>hk.2) (.slice Ao24 t331.length co24)) (fun _ hk=>hk.2) (.slice Ao27 t334.length co27)) (fun _ h_=>h_.1))) hb);have n1_:=AsZ.mk (Kd.S_below (by (with_reducible repeat (first|apply Kd.S_alloc|apply Kd.S_drewN|apply Kd.S_drew));exact (Kd.S_mono (Kd.S_far (p:=⟨gb337,1,none⟩) (Kd.S_far (p:=⟨gb337,0,none⟩) (Kd.S_types HO326.out BK337.out (by decide)) (fun _ hk=>hk.2) (.slice Ao24 t331.length co24)) (fun _ hk=>hk.2) (.slice Ao27 t334.length co27)) (fun _ h_=>h_.1))) hb);have n2_:=AsZ.mk (Kd.R_elder' (by (with_reducible repeat (first|apply Kd.R_alloc|apply Kd.R_drewN|apply Kd.R_drew));exact (Kd.R_mono (Kd.R_far (p:=⟨gb337,1,none⟩) (Kd.R_far (p:=⟨gb337,0,none⟩) (Kd.R_types HO329.out BK337.out (by decide)) (fun _ hk=>hk.2) (.slice Ao24 t331.length co24)) (fun _ hk=>hk.2) (.slice Ao27 t334.length co27)) (fun _ h_=>h_.1))) (Kd.R_base ho0) hb);have n3_:=AsZ.mk (Kd.R_below (by (with_reducible repeat (first|apply Kd.R_alloc|apply Kd.R_drewN|apply Kd.R_drew));exact (Kd.R_mono (Kd.R_far (p:=⟨gb337,1,none⟩) (Kd.R_far (p:=⟨gb337,0,none⟩) (Kd.R_types HO333.out BK337.out (by decide)) (fun _ hk=>hk.2) (.slice Ao24 t331.length co24)) (fun _ hk=>hk.2) (.slice Ao27 t334.length co27)) (fun _ h_=>h_.1))) hb);have n4_:=AsZ.mk (Kd.S_below (by (with_reducible repeat (first|apply Kd.S_alloc|apply Kd.S_drewN|apply Kd.S_drew));exact (Kd.S_mono (Kd.S_far (p:=⟨gb337,1,none⟩) (Kd.S_far (p:=⟨gb337,0,none⟩) (Kd.S_types HO336.out BK337.out (by decide)) (fun _ hk=>hk.2) (.slice Ao24 t331.length co24)) (fun _ hk=>hk.2) (.slice Ao27 t334.length co27)) (fun _ h_=>h_.1))) hb);have n5_:=AsZ.mk (Kd.R_lower (Kd.R_new' ho0 (Kd.R_lt (by (with_reducible repeat (first|apply Kd.R_alloc|apply Kd.R_drewN|apply Kd.R_drew));exact (Kd.R_mono (Kd.R_far (p:=⟨gb337,1,none⟩) (Kd.R_far (p:=⟨gb337,0,none⟩) (Kd.R_types HO329.out BK337.out (by decide)) (fun _ hk=>hk.2) (.slice Ao24 t331.length co24)) (fun _ hk=>hk.2) (.slice Ao27 t334.length co27)) (fun _ h_=>h_.1))))) (bwz (by repeat (first|(with_reducible first|exact HB.out|apply bwa|apply pbN|apply bw1|refine bws ?_ GE319.out|refine bws ?_ GE337.out)|exact HB.out))));have n6_:=AsZ.mk (kb (g:=gb319) (o := .cells #[.slice A0_0 l0_0.length c0_0,.slice A0_1 l0_1.length c0_1] 43 (0,0)) (by (with_reducible repeat (first|refine kdN ?_ _|refine kd ?_|refine ka ?_ _));refine blk_far ?_ NB319_337.out _;(with_reducible repeat (first|refine kdN ?_ _|refine kd ?_|refine ka ?_ _));refine blk_far ?_ NB319_337.out _;(with_reducible repeat (first|refine kdN ?_ _|refine kd ?_|refine ka ?_ _));exact BK319.out) hb);have n7_:=AsZ.mk (kb (g:=gb337) (o := .cells #[.slice Ao24 t331.length co24,.slice Ao27 t334.length co27] 26 (0,0)) (by (with_reducible repeat (first|refine kdN ?_ _|refine kd ?_|refine ka ?_ _));refine blk_put (cs:=#[.slice Ao24 t331.length co24,.slice none 0 0]) ?_ 1 _ rfl;(with_reducible repeat (first|refine kdN ?_ _|refine kd ?_|refine ka ?_ _));refine blk_put (cs:=#[.slice none 0 0,.slice none 0 0]) ?_ 0 _ rfl;(with_reducible repeat (first|refine kdN ?_ _|refine kd ?_|refine ka ?_ _));exact BK337.out) hb);have n8_:=AsZ.mk (bwp (by repeat (first|(with_reducible first|exact HB.out|apply bwa|apply pbN|apply bw1|refine bws ?_ GE319.out|refine bws ?_ GE337.out)|exact HB.out)) hb);clear HO323;clear HO326;clear HO329;clear HO333;clear HO336;clear BK319;clear BK337;clear HB;have HO323:=n0_;have HO326:=n1_;have HO329:=n2_;have HO333:=n3_;have HO336:=n4_;have HO340:=n5_;have BK319:=n6_;have BK337:=n7_;have HB:=n8_;clear n0_ n1_ n2_ n3_ n4_ n5_ n6_ n7_ n8_;(try clear hb);(try clear hb2);(try clear hk);(try clear hi);(try clear ho0)))
 (try simp only [Act.put,zS,zT,zU])
 go_cut [44] (fun v44 wc => ∃ (kq:Nat) (x44_11:Bool),v44 = .bool x44_11∧AsZ (laws_FnExactListSkip.j0 kq a1 t327 t330 t338 t341 x44_11 l0_0 l0_1 t331 t334=some r)∧AsZ (kq≤k)∧AsZ (Kd.R k28 28 wc w.heap.size (fun k_=>some k_ ≠ (v339:Value).ownBlock) v328 t327)∧AsZ (Kd.R k28 28 wc w.heap.size (fun k_=>some k_ ≠ (v328:Value).ownBlock) v339 t338)∧AsZ (Kd.R (Kd.int .i64) 3 wc w.heap.size (fun _=>True) (.slice Ao24 t331.length co24) t331)∧AsZ (Kd.S k77 77 wc w.heap.size (fun k_=>some k_ ≠ ((.slice Ao24 t331.length co24):Value).ownBlock) (.slice Ao27 t334.length co27) t334)∧AsZ (wc.heap[gb319]? = some (.cells #[(.slice A0_0 l0_0.length c0_0),(.slice A0_1 l0_1.length c0_1)] 43 (0,0)))∧AsZ (wc.heap[gb337]? = some (.cells #[(.slice Ao24 t331.length co24),(.slice Ao27 t334.length co27)] 26 (0,0)))∧AsZ (Below w.heap.size w wc))
 case first =>
  have H:=HC12.out
  clear HC12
  replace H:=Option.bind_eq_some_iff.mp H
  obtain ⟨t342,A290,H⟩:=H
  replace H:(if t342=true then (laws_FnExactListSkip.j0 k a1 t327 t330 t338 t341 (t341 != t330) l0_0 l0_1 t331 t334) else (laws_FnExactListSkip.j0 k a1 t327 t330 t338 t341 true l0_0 l0_1 t331 t334))=some r:=H
  have A29:=AsZ.mk A290
  clear A290
  by_cases c30:t342=true
  · subst c30
    have H1:(laws_FnExactListSkip.j0 k a1 t327 t330 t338 t341 (t341 != t330) l0_0 l0_1 t331 t334)=some r:=by rw [if_pos rfl] at H;exact H
    clear H
    have H:=H1
    clear H1
    have H':=AsZ.mk H
    clear H
    obtain ⟨Ao31,co31,eo31⟩:=Kd.R_slice HO340.out
    subst eo31
    obtain ⟨Ao32,co32,eo32⟩:=Kd.R_slice HO329.out
    subst eo32
    go_wp2_with (first|((with_reducible refine gcl (f:=21) rfl ?_);refine goesL_ (some 38) rfl rfl Tryd.func21 (by kernel_rfl) rfl #[.slice Ao31 t338.length co31,.slice Ao32 t327.length co32] rfl (by (try simp only [zA,zC,zN]);first|done|rfl|(simp only [zM,zL];rfl)) ?_;(with_reducible refine (laws_eqItemS.calls k _ _ t338 _ _ t327 true _ ?side1 ?side2 ?side3 ?side4 A29.out).mono ?_);(case side1=>repeat (first|exact (Kd.R_reads' HO340.out).2.2|(with_reducible refine Kd.C_alloc ?_ _)|(with_reducible refine Kd.C_drewN ?_ _)|(with_reducible refine Kd.C_drew ?_)));(case side2=>exact (Kd.R_reads' HO340.out).2.1);(case side3=>repeat (first|exact (Kd.R_reads' HO329.out).2.2|(with_reducible refine Kd.C_alloc ?_ _)|(with_reducible refine Kd.C_drewN ?_ _)|(with_reducible refine Kd.C_drew ?_)));(case side4=>exact (Kd.R_reads' HO329.out).2.1);rintro e w33 ⟨rfl,hb⟩;refine ⟨_,rfl,?_⟩;have n0_:=AsZ.mk (Kd.R_below (by (with_reducible repeat (first|apply Kd.R_alloc|apply Kd.R_drewN|apply Kd.R_drew));exact HO323.out) hb);have n1_:=AsZ.mk (Kd.S_below (by (with_reducible repeat (first|apply Kd.S_alloc|apply Kd.S_drewN|apply Kd.S_drew));exact HO326.out) hb);have n2_:=AsZ.mk (Kd.R_below (by (with_reducible repeat (first|apply Kd.R_alloc|apply Kd.R_drewN|apply Kd.R_drew));exact HO329.out) hb);have n3_:=AsZ.mk (Kd.R_below (by (with_reducible repeat (first|apply Kd.R_alloc|apply Kd.R_drewN|apply Kd.R_drew));exact HO333.out) hb);have n4_:=AsZ.mk (Kd.S_below (by (with_reducible repeat (first|apply Kd.S_alloc|apply Kd.S_drewN|apply Kd.S_drew));exact HO336.out) hb);have n5_:=AsZ.mk (Kd.R_below (by (with_reducible repeat (first|apply Kd.R_alloc|apply Kd.R_drewN|apply Kd.R_drew));exact HO340.out) hb);have n6_:=AsZ.mk (kb (g:=gb319) (o := .cells #[.slice A0_0 l0_0.length c0_0,.slice A0_1 l0_1.length c0_1] 43 (0,0)) (by (with_reducible repeat (first|refine kdN ?_ _|refine kd ?_|refine ka ?_ _));exact BK319.out) hb);have n7_:=AsZ.mk (kb (g:=gb337) (o := .cells #[.slice Ao24 t331.length co24,.slice Ao27 t334.length co27] 26 (0,0)) (by (with_reducible repeat (first|refine kdN ?_ _|refine kd ?_|refine ka ?_ _));exact BK337.out) hb);have n8_:=AsZ.mk (bwp (by repeat (first|(with_reducible first|exact HB.out|apply bwa|apply pbN|apply bw1|refine bws ?_ GE319.out|refine bws ?_ GE337.out)|exact HB.out)) hb);clear HO323;clear HO326;clear HO329;clear HO333;clear HO336;clear HO340;clear BK319;clear BK337;clear HB;have HO323:=n0_;have HO326:=n1_;have HO329:=n2_;have HO333:=n3_;have HO336:=n4_;have HO340:=n5_;have BK319:=n6_;have BK337:=n7_;have HB:=n8_;clear n0_ n1_ n2_ n3_ n4_ n5_ n6_ n7_ n8_;(try clear hb);(try clear hb2);(try clear hk);(try clear hi)))
    go_meet
    case rel=>exact ⟨_,((t341 != t330)),(by first|rfl|(simp;done)|(simp [*];done)),H',⟨by first|omega|exact Nat.le_refl _⟩,⟨by (with_reducible repeat (first|apply Kd.R_alloc|apply Kd.R_drewN|apply Kd.R_drew));exact Kd.R_mono HO329.out (fun _ hk=>hk.2)⟩,⟨by (with_reducible repeat (first|apply Kd.R_alloc|apply Kd.R_drewN|apply Kd.R_drew));exact Kd.R_mono HO340.out (fun _ hk=>hk.2)⟩,⟨by (with_reducible repeat (first|apply Kd.R_alloc|apply Kd.R_drewN|apply Kd.R_drew));exact Kd.R_mono HO333.out (fun _ hk=>trivial)⟩,⟨by (with_reducible repeat (first|apply Kd.S_alloc|apply Kd.S_drewN|apply Kd.S_drew));exact Kd.S_mono HO336.out (fun _ hk=>hk.1.1)⟩,⟨by (with_reducible repeat (first|refine kdN ?_ _|refine kd ?_|refine ka ?_ _));exact BK319.out⟩,⟨by (with_reducible repeat (first|refine kdN ?_ _|refine kd ?_|refine ka ?_ _));exact BK337.out⟩,⟨by repeat (first|(with_reducible first|exact HB.out|apply bwa|apply pbN|apply bw1|refine bws ?_ GE319.out|refine bws ?_ GE337.out)|exact HB.out)⟩⟩
  replace c30:=Bool.eq_false_iff.mpr c30
  subst c30
  have H1:(laws_FnExactListSkip.j0 k a1 t327 t330 t338 t341 true l0_0 l0_1 t331 t334)=some r:=by rw [if_neg (show ¬ (false=true) by decide)] at H;exact H
  clear H
  have H:=H1
  clear H1
  have H':=AsZ.mk H
  clear H
  obtain ⟨Ao34,co34,eo34⟩:=Kd.R_slice HO340.out
  subst eo34
  obtain ⟨Ao35,co35,eo35⟩:=Kd.R_slice HO329.out
  subst eo35
  go_wp2_with (first|((with_reducible refine gcl (f:=21) rfl ?_);refine goesL_ (some 38) rfl rfl Tryd.func21 (by kernel_rfl) rfl #[.slice Ao34 t338.length co34,.slice Ao35 t327.length co35] rfl (by (try simp only [zA,zC,zN]);first|done|rfl|(simp only [zM,zL];rfl)) ?_;(with_reducible refine (laws_eqItemS.calls k _ _ t338 _ _ t327 false _ ?side1 ?side2 ?side3 ?side4 A29.out).mono ?_);(case side1=>repeat (first|exact (Kd.R_reads' HO340.out).2.2|(with_reducible refine Kd.C_alloc ?_ _)|(with_reducible refine Kd.C_drewN ?_ _)|(with_reducible refine Kd.C_drew ?_)));(case side2=>exact (Kd.R_reads' HO340.out).2.1);(case side3=>repeat (first|exact (Kd.R_reads' HO329.out).2.2|(with_reducible refine Kd.C_alloc ?_ _)|(with_reducible refine Kd.C_drewN ?_ _)|(with_reducible refine Kd.C_drew ?_)));(case side4=>exact (Kd.R_reads' HO329.out).2.1);rintro e w36 ⟨rfl,hb⟩;refine ⟨_,rfl,?_⟩;have n0_:=AsZ.mk (Kd.R_below (by (with_reducible repeat (first|apply Kd.R_alloc|apply Kd.R_drewN|apply Kd.R_drew));exact HO323.out) hb);have n1_:=AsZ.mk (Kd.S_below (by (with_reducible repeat (first|apply Kd.S_alloc|apply Kd.S_drewN|apply Kd.S_drew));exact HO326.out) hb);have n2_:=AsZ.mk (Kd.R_below (by (with_reducible repeat (first|apply Kd.R_alloc|apply Kd.R_drewN|apply Kd.R_drew));exact HO329.out) hb);have n3_:=AsZ.mk (Kd.R_below (by (with_reducible repeat (first|apply Kd.R_alloc|apply Kd.R_drewN|apply Kd.R_drew));exact HO333.out) hb);have n4_:=AsZ.mk (Kd.S_below (by (with_reducible repeat (first|apply Kd.S_alloc|apply Kd.S_drewN|apply Kd.S_drew));exact HO336.out) hb);have n5_:=AsZ.mk (Kd.R_below (by (with_reducible repeat (first|apply Kd.R_alloc|apply Kd.R_drewN|apply Kd.R_drew));exact HO340.out) hb);have n6_:=AsZ.mk (kb (g:=gb319) (o := .cells #[.slice A0_0 l0_0.length c0_0,.slice A0_1 l0_1.length c0_1] 43 (0,0)) (by (with_reducible repeat (first|refine kdN ?_ _|refine kd ?_|refine ka ?_ _));exact BK319.out) hb);have n7_:=AsZ.mk (kb (g:=gb337) (o := .cells #[.slice Ao24 t331.length co24,.slice Ao27 t334.length co27] 26 (0,0)) (by (with_reducible repeat (first|refine kdN ?_ _|refine kd ?_|refine ka ?_ _));exact BK337.out) hb);have n8_:=AsZ.mk (bwp (by repeat (first|(with_reducible first|exact HB.out|apply bwa|apply pbN|apply bw1|refine bws ?_ GE319.out|refine bws ?_ GE337.out)|exact HB.out)) hb);clear HO323;clear HO326;clear HO329;clear HO333;clear HO336;clear HO340;clear BK319;clear BK337;clear HB;have HO323:=n0_;have HO326:=n1_;have HO329:=n2_;have HO333:=n3_;have HO336:=n4_;have HO340:=n5_;have BK319:=n6_;have BK337:=n7_;have HB:=n8_;clear n0_ n1_ n2_ n3_ n4_ n5_ n6_ n7_ n8_;(try clear hb);(try clear hb2);(try clear hk);(try clear hi)))
  go_meet
  case rel=>exact ⟨_,(true),(by first|rfl|(simp;done)|(simp [*];done)),H',⟨by first|omega|exact Nat.le_refl _⟩,⟨by (with_reducible repeat (first|apply Kd.R_alloc|apply Kd.R_drewN|apply Kd.R_drew));exact Kd.R_mono HO329.out (fun _ hk=>hk.2)⟩,⟨by (with_reducible repeat (first|apply Kd.R_alloc|apply Kd.R_drewN|apply Kd.R_drew));exact Kd.R_mono HO340.out (fun _ hk=>hk.2)⟩,⟨by (with_reducible repeat (first|apply Kd.R_alloc|apply Kd.R_drewN|apply Kd.R_drew));exact Kd.R_mono HO333.out (fun _ hk=>trivial)⟩,⟨by (with_reducible repeat (first|apply Kd.S_alloc|apply Kd.S_drewN|apply Kd.S_drew));exact Kd.S_mono HO336.out (fun _ hk=>hk.1.1)⟩,⟨by (with_reducible repeat (first|refine kdN ?_ _|refine kd ?_|refine ka ?_ _));exact BK319.out⟩,⟨by (with_reducible repeat (first|refine kdN ?_ _|refine kd ?_|refine ka ?_ _));exact BK337.out⟩,⟨by repeat (first|(with_reducible first|exact HB.out|apply bwa|apply pbN|apply bw1|refine bws ?_ GE319.out|refine bws ?_ GE337.out)|exact HB.out)⟩⟩
 case rest =>
  clear HC12
  try clear c1
  try clear c2
  try clear p2
  try clear c3
  try clear c4
  try clear c4b0
  try clear c14
  try clear c18
  try clear c19
  try clear c20
  try clear c21
  try clear c25
  try clear c30
  try clear hcz14_0
  try clear hcz14_1
  try clear hcz16_0
  try clear hcz16_1
  try clear hcz21_0
  try clear hcz21_1
  try clear hcz26_0
  try clear hcz26_1
  try clear hcz6_0
  try clear hcz6_1
  try clear hfz14_0
  try clear hfz14_1
  try clear hfz16_0
  try clear hfz16_1
  try clear hfz21_0
  try clear hfz21_1
  try clear hfz26_0
  try clear hfz26_1
  try clear hfz6_0
  try clear hfz6_1
  obtain ⟨kq,x44_11,rfl,HA,HJ11,HO_6,HO_9,HO_338000,HO_338001,BK319,BK337,HB⟩:=hcut
  cases kq with
  |zero=>exact absurd HA.out (by simp [laws_FnExactListSkip.j0])
  |succ kj11 =>
   have H:=HA.out
   clear HA
   simp only [laws_FnExactListSkip.j0] at H
   by_cases c37:x44_11=true
   · subst c37
     have H1:(some false)=some r:=by rw [if_pos rfl] at H;exact H
     clear H
     have H:=H1
     clear H1
     obtain rfl:=zI H
     go_wp2
     go_ret
     exact ⟨by first|rfl|(simp [errW_none,errW_some]<;>rfl)|(simp [*,errW_none,errW_some]<;>rfl),by repeat (first|(with_reducible first|exact HB.out|apply bwa|apply pbN|apply bw1|refine bws ?_ GE319.out|refine bws ?_ GE337.out)|exact HB.out)⟩
   replace c37:=Bool.eq_false_iff.mpr c37
   subst c37
   have H1:((laws_toSkip.f kj11 l0_0 l0_1).bind fun bt343=>((laws_eqSkip.f kj11 t331 t334 bt343.1 bt343.2).bind fun t349=>(if t349=true then ((laws_markSkip.f kj11 t331 t334 1).bind fun t350=>(if t350 < 0 then (laws_FnExactListSkip.j1 kj11 a1 t327 t330 t338 true l0_0 l0_1) else ((laws_eqItemS.f kj11 t338 t327).bind fun t351=>(if t351=true then (laws_FnExactListSkip.j1 kj11 a1 t327 t330 t338 (t341 != t330) l0_0 l0_1) else (laws_FnExactListSkip.j1 kj11 a1 t327 t330 t338 true l0_0 l0_1))))) else (some false))))=some r:=by rw [if_neg (show ¬ (false=true) by decide)] at H;exact H
   clear H
   have H:=H1
   clear H1
   replace H:=Option.bind_eq_some_iff.mp H
   obtain ⟨⟨t343,t346⟩,A380,H⟩:=H
   replace H:((laws_eqSkip.f kj11 t331 t334 t343 t346).bind fun t349=>(if t349=true then ((laws_markSkip.f kj11 t331 t334 1).bind fun t350=>(if t350 < 0 then (laws_FnExactListSkip.j1 kj11 a1 t327 t330 t338 true l0_0 l0_1) else ((laws_eqItemS.f kj11 t338 t327).bind fun t351=>(if t351=true then (laws_FnExactListSkip.j1 kj11 a1 t327 t330 t338 (t341 != t330) l0_0 l0_1) else (laws_FnExactListSkip.j1 kj11 a1 t327 t330 t338 true l0_0 l0_1))))) else (some false)))=some r:=H
   have A38:=AsZ.mk A380
   clear A380
   replace H:=Option.bind_eq_some_iff.mp H
   obtain ⟨t349,A390,H⟩:=H
   replace H:(if t349=true then ((laws_markSkip.f kj11 t331 t334 1).bind fun t350=>(if t350 < 0 then (laws_FnExactListSkip.j1 kj11 a1 t327 t330 t338 true l0_0 l0_1) else ((laws_eqItemS.f kj11 t338 t327).bind fun t351=>(if t351=true then (laws_FnExactListSkip.j1 kj11 a1 t327 t330 t338 (t341 != t330) l0_0 l0_1) else (laws_FnExactListSkip.j1 kj11 a1 t327 t330 t338 true l0_0 l0_1))))) else (some false))=some r:=H
   have A39:=AsZ.mk A390
   clear A390
   by_cases c40:t349=true
   rotate_left
   · replace c40:=Bool.eq_false_iff.mpr c40
     subst c40
     have H1:(some false)=some r:=by rw [if_neg (show ¬ (false=true) by decide)] at H;exact H
     clear H
     have H:=H1
     clear H1
     obtain rfl:=zI H
     try go_wp2
     have n0_:=AsZ.mk (Kd.R_drew HO_6.out)
     have n1_:=AsZ.mk (Kd.R_drew HO_9.out)
     have n2_:=AsZ.mk (Kd.R_drew HO_338000.out)
     have n3_:=AsZ.mk (Kd.S_drew HO_338001.out)
     have n4_:=AsZ.mk (kd BK319.out)
     have n5_:=AsZ.mk (kd BK337.out)
     have n6_:=AsZ.mk (bw1 HB.out)
     clear HO_6 HO_9 HO_338000 HO_338001 BK319 BK337 HB
     have HO_6:=n0_
     have HO_9:=n1_
     have HO_338000:=n2_
     have HO_338001:=n3_
     have BK319:=n4_
     have BK337:=n5_
     have HB:=n6_
     clear n0_ n1_ n2_ n3_ n4_ n5_ n6_
     refine start_ (n:=5) (S:=fun w'=>w'.cell? ⟨gb337,0,none⟩=some (.slice Ao24 t331.length co24)∧w'.cell? ⟨gb337,1,none⟩=some (.slice Ao27 t334.length co27)∧w'.cell? ⟨gb319,0,none⟩=some (.slice A0_0 l0_0.length c0_0)∧w'.cell? ⟨gb319,1,none⟩=some (.slice A0_1 l0_1.length c0_1)) (ds:=[]) (b_ 0 5) (by kernel_rfl) rfl rfl ⟨(kc BK337.out 0).trans rfl,(kc BK337.out 1).trans rfl,(kc BK319.out 0).trans rfl,(kc BK319.out 1).trans rfl⟩ (fun hHeld=>?_)
     generalize wc.drew=w98 at HO_6 HO_9 HO_338000 HO_338001 BK319 BK337 HB hHeld ⊢
     refine take_ (i:=0) (N:=some 45) (v:=?_) (a':=?_) (b_ 1 4) rfl rfl (by kernel_rfl) (fun _ _ _ h=>h) (Or.inl ⟨by rfl,?_⟩) hHeld ?_ ?_
     rotate_left
     · rintro w' ⟨s0,s1,s2,s3⟩
       go_simp
       with_reducible rfl
     rotate_left
     · simp only [Act.put,zS,zT,zU,i64_w,i32_w]
       rfl
     refine take_ (i:=1) (N:=some 46) (v:=?_) (a':=?_) (b_ 2 3) rfl rfl (by kernel_rfl) (fun _ _ _ h=>h) (Or.inl ⟨by rfl,?_⟩) hHeld ?_ ?_
     rotate_left
     · rintro w' ⟨s0,s1,s2,s3⟩
       go_simp
       with_reducible rfl
     rotate_left
     · simp only [Act.put,zS,zT,zU,i64_w,i32_w]
       rfl
     refine one_ (i:=2) (N:=some 47) (b_ 3 2) rfl rfl (by kernel_rfl) (by decide) (fun K hK=>?_)
     refine goes_ Tryd.func20 (by kernel_rfl) rfl #[.agg #[.slice A0_0 l0_0.length c0_0,.slice A0_1 l0_1.length c0_1]] (by rfl) rfl rfl (by (try simp only [zA,zC,zN]);first|done|rfl|(simp only [zM,zL];rfl)) ?_
     with_reducible refine (laws_toSkip.calls kj11 _ _ l0_0 _ _ l0_1 t343 t346 _ ?side1 ?side2 ?side3 ?side4 A38.out).mono ?_
     (case side1=>repeat (first|exact (Kd.C_below HR0_0.out HB.out)|(with_reducible refine Kd.C_alloc ?_ _)|(with_reducible refine Kd.C_drewN ?_ _)|(with_reducible refine Kd.C_drew ?_)))
     (case side2=>exact HC0_0.out)
     (case side3=>repeat (first|exact (Kd.C_below HR0_1.out HB.out)|(with_reducible refine Kd.C_alloc ?_ _)|(with_reducible refine Kd.C_drewN ?_ _)|(with_reducible refine Kd.C_drew ?_)))
     (case side4=>exact HC0_1.out)
     rintro e w99 ⟨v344,v347,rfl,ho0,ho1,hb⟩
     refine ⟨_,rfl,?_⟩
     have n0_:=AsZ.mk (Kd.R_below (by (with_reducible repeat (first|apply Kd.R_alloc|apply Kd.R_drewN|apply Kd.R_drew));exact HO_6.out) hb)
     have n1_:=AsZ.mk (Kd.R_below (by (with_reducible repeat (first|apply Kd.R_alloc|apply Kd.R_drewN|apply Kd.R_drew));exact HO_9.out) hb)
     have n2_:=AsZ.mk (Kd.R_elder' (by (with_reducible repeat (first|apply Kd.R_alloc|apply Kd.R_drewN|apply Kd.R_drew));exact HO_338000.out) (Kd.R_base ho0) hb)
     have n3_:=AsZ.mk (Kd.S_mono (Kd.S_told (Kd.S_told (Kd.S_old (by (with_reducible repeat (first|apply Kd.S_alloc|apply Kd.S_drewN|apply Kd.S_drew));exact HO_338001.out) hb) (Kd.R_base ho0)) (Kd.S_base ho1)) (fun _ h_=>h_.1))
     have n4_:=AsZ.mk (Kd.R_lower (Kd.R_new' ho0 (Kd.R_lt (by (with_reducible repeat (first|apply Kd.R_alloc|apply Kd.R_drewN|apply Kd.R_drew));exact HO_338000.out))) (bwz (by repeat (first|(with_reducible first|exact HB.out|apply bwa|apply pbN|apply bw1|refine bws ?_ GE319.out|refine bws ?_ GE337.out)|exact HB.out))))
     have n5_:=AsZ.mk (Kd.S_lower (Kd.S_new' (Kd.S_new' ho1 (Kd.R_lt (by (with_reducible repeat (first|apply Kd.R_alloc|apply Kd.R_drewN|apply Kd.R_drew));exact HO_338000.out))) (Kd.S_lt (by (with_reducible repeat (first|apply Kd.S_alloc|apply Kd.S_drewN|apply Kd.S_drew));exact HO_338001.out))) (bwz (by repeat (first|(with_reducible first|exact HB.out|apply bwa|apply pbN|apply bw1|refine bws ?_ GE319.out|refine bws ?_ GE337.out)|exact HB.out))))
     have n6_:=AsZ.mk (kb (g:=gb319) (o := .cells #[.slice A0_0 l0_0.length c0_0,.slice A0_1 l0_1.length c0_1] 43 (0,0)) (by (with_reducible repeat (first|refine kdN ?_ _|refine kd ?_|refine ka ?_ _));exact BK319.out) hb)
     have n7_:=AsZ.mk (kb (g:=gb337) (o := .cells #[.slice Ao24 t331.length co24,.slice Ao27 t334.length co27] 26 (0,0)) (by (with_reducible repeat (first|refine kdN ?_ _|refine kd ?_|refine ka ?_ _));exact BK337.out) hb)
     have n8_:=AsZ.mk (bwp (by repeat (first|(with_reducible first|exact HB.out|apply bwa|apply pbN|apply bw1|refine bws ?_ GE319.out|refine bws ?_ GE337.out)|exact HB.out)) hb)
     clear HO_6 HO_9 HO_338000 HO_338001 BK319 BK337 HB
     have HO_6:=n0_
     have HO_9:=n1_
     have HO_338000:=n2_
     have HO_338001:=n3_
     have HO345:=n4_
     have HO348:=n5_
     have BK319:=n6_
     have BK337:=n7_
     have HB:=n8_
     clear n0_ n1_ n2_ n3_ n4_ n5_ n6_ n7_ n8_
     (try clear hb)
     (try clear hb2)
     (try clear hk)
     (try clear hi)
     (try clear ho0)
     (try clear ho1)
     obtain ⟨Ao100,co100,eo100⟩:=Kd.R_slice HO345.out
     (first|subst eo100|(injection eo100 with f1_ f2_ f3_;have f4_:=f1_.symm;have f5_:=f3_.symm;clear f1_ f2_ f3_;subst f4_;subst f5_))
     obtain ⟨Ao101,co101,eo101⟩:=Kd.S_slice HO348.out
     (first|subst eo101|(injection eo101 with f1_ f2_ f3_;have f4_:=f1_.symm;have f5_:=f3_.symm;clear f1_ f2_ f3_;subst f4_;subst f5_))
     refine hK.out _ _ ⟨(kc BK337.out 0).trans rfl,(kc BK337.out 1).trans rfl,(kc BK319.out 0).trans rfl,(kc BK319.out 1).trans rfl⟩ (fun hHeld=>?_)
     clear hK K
     refine norm_ (a':=?_) ?_ ?_
     rotate_left
     · show Act.put _ (some 47) _=_
       simp only [Act.put,zS,zT,zU,i64_w,i32_w]
       rfl
     refine one_ (i:=3) (N:=some 48) (b_ 4 1) rfl rfl (by kernel_rfl) (by decide) (fun K hK=>?_)
     refine goes_ Tryd.func22 (by kernel_rfl) rfl #[.agg #[.slice Ao24 t331.length co24,.slice Ao27 t334.length co27],.agg #[.slice Ao100 t343.length co100,.slice Ao101 t346.length co101]] (by rfl) rfl rfl (by (try simp only [zA,zC,zN]);first|done|rfl|(simp only [zM,zL];rfl)) ?_
     with_reducible refine (laws_eqSkip.calls kj11 _ _ t331 _ _ t334 _ _ t343 _ _ t346 false _ ?side1 ?side2 ?side3 ?side4 ?side5 ?side6 ?side7 ?side8 A39.out).mono ?_
     (case side1=>repeat (first|exact (Kd.R_reads' HO_338000.out).2.2|(with_reducible refine Kd.C_alloc ?_ _)|(with_reducible refine Kd.C_drewN ?_ _)|(with_reducible refine Kd.C_drew ?_)))
     (case side2=>exact (Kd.R_reads' HO_338000.out).2.1)
     (case side3=>repeat (first|exact (Kd.S_reads' HO_338001.out).2.2|(with_reducible refine Kd.C_alloc ?_ _)|(with_reducible refine Kd.C_drewN ?_ _)|(with_reducible refine Kd.C_drew ?_)))
     (case side4=>exact (Kd.S_reads' HO_338001.out).2.1)
     (case side5=>repeat (first|exact (Kd.R_reads' HO345.out).2.2|(with_reducible refine Kd.C_alloc ?_ _)|(with_reducible refine Kd.C_drewN ?_ _)|(with_reducible refine Kd.C_drew ?_)))
     (case side6=>exact (Kd.R_reads' HO345.out).2.1)
     (case side7=>repeat (first|exact (Kd.S_reads' HO348.out).2.2|(with_reducible refine Kd.C_alloc ?_ _)|(with_reducible refine Kd.C_drewN ?_ _)|(with_reducible refine Kd.C_drew ?_)))
     (case side8=>exact (Kd.S_reads' HO348.out).2.1)
     rintro e w102 ⟨rfl,hb⟩
     refine ⟨_,rfl,?_⟩
     have n0_:=AsZ.mk (Kd.R_below (by (with_reducible repeat (first|apply Kd.R_alloc|apply Kd.R_drewN|apply Kd.R_drew));exact HO_6.out) hb)
     have n1_:=AsZ.mk (Kd.R_below (by (with_reducible repeat (first|apply Kd.R_alloc|apply Kd.R_drewN|apply Kd.R_drew));exact HO_9.out) hb)
     have n2_:=AsZ.mk (Kd.R_below (by (with_reducible repeat (first|apply Kd.R_alloc|apply Kd.R_drewN|apply Kd.R_drew));exact HO_338000.out) hb)
     have n3_:=AsZ.mk (Kd.S_below (by (with_reducible repeat (first|apply Kd.S_alloc|apply Kd.S_drewN|apply Kd.S_drew));exact HO_338001.out) hb)
     have n4_:=AsZ.mk (Kd.R_below (by (with_reducible repeat (first|apply Kd.R_alloc|apply Kd.R_drewN|apply Kd.R_drew));exact HO345.out) hb)
     have n5_:=AsZ.mk (Kd.S_below (by (with_reducible repeat (first|apply Kd.S_alloc|apply Kd.S_drewN|apply Kd.S_drew));exact HO348.out) hb)
     have n6_:=AsZ.mk (kb (g:=gb319) (o := .cells #[.slice A0_0 l0_0.length c0_0,.slice A0_1 l0_1.length c0_1] 43 (0,0)) (by (with_reducible repeat (first|refine kdN ?_ _|refine kd ?_|refine ka ?_ _));exact BK319.out) hb)
     have n7_:=AsZ.mk (kb (g:=gb337) (o := .cells #[.slice Ao24 t331.length co24,.slice Ao27 t334.length co27] 26 (0,0)) (by (with_reducible repeat (first|refine kdN ?_ _|refine kd ?_|refine ka ?_ _));exact BK337.out) hb)
     have n8_:=AsZ.mk (bwp (by repeat (first|(with_reducible first|exact HB.out|apply bwa|apply pbN|apply bw1|refine bws ?_ GE319.out|refine bws ?_ GE337.out)|exact HB.out)) hb)
     clear HO_6 HO_9 HO_338000 HO_338001 HO345 HO348 BK319 BK337 HB
     have HO_6:=n0_
     have HO_9:=n1_
     have HO_338000:=n2_
     have HO_338001:=n3_
     have HO345:=n4_
     have HO348:=n5_
     have BK319:=n6_
     have BK337:=n7_
     have HB:=n8_
     clear n0_ n1_ n2_ n3_ n4_ n5_ n6_ n7_ n8_
     (try clear hb)
     (try clear hb2)
     (try clear hk)
     (try clear hi)
     refine hK.out _ _ ⟨(kc BK337.out 0).trans rfl,(kc BK337.out 1).trans rfl,(kc BK319.out 0).trans rfl,(kc BK319.out 1).trans rfl⟩ (fun hHeld=>?_)
     clear hK K
     refine norm_ (a':=?_) ?_ ?_
     rotate_left
     · show Act.put _ (some 48) _=_
       simp only [Act.put,zS,zT,zU,i64_w,i32_w]
       rfl
     refine pure_ (i:=4) (N:=some 49) (v:=?_) (a':=?_) (b_ 5 0) rfl rfl (by kernel_rfl) (fun _ _ _ h=>h) (Or.inl ⟨by rfl,?_⟩) ?_ ?_
     rotate_left
     · intro w'
       go_simp
       with_reducible rfl
     rotate_left
     · simp only [Act.put,zS,zT,zU,i64_w,i32_w]
       rfl
     refine dn_ (by kernel_rfl) ?_
     try go_wp2
     go_ret
     exact ⟨by first|rfl|(simp [errW_none,errW_some]<;>rfl)|(simp [*,errW_none,errW_some]<;>rfl),by repeat (first|(with_reducible first|exact HB.out|apply bwa|apply pbN|apply bw1|refine bws ?_ GE319.out|refine bws ?_ GE337.out)|exact HB.out)⟩
   subst c40
   have H1:((laws_markSkip.f kj11 t331 t334 1).bind fun t350=>(if t350 < 0 then (laws_FnExactListSkip.j1 kj11 a1 t327 t330 t338 true l0_0 l0_1) else ((laws_eqItemS.f kj11 t338 t327).bind fun t351=>(if t351=true then (laws_FnExactListSkip.j1 kj11 a1 t327 t330 t338 (t341 != t330) l0_0 l0_1) else (laws_FnExactListSkip.j1 kj11 a1 t327 t330 t338 true l0_0 l0_1)))))=some r:=by rw [if_pos rfl] at H;exact H
   clear H
   have H:=H1
   clear H1
   replace H:=Option.bind_eq_some_iff.mp H
   obtain ⟨t350,A410,H⟩:=H
   replace H:(if t350 < 0 then (laws_FnExactListSkip.j1 kj11 a1 t327 t330 t338 true l0_0 l0_1) else ((laws_eqItemS.f kj11 t338 t327).bind fun t351=>(if t351=true then (laws_FnExactListSkip.j1 kj11 a1 t327 t330 t338 (t341 != t330) l0_0 l0_1) else (laws_FnExactListSkip.j1 kj11 a1 t327 t330 t338 true l0_0 l0_1))))=some r:=H
   have A41:=AsZ.mk A410
   clear A410
   have HC42:=AsZ.mk H
   clear H
   try go_wp2
   have n0_:=AsZ.mk (Kd.R_drew HO_6.out)
   have n1_:=AsZ.mk (Kd.R_drew HO_9.out)
   have n2_:=AsZ.mk (Kd.R_drew HO_338000.out)
   have n3_:=AsZ.mk (Kd.S_drew HO_338001.out)
   have n4_:=AsZ.mk (kd BK319.out)
   have n5_:=AsZ.mk (kd BK337.out)
   have n6_:=AsZ.mk (bw1 HB.out)
   clear HO_6 HO_9 HO_338000 HO_338001 BK319 BK337 HB
   have HO_6:=n0_
   have HO_9:=n1_
   have HO_338000:=n2_
   have HO_338001:=n3_
   have BK319:=n4_
   have BK337:=n5_
   have HB:=n6_
   clear n0_ n1_ n2_ n3_ n4_ n5_ n6_
   refine start_ (n:=5) (S:=fun w'=>w'.cell? ⟨gb337,0,none⟩=some (.slice Ao24 t331.length co24)∧w'.cell? ⟨gb337,1,none⟩=some (.slice Ao27 t334.length co27)∧w'.cell? ⟨gb319,0,none⟩=some (.slice A0_0 l0_0.length c0_0)∧w'.cell? ⟨gb319,1,none⟩=some (.slice A0_1 l0_1.length c0_1)) (ds:=[]) (b_ 0 5) (by kernel_rfl) rfl rfl ⟨(kc BK337.out 0).trans rfl,(kc BK337.out 1).trans rfl,(kc BK319.out 0).trans rfl,(kc BK319.out 1).trans rfl⟩ (fun hHeld=>?_)
   generalize wc.drew=w43 at HO_6 HO_9 HO_338000 HO_338001 BK319 BK337 HB hHeld ⊢
   refine take_ (i:=0) (N:=some 45) (v:=?_) (a':=?_) (b_ 1 4) rfl rfl (by kernel_rfl) (fun _ _ _ h=>h) (Or.inl ⟨by rfl,?_⟩) hHeld ?_ ?_
   rotate_left
   · rintro w' ⟨s0,s1,s2,s3⟩
     go_simp
     with_reducible rfl
   rotate_left
   · simp only [Act.put,zS,zT,zU,i64_w,i32_w]
     rfl
   refine take_ (i:=1) (N:=some 46) (v:=?_) (a':=?_) (b_ 2 3) rfl rfl (by kernel_rfl) (fun _ _ _ h=>h) (Or.inl ⟨by rfl,?_⟩) hHeld ?_ ?_
   rotate_left
   · rintro w' ⟨s0,s1,s2,s3⟩
     go_simp
     with_reducible rfl
   rotate_left
   · simp only [Act.put,zS,zT,zU,i64_w,i32_w]
     rfl
   refine one_ (i:=2) (N:=some 47) (b_ 3 2) rfl rfl (by kernel_rfl) (by decide) (fun K hK=>?_)
   refine goes_ Tryd.func20 (by kernel_rfl) rfl #[.agg #[.slice A0_0 l0_0.length c0_0,.slice A0_1 l0_1.length c0_1]] (by rfl) rfl rfl (by (try simp only [zA,zC,zN]);first|done|rfl|(simp only [zM,zL];rfl)) ?_
   with_reducible refine (laws_toSkip.calls kj11 _ _ l0_0 _ _ l0_1 t343 t346 _ ?side1 ?side2 ?side3 ?side4 A38.out).mono ?_
   (case side1=>repeat (first|exact (Kd.C_below HR0_0.out HB.out)|(with_reducible refine Kd.C_alloc ?_ _)|(with_reducible refine Kd.C_drewN ?_ _)|(with_reducible refine Kd.C_drew ?_)))
   (case side2=>exact HC0_0.out)
   (case side3=>repeat (first|exact (Kd.C_below HR0_1.out HB.out)|(with_reducible refine Kd.C_alloc ?_ _)|(with_reducible refine Kd.C_drewN ?_ _)|(with_reducible refine Kd.C_drew ?_)))
   (case side4=>exact HC0_1.out)
   rintro e w44 ⟨v344,v347,rfl,ho0,ho1,hb⟩
   refine ⟨_,rfl,?_⟩
   have n0_:=AsZ.mk (Kd.R_below (by (with_reducible repeat (first|apply Kd.R_alloc|apply Kd.R_drewN|apply Kd.R_drew));exact HO_6.out) hb)
   have n1_:=AsZ.mk (Kd.R_below (by (with_reducible repeat (first|apply Kd.R_alloc|apply Kd.R_drewN|apply Kd.R_drew));exact HO_9.out) hb)
   have n2_:=AsZ.mk (Kd.R_elder' (by (with_reducible repeat (first|apply Kd.R_alloc|apply Kd.R_drewN|apply Kd.R_drew));exact HO_338000.out) (Kd.R_base ho0) hb)
   have n3_:=AsZ.mk (Kd.S_mono (Kd.S_told (Kd.S_told (Kd.S_old (by (with_reducible repeat (first|apply Kd.S_alloc|apply Kd.S_drewN|apply Kd.S_drew));exact HO_338001.out) hb) (Kd.R_base ho0)) (Kd.S_base ho1)) (fun _ h_=>h_.1))
   have n4_:=AsZ.mk (Kd.R_lower (Kd.R_new' ho0 (Kd.R_lt (by (with_reducible repeat (first|apply Kd.R_alloc|apply Kd.R_drewN|apply Kd.R_drew));exact HO_338000.out))) (bwz (by repeat (first|(with_reducible first|exact HB.out|apply bwa|apply pbN|apply bw1|refine bws ?_ GE319.out|refine bws ?_ GE337.out)|exact HB.out))))
   have n5_:=AsZ.mk (Kd.S_lower (Kd.S_new' (Kd.S_new' ho1 (Kd.R_lt (by (with_reducible repeat (first|apply Kd.R_alloc|apply Kd.R_drewN|apply Kd.R_drew));exact HO_338000.out))) (Kd.S_lt (by (with_reducible repeat (first|apply Kd.S_alloc|apply Kd.S_drewN|apply Kd.S_drew));exact HO_338001.out))) (bwz (by repeat (first|(with_reducible first|exact HB.out|apply bwa|apply pbN|apply bw1|refine bws ?_ GE319.out|refine bws ?_ GE337.out)|exact HB.out))))
   have n6_:=AsZ.mk (kb (g:=gb319) (o := .cells #[.slice A0_0 l0_0.length c0_0,.slice A0_1 l0_1.length c0_1] 43 (0,0)) (by (with_reducible repeat (first|refine kdN ?_ _|refine kd ?_|refine ka ?_ _));exact BK319.out) hb)
   have n7_:=AsZ.mk (kb (g:=gb337) (o := .cells #[.slice Ao24 t331.length co24,.slice Ao27 t334.length co27] 26 (0,0)) (by (with_reducible repeat (first|refine kdN ?_ _|refine kd ?_|refine ka ?_ _));exact BK337.out) hb)
   have n8_:=AsZ.mk (bwp (by repeat (first|(with_reducible first|exact HB.out|apply bwa|apply pbN|apply bw1|refine bws ?_ GE319.out|refine bws ?_ GE337.out)|exact HB.out)) hb)
   clear HO_6 HO_9 HO_338000 HO_338001 BK319 BK337 HB
   have HO_6:=n0_
   have HO_9:=n1_
   have HO_338000:=n2_
   have HO_338001:=n3_
   have HO345:=n4_
   have HO348:=n5_
   have BK319:=n6_
   have BK337:=n7_
   have HB:=n8_
   clear n0_ n1_ n2_ n3_ n4_ n5_ n6_ n7_ n8_
   (try clear hb)
   (try clear hb2)
   (try clear hk)
   (try clear hi)
   (try clear ho0)
   (try clear ho1)
   obtain ⟨Ao45,co45,eo45⟩:=Kd.R_slice HO345.out
   (first|subst eo45|(injection eo45 with f1_ f2_ f3_;have f4_:=f1_.symm;have f5_:=f3_.symm;clear f1_ f2_ f3_;subst f4_;subst f5_))
   obtain ⟨Ao46,co46,eo46⟩:=Kd.S_slice HO348.out
   (first|subst eo46|(injection eo46 with f1_ f2_ f3_;have f4_:=f1_.symm;have f5_:=f3_.symm;clear f1_ f2_ f3_;subst f4_;subst f5_))
   refine hK.out _ _ ⟨(kc BK337.out 0).trans rfl,(kc BK337.out 1).trans rfl,(kc BK319.out 0).trans rfl,(kc BK319.out 1).trans rfl⟩ (fun hHeld=>?_)
   clear hK K
   refine norm_ (a':=?_) ?_ ?_
   rotate_left
   · show Act.put _ (some 47) _=_
     simp only [Act.put,zS,zT,zU,i64_w,i32_w]
     rfl
   refine one_ (i:=3) (N:=some 48) (b_ 4 1) rfl rfl (by kernel_rfl) (by decide) (fun K hK=>?_)
   refine goes_ Tryd.func22 (by kernel_rfl) rfl #[.agg #[.slice Ao24 t331.length co24,.slice Ao27 t334.length co27],.agg #[.slice Ao45 t343.length co45,.slice Ao46 t346.length co46]] (by rfl) rfl rfl (by (try simp only [zA,zC,zN]);first|done|rfl|(simp only [zM,zL];rfl)) ?_
   with_reducible refine (laws_eqSkip.calls kj11 _ _ t331 _ _ t334 _ _ t343 _ _ t346 true _ ?side1 ?side2 ?side3 ?side4 ?side5 ?side6 ?side7 ?side8 A39.out).mono ?_
   (case side1=>repeat (first|exact (Kd.R_reads' HO_338000.out).2.2|(with_reducible refine Kd.C_alloc ?_ _)|(with_reducible refine Kd.C_drewN ?_ _)|(with_reducible refine Kd.C_drew ?_)))
   (case side2=>exact (Kd.R_reads' HO_338000.out).2.1)
   (case side3=>repeat (first|exact (Kd.S_reads' HO_338001.out).2.2|(with_reducible refine Kd.C_alloc ?_ _)|(with_reducible refine Kd.C_drewN ?_ _)|(with_reducible refine Kd.C_drew ?_)))
   (case side4=>exact (Kd.S_reads' HO_338001.out).2.1)
   (case side5=>repeat (first|exact (Kd.R_reads' HO345.out).2.2|(with_reducible refine Kd.C_alloc ?_ _)|(with_reducible refine Kd.C_drewN ?_ _)|(with_reducible refine Kd.C_drew ?_)))
   (case side6=>exact (Kd.R_reads' HO345.out).2.1)
   (case side7=>repeat (first|exact (Kd.S_reads' HO348.out).2.2|(with_reducible refine Kd.C_alloc ?_ _)|(with_reducible refine Kd.C_drewN ?_ _)|(with_reducible refine Kd.C_drew ?_)))
   (case side8=>exact (Kd.S_reads' HO348.out).2.1)
   rintro e w47 ⟨rfl,hb⟩
   refine ⟨_,rfl,?_⟩
   have n0_:=AsZ.mk (Kd.R_below (by (with_reducible repeat (first|apply Kd.R_alloc|apply Kd.R_drewN|apply Kd.R_drew));exact HO_6.out) hb)
   have n1_:=AsZ.mk (Kd.R_below (by (with_reducible repeat (first|apply Kd.R_alloc|apply Kd.R_drewN|apply Kd.R_drew));exact HO_9.out) hb)
   have n2_:=AsZ.mk (Kd.R_below (by (with_reducible repeat (first|apply Kd.R_alloc|apply Kd.R_drewN|apply Kd.R_drew));exact HO_338000.out) hb)
   have n3_:=AsZ.mk (Kd.S_below (by (with_reducible repeat (first|apply Kd.S_alloc|apply Kd.S_drewN|apply Kd.S_drew));exact HO_338001.out) hb)
   have n4_:=AsZ.mk (Kd.R_below (by (with_reducible repeat (first|apply Kd.R_alloc|apply Kd.R_drewN|apply Kd.R_drew));exact HO345.out) hb)
   have n5_:=AsZ.mk (Kd.S_below (by (with_reducible repeat (first|apply Kd.S_alloc|apply Kd.S_drewN|apply Kd.S_drew));exact HO348.out) hb)
   have n6_:=AsZ.mk (kb (g:=gb319) (o := .cells #[.slice A0_0 l0_0.length c0_0,.slice A0_1 l0_1.length c0_1] 43 (0,0)) (by (with_reducible repeat (first|refine kdN ?_ _|refine kd ?_|refine ka ?_ _));exact BK319.out) hb)
   have n7_:=AsZ.mk (kb (g:=gb337) (o := .cells #[.slice Ao24 t331.length co24,.slice Ao27 t334.length co27] 26 (0,0)) (by (with_reducible repeat (first|refine kdN ?_ _|refine kd ?_|refine ka ?_ _));exact BK337.out) hb)
   have n8_:=AsZ.mk (bwp (by repeat (first|(with_reducible first|exact HB.out|apply bwa|apply pbN|apply bw1|refine bws ?_ GE319.out|refine bws ?_ GE337.out)|exact HB.out)) hb)
   clear HO_6 HO_9 HO_338000 HO_338001 HO345 HO348 BK319 BK337 HB
   have HO_6:=n0_
   have HO_9:=n1_
   have HO_338000:=n2_
   have HO_338001:=n3_
   have HO345:=n4_
   have HO348:=n5_
   have BK319:=n6_
   have BK337:=n7_
   have HB:=n8_
   clear n0_ n1_ n2_ n3_ n4_ n5_ n6_ n7_ n8_
   (try clear hb)
   (try clear hb2)
   (try clear hk)
   (try clear hi)
   refine hK.out _ _ ⟨(kc BK337.out 0).trans rfl,(kc BK337.out 1).trans rfl,(kc BK319.out 0).trans rfl,(kc BK319.out 1).trans rfl⟩ (fun hHeld=>?_)
   clear hK K
   refine norm_ (a':=?_) ?_ ?_
   rotate_left
   · show Act.put _ (some 48) _=_
     simp only [Act.put,zS,zT,zU,i64_w,i32_w]
     rfl
   refine pure_ (i:=4) (N:=some 49) (v:=?_) (a':=?_) (b_ 5 0) rfl rfl (by kernel_rfl) (fun _ _ _ h=>h) (Or.inl ⟨by rfl,?_⟩) ?_ ?_
   rotate_left
   · intro w'
     go_simp
     with_reducible rfl
   rotate_left
   · simp only [Act.put,zS,zT,zU,i64_w,i32_w]
     rfl
   refine dn_ (by kernel_rfl) ?_
   have hnb48:=NB337_319.out
   have hnc48:=NB319_337.out
   have hcz49_0:w47.cell? ⟨gb337,0,none⟩=some (.slice Ao24 t331.length co24):=(kc BK337.out 0).trans rfl
   have hcz49_1:w47.cell? ⟨gb337,1,none⟩=some (.slice Ao27 t334.length co27):=(kc BK337.out 1).trans rfl
   have hfz49_0:=kf BK337.out 0
   have hfz49_1:=kf BK337.out 1
   go_upto_region 14 with (first|((with_reducible refine gcl (f:=23) rfl ?_);refine goesL_ (some 52) rfl rfl Tryd.func23 (by kernel_rfl) rfl #[.agg #[.slice Ao24 t331.length co24,.slice Ao27 t334.length co27],.int .i64 1] rfl (by (try simp only [zA,zC,zN]);first|done|rfl|(simp only [zM,zL];rfl)) ?_;(refine (laws_markSkip.calls kj11 (fun k_=>some k_=(.slice Ao24 t331.length co24:Value).ownBlock) _ _ _ t331 t334 1 t350 w _ (by repeat (first|(with_reducible first|exact HB.out|apply bwa|apply pbN|apply bw1)|exact HB.out)) (by (with_reducible repeat (first|apply Kd.R_alloc|apply Kd.R_drewN|apply Kd.R_drew));exact Kd.R_tight rfl HO_338000.out) HO_338001.out (fun k_ h1_ h0_=>h1_.1.1 h0_) A41.out).mono ?_);rintro e w50 ⟨b2_,c2_,rfl,hr_,hs_,hb,hk_⟩;refine ⟨_,rfl,?_⟩;have n0_:=AsZ.mk (laws_markSkip.other (by (with_reducible repeat (first|apply Kd.R_alloc|apply Kd.R_drewN|apply Kd.R_drew));exact HO_6.out) hk_);have n1_:=AsZ.mk (laws_markSkip.other (by (with_reducible repeat (first|apply Kd.R_alloc|apply Kd.R_drewN|apply Kd.R_drew));exact HO_9.out) hk_);have n2_:=AsZ.mk (Kd.R_mono hr_ (fun k_ h_=>(⟨trivial,fun e_=>h_.elim (fun e1_=>(HO_338000.out.1 k_ e1_.symm).2 e_) (fun h2_=>by have:=Kd.R_lt HO345.out k_ e_.symm;omega)⟩:True∧some k_ ≠ (.slice Ao45 t343.length co45:Value).ownBlock)));have n3_:=AsZ.mk (Kd.S_mono hs_ (fun k_ h_=>(h_.elim id (fun h2_=>⟨⟨fun e_=>(by have:=Kd.R_lt HO_338000.out k_ e_.symm;omega),fun e_=>(by have:=Kd.R_lt HO345.out k_ e_.symm;omega)⟩,fun e_=>(by have:=Kd.S_lt HO348.out k_ e_.symm;omega)⟩):(some k_ ≠ (.slice Ao24 t331.length co24:Value).ownBlock∧some k_ ≠ (.slice Ao45 t343.length co45:Value).ownBlock)∧some k_ ≠ (.slice Ao46 t346.length co46:Value).ownBlock)));have n4_:=AsZ.mk hr_;have n5_:=AsZ.mk hs_;have n6_:=AsZ.mk (laws_markSkip.blk (by (with_reducible repeat (first|refine kdN ?_ _|refine kd ?_|refine ka ?_ _));exact BK319.out) hk_ (by decide) (by decide));have n7_:=AsZ.mk (laws_markSkip.blk (by (with_reducible repeat (first|refine kdN ?_ _|refine kd ?_|refine ka ?_ _));exact BK337.out) hk_ (by decide) (by decide));have n8_:=AsZ.mk hb;clear HO_6;clear HO_9;clear HO_338000;clear HO_338001;clear HO345;clear HO348;clear BK319;clear BK337;clear HB;have HO_6:=n0_;have HO_9:=n1_;have HO_338000:=n2_;have HO_338001:=n3_;have HO345:=n4_;have HO348:=n5_;have BK319:=n6_;have BK337:=n7_;have HB:=n8_;clear n0_ n1_ n2_ n3_ n4_ n5_ n6_ n7_ n8_;(try clear hb);(try clear hr_);(try clear hs_);(try clear hk_);(try clear hb2);(try clear hk);(try clear hi)))
   (try simp only [Act.put,zS,zT,zU])
   go_cut [65] (fun v65 wc => ∃ (kq:Nat) (x65_41:Bool),v65 = .bool x65_41∧AsZ (laws_FnExactListSkip.j1 kq a1 t327 t330 t338 x65_41 l0_0 l0_1=some r)∧AsZ (kq≤kj11)∧AsZ (Kd.R k28 28 wc w.heap.size (fun k_=>some k_ ≠ (v339:Value).ownBlock) v328 t327)∧AsZ (Kd.R k28 28 wc w.heap.size (fun k_=>some k_ ≠ (v328:Value).ownBlock) v339 t338)∧AsZ (Kd.R (Kd.int .i64) 3 wc w.heap.size (fun _=>True) (.slice Ao24 t331.length co24) b2_)∧AsZ (Kd.S k77 77 wc w.heap.size (fun k_=>some k_ ≠ ((.slice Ao24 t331.length co24):Value).ownBlock) (.slice Ao27 t334.length co27) c2_)∧AsZ (wc.heap[gb319]? = some (.cells #[(.slice A0_0 l0_0.length c0_0),(.slice A0_1 l0_1.length c0_1)] 43 (0,0)))∧AsZ (wc.heap[gb337]? = some (.cells #[(.slice Ao24 t331.length co24),(.slice Ao27 t334.length co27)] 26 (0,0)))∧AsZ (Below w.heap.size w wc))
   case first =>
    have H:=HC42.out
    clear HC42
    by_cases c51:t350 < 0
    · rw [if_pos c51] at H
      have c51b0:decide (t350 < 0)=true:=zE c51
      clear c51
      (first|rw [c51b0]|(simp only [i64_w,i32_w];rw [c51b0])|rw [c51b1]|skip)
      have H':=AsZ.mk H
      clear H
      go_wp2
      go_meet
      case rel=>exact ⟨_,(true),(by first|rfl|(simp;done)|(simp [*];done)),H',⟨by have:=HJ11.out;first|omega|exact Nat.le_refl _⟩,⟨by (with_reducible repeat (first|apply Kd.R_alloc|apply Kd.R_drewN|apply Kd.R_drew));exact HO_6.out⟩,⟨by (with_reducible repeat (first|apply Kd.R_alloc|apply Kd.R_drewN|apply Kd.R_drew));exact HO_9.out⟩,⟨by (with_reducible repeat (first|apply Kd.R_alloc|apply Kd.R_drewN|apply Kd.R_drew));exact Kd.R_mono HO_338000.out (fun _ hk=>trivial)⟩,⟨by (with_reducible repeat (first|apply Kd.S_alloc|apply Kd.S_drewN|apply Kd.S_drew));exact Kd.S_mono HO_338001.out (fun _ hk=>hk.1.1)⟩,⟨by (with_reducible repeat (first|refine kdN ?_ _|refine kd ?_|refine ka ?_ _));exact BK319.out⟩,⟨by (with_reducible repeat (first|refine kdN ?_ _|refine kd ?_|refine ka ?_ _));exact BK337.out⟩,⟨by repeat (first|(with_reducible first|exact HB.out|apply bwa|apply pbN|apply bw1|refine bws ?_ GE319.out|refine bws ?_ GE337.out)|exact HB.out)⟩⟩
    rw [if_neg c51] at H
    have c51b0:decide (t350 < 0)=false:=decide_eq_false c51
    clear c51
    (first|rw [c51b0]|(simp only [i64_w,i32_w];rw [c51b0])|rw [c51b1]|skip)
    replace H:=Option.bind_eq_some_iff.mp H
    obtain ⟨t351,A520,H⟩:=H
    replace H:(if t351=true then (laws_FnExactListSkip.j1 kj11 a1 t327 t330 t338 (t341 != t330) l0_0 l0_1) else (laws_FnExactListSkip.j1 kj11 a1 t327 t330 t338 true l0_0 l0_1))=some r:=H
    have A52:=AsZ.mk A520
    clear A520
    by_cases c53:t351=true
    · subst c53
      have H1:(laws_FnExactListSkip.j1 kj11 a1 t327 t330 t338 (t341 != t330) l0_0 l0_1)=some r:=by rw [if_pos rfl] at H;exact H
      clear H
      have H:=H1
      clear H1
      have H':=AsZ.mk H
      clear H
      obtain ⟨Ao54,co54,eo54⟩:=Kd.R_slice HO_9.out
      subst eo54
      obtain ⟨Ao55,co55,eo55⟩:=Kd.R_slice HO_6.out
      subst eo55
      go_wp2_with (first|(go_at_call 21;(with_reducible refine (laws_eqItemS.calls kj11 _ _ t338 _ _ t327 true _ ?side1 ?side2 ?side3 ?side4 A52.out).mono ?_);(case side1=>repeat (first|exact (Kd.R_reads' HO_9.out).2.2|(with_reducible refine Kd.C_alloc ?_ _)|(with_reducible refine Kd.C_drewN ?_ _)|(with_reducible refine Kd.C_drew ?_)));(case side2=>exact (Kd.R_reads' HO_9.out).2.1);(case side3=>repeat (first|exact (Kd.R_reads' HO_6.out).2.2|(with_reducible refine Kd.C_alloc ?_ _)|(with_reducible refine Kd.C_drewN ?_ _)|(with_reducible refine Kd.C_drew ?_)));(case side4=>exact (Kd.R_reads' HO_6.out).2.1);rintro e w56 ⟨rfl,hb⟩;have n0_:=AsZ.mk (Kd.R_below (by (with_reducible repeat (first|apply Kd.R_alloc|apply Kd.R_drewN|apply Kd.R_drew));exact HO_6.out) hb);have n1_:=AsZ.mk (Kd.R_below (by (with_reducible repeat (first|apply Kd.R_alloc|apply Kd.R_drewN|apply Kd.R_drew));exact HO_9.out) hb);have n2_:=AsZ.mk (Kd.R_below (by (with_reducible repeat (first|apply Kd.R_alloc|apply Kd.R_drewN|apply Kd.R_drew));exact HO_338000.out) hb);have n3_:=AsZ.mk (Kd.S_below (by (with_reducible repeat (first|apply Kd.S_alloc|apply Kd.S_drewN|apply Kd.S_drew));exact HO_338001.out) hb);have n4_:=AsZ.mk (Kd.R_below (by (with_reducible repeat (first|apply Kd.R_alloc|apply Kd.R_drewN|apply Kd.R_drew));exact HO345.out) hb);have n5_:=AsZ.mk (Kd.S_below (by (with_reducible repeat (first|apply Kd.S_alloc|apply Kd.S_drewN|apply Kd.S_drew));exact HO348.out) hb);have n6_:=AsZ.mk (kb (g:=gb319) (o := .cells #[.slice A0_0 l0_0.length c0_0,.slice A0_1 l0_1.length c0_1] 43 (0,0)) (by (with_reducible repeat (first|refine kdN ?_ _|refine kd ?_|refine ka ?_ _));exact BK319.out) hb);have n7_:=AsZ.mk (kb (g:=gb337) (o := .cells #[.slice Ao24 t331.length co24,.slice Ao27 t334.length co27] 26 (0,0)) (by (with_reducible repeat (first|refine kdN ?_ _|refine kd ?_|refine ka ?_ _));exact BK337.out) hb);have n8_:=AsZ.mk (bwp (by repeat (first|(with_reducible first|exact HB.out|apply bwa|apply pbN|apply bw1|refine bws ?_ GE319.out|refine bws ?_ GE337.out)|exact HB.out)) hb);clear HO_6;clear HO_9;clear HO_338000;clear HO_338001;clear HO345;clear HO348;clear BK319;clear BK337;clear HB;have HO_6:=n0_;have HO_9:=n1_;have HO_338000:=n2_;have HO_338001:=n3_;have HO345:=n4_;have HO348:=n5_;have BK319:=n6_;have BK337:=n7_;have HB:=n8_;clear n0_ n1_ n2_ n3_ n4_ n5_ n6_ n7_ n8_;(try clear hb);(try clear hb2);(try clear hk);(try clear hi)))
      go_meet
      case rel=>exact ⟨_,((t341 != t330)),(by first|rfl|(simp;done)|(simp [*];done)),H',⟨by have:=HJ11.out;first|omega|exact Nat.le_refl _⟩,⟨by (with_reducible repeat (first|apply Kd.R_alloc|apply Kd.R_drewN|apply Kd.R_drew));exact HO_6.out⟩,⟨by (with_reducible repeat (first|apply Kd.R_alloc|apply Kd.R_drewN|apply Kd.R_drew));exact HO_9.out⟩,⟨by (with_reducible repeat (first|apply Kd.R_alloc|apply Kd.R_drewN|apply Kd.R_drew));exact Kd.R_mono HO_338000.out (fun _ hk=>trivial)⟩,⟨by (with_reducible repeat (first|apply Kd.S_alloc|apply Kd.S_drewN|apply Kd.S_drew));exact Kd.S_mono HO_338001.out (fun _ hk=>hk.1.1)⟩,⟨by (with_reducible repeat (first|refine kdN ?_ _|refine kd ?_|refine ka ?_ _));exact BK319.out⟩,⟨by (with_reducible repeat (first|refine kdN ?_ _|refine kd ?_|refine ka ?_ _));exact BK337.out⟩,⟨by repeat (first|(with_reducible first|exact HB.out|apply bwa|apply pbN|apply bw1|refine bws ?_ GE319.out|refine bws ?_ GE337.out)|exact HB.out)⟩⟩
    replace c53:=Bool.eq_false_iff.mpr c53
    subst c53
    have H1:(laws_FnExactListSkip.j1 kj11 a1 t327 t330 t338 true l0_0 l0_1)=some r:=by rw [if_neg (show ¬ (false=true) by decide)] at H;exact H
    clear H
    have H:=H1
    clear H1
    have H':=AsZ.mk H
    clear H
    obtain ⟨Ao57,co57,eo57⟩:=Kd.R_slice HO_9.out
    subst eo57
    obtain ⟨Ao58,co58,eo58⟩:=Kd.R_slice HO_6.out
    subst eo58
    go_wp2_with (first|(go_at_call 21;(with_reducible refine (laws_eqItemS.calls kj11 _ _ t338 _ _ t327 false _ ?side1 ?side2 ?side3 ?side4 A52.out).mono ?_);(case side1=>repeat (first|exact (Kd.R_reads' HO_9.out).2.2|(with_reducible refine Kd.C_alloc ?_ _)|(with_reducible refine Kd.C_drewN ?_ _)|(with_reducible refine Kd.C_drew ?_)));(case side2=>exact (Kd.R_reads' HO_9.out).2.1);(case side3=>repeat (first|exact (Kd.R_reads' HO_6.out).2.2|(with_reducible refine Kd.C_alloc ?_ _)|(with_reducible refine Kd.C_drewN ?_ _)|(with_reducible refine Kd.C_drew ?_)));(case side4=>exact (Kd.R_reads' HO_6.out).2.1);rintro e w59 ⟨rfl,hb⟩;have n0_:=AsZ.mk (Kd.R_below (by (with_reducible repeat (first|apply Kd.R_alloc|apply Kd.R_drewN|apply Kd.R_drew));exact HO_6.out) hb);have n1_:=AsZ.mk (Kd.R_below (by (with_reducible repeat (first|apply Kd.R_alloc|apply Kd.R_drewN|apply Kd.R_drew));exact HO_9.out) hb);have n2_:=AsZ.mk (Kd.R_below (by (with_reducible repeat (first|apply Kd.R_alloc|apply Kd.R_drewN|apply Kd.R_drew));exact HO_338000.out) hb);have n3_:=AsZ.mk (Kd.S_below (by (with_reducible repeat (first|apply Kd.S_alloc|apply Kd.S_drewN|apply Kd.S_drew));exact HO_338001.out) hb);have n4_:=AsZ.mk (Kd.R_below (by (with_reducible repeat (first|apply Kd.R_alloc|apply Kd.R_drewN|apply Kd.R_drew));exact HO345.out) hb);have n5_:=AsZ.mk (Kd.S_below (by (with_reducible repeat (first|apply Kd.S_alloc|apply Kd.S_drewN|apply Kd.S_drew));exact HO348.out) hb);have n6_:=AsZ.mk (kb (g:=gb319) (o := .cells #[.slice A0_0 l0_0.length c0_0,.slice A0_1 l0_1.length c0_1] 43 (0,0)) (by (with_reducible repeat (first|refine kdN ?_ _|refine kd ?_|refine ka ?_ _));exact BK319.out) hb);have n7_:=AsZ.mk (kb (g:=gb337) (o := .cells #[.slice Ao24 t331.length co24,.slice Ao27 t334.length co27] 26 (0,0)) (by (with_reducible repeat (first|refine kdN ?_ _|refine kd ?_|refine ka ?_ _));exact BK337.out) hb);have n8_:=AsZ.mk (bwp (by repeat (first|(with_reducible first|exact HB.out|apply bwa|apply pbN|apply bw1|refine bws ?_ GE319.out|refine bws ?_ GE337.out)|exact HB.out)) hb);clear HO_6;clear HO_9;clear HO_338000;clear HO_338001;clear HO345;clear HO348;clear BK319;clear BK337;clear HB;have HO_6:=n0_;have HO_9:=n1_;have HO_338000:=n2_;have HO_338001:=n3_;have HO345:=n4_;have HO348:=n5_;have BK319:=n6_;have BK337:=n7_;have HB:=n8_;clear n0_ n1_ n2_ n3_ n4_ n5_ n6_ n7_ n8_;(try clear hb);(try clear hb2);(try clear hk);(try clear hi)))
    go_meet
    case rel=>exact ⟨_,(true),(by first|rfl|(simp;done)|(simp [*];done)),H',⟨by have:=HJ11.out;first|omega|exact Nat.le_refl _⟩,⟨by (with_reducible repeat (first|apply Kd.R_alloc|apply Kd.R_drewN|apply Kd.R_drew));exact HO_6.out⟩,⟨by (with_reducible repeat (first|apply Kd.R_alloc|apply Kd.R_drewN|apply Kd.R_drew));exact HO_9.out⟩,⟨by (with_reducible repeat (first|apply Kd.R_alloc|apply Kd.R_drewN|apply Kd.R_drew));exact Kd.R_mono HO_338000.out (fun _ hk=>trivial)⟩,⟨by (with_reducible repeat (first|apply Kd.S_alloc|apply Kd.S_drewN|apply Kd.S_drew));exact Kd.S_mono HO_338001.out (fun _ hk=>hk.1.1)⟩,⟨by (with_reducible repeat (first|refine kdN ?_ _|refine kd ?_|refine ka ?_ _));exact BK319.out⟩,⟨by (with_reducible repeat (first|refine kdN ?_ _|refine kd ?_|refine ka ?_ _));exact BK337.out⟩,⟨by repeat (first|(with_reducible first|exact HB.out|apply bwa|apply pbN|apply bw1|refine bws ?_ GE319.out|refine bws ?_ GE337.out)|exact HB.out)⟩⟩
   case rest =>
    clear HC42
    try clear c1
    try clear c2
    try clear p2
    try clear c3
    try clear c4
    try clear c4b0
    try clear c5
    try clear c14
    try clear c18
    try clear c19
    try clear c20
    try clear c21
    try clear c22
    try clear c23
    try clear c25
    try clear c30
    try clear c37
    try clear c40
    try clear c48
    try clear c51
    try clear c51b0
    try clear c51b1
    try clear c53
    try clear hcz14_0
    try clear hcz14_1
    try clear hcz16_0
    try clear hcz16_1
    try clear hcz21_0
    try clear hcz21_1
    try clear hcz26_0
    try clear hcz26_1
    try clear hcz49_0
    try clear hcz49_1
    try clear hcz6_0
    try clear hcz6_1
    try clear hfz14_0
    try clear hfz14_1
    try clear hfz16_0
    try clear hfz16_1
    try clear hfz21_0
    try clear hfz21_1
    try clear hfz26_0
    try clear hfz26_1
    try clear hfz49_0
    try clear hfz49_1
    try clear hfz6_0
    try clear hfz6_1
    try clear p2
    obtain ⟨kq,x65_41,rfl,HA,HJ41,HO_6,HO_9,HO_338000,HO_338001,BK319,BK337,HB⟩:=hcut
    cases kq with
    |zero=>exact absurd HA.out (by simp [laws_FnExactListSkip.j1])
    |succ kj41 =>
     have H:=HA.out
     clear HA
     simp only [laws_FnExactListSkip.j1] at H
     by_cases c60:x65_41=true
     · subst c60
       have H1:(some false)=some r:=by rw [if_pos rfl] at H;exact H
       clear H
       have H:=H1
       clear H1
       obtain rfl:=zI H
       go_wp2
       go_ret
       exact ⟨by first|rfl|(simp [errW_none,errW_some]<;>rfl)|(simp [*,errW_none,errW_some]<;>rfl),by repeat (first|(with_reducible first|exact HB.out|apply bwa|apply pbN|apply bw1|refine bws ?_ GE319.out|refine bws ?_ GE337.out)|exact HB.out)⟩
     replace c60:=Bool.eq_false_iff.mpr c60
     subst c60
     have H1:((laws_markItemS.f kj41 t338 1).bind fun bt352=>((laws_heldItemS.f kj41 bt352.2 1).bind fun t354=>(if t354 < 0 then (some false) else (if t354=bt352.1 then ((laws_toSkip.f kj41 l0_0 l0_1).bind fun bt355=>((impl_ListSkip.f kj41 bt355.1 bt355.2 a1).bind fun bt361=>((laws_eqItemS.f kj41 bt361.1 t327).bind fun t365=>(if t365=true then (laws_FnExactListSkip.j2 kj41 bt352.2 bt352.1 (bt361.2 != t330)) else (laws_FnExactListSkip.j2 kj41 bt352.2 bt352.1 true))))) else (some false)))))=some r:=by rw [if_neg (show ¬ (false=true) by decide)] at H;exact H
     clear H
     have H:=H1
     clear H1
     replace H:=Option.bind_eq_some_iff.mp H
     obtain ⟨⟨t352,t353⟩,A610,H⟩:=H
     replace H:((laws_heldItemS.f kj41 t353 1).bind fun t354=>(if t354 < 0 then (some false) else (if t354=t352 then ((laws_toSkip.f kj41 l0_0 l0_1).bind fun bt355=>((impl_ListSkip.f kj41 bt355.1 bt355.2 a1).bind fun bt361=>((laws_eqItemS.f kj41 bt361.1 t327).bind fun t365=>(if t365=true then (laws_FnExactListSkip.j2 kj41 t353 t352 (bt361.2 != t330)) else (laws_FnExactListSkip.j2 kj41 t353 t352 true))))) else (some false))))=some r:=H
     have A61:=AsZ.mk A610
     clear A610
     replace H:=Option.bind_eq_some_iff.mp H
     obtain ⟨t354,A620,H⟩:=H
     replace H:(if t354 < 0 then (some false) else (if t354=t352 then ((laws_toSkip.f kj41 l0_0 l0_1).bind fun bt355=>((impl_ListSkip.f kj41 bt355.1 bt355.2 a1).bind fun bt361=>((laws_eqItemS.f kj41 bt361.1 t327).bind fun t365=>(if t365=true then (laws_FnExactListSkip.j2 kj41 t353 t352 (bt361.2 != t330)) else (laws_FnExactListSkip.j2 kj41 t353 t352 true))))) else (some false)))=some r:=H
     have A62:=AsZ.mk A620
     clear A620
     by_cases c63:t354 < 0
     · rw [if_pos c63] at H
       have c63b0:decide (t354 < 0)=true:=zE c63
       clear c63
       obtain rfl:=zI H
       obtain ⟨Ao64,co64,eo64⟩:=Kd.R_slice HO_9.out
       subst eo64
       go_wp2_with (first|((with_reducible refine gcl (f:=24) rfl ?_);refine goesL_ (some 68) rfl rfl Tryd.func24 (by kernel_rfl) rfl #[.slice Ao64 t338.length co64,.int .i64 1] rfl (by (try simp only [zA,zC,zN]);first|done|rfl|(simp only [zM,zL];rfl)) ?_;(with_reducible refine (laws_markItemS.calls kj41 (fun k_=>some k_=(.slice Ao64 t338.length co64:Value).ownBlock) (.slice Ao64 t338.length co64) t338 1 t352 t353 w _ ?side1 ?side2 A61.out).mono ?_);(case side1=>repeat (first|(with_reducible first|exact HB.out|apply bwa|apply pbN|apply bw1|refine bws ?_ GE319.out|refine bws ?_ GE337.out)|exact HB.out));(case side2=>exact Kd.R_tight rfl HO_9.out);rintro e w65 ⟨rfl,hy0,hb,hkp⟩;refine ⟨_,rfl,?_⟩;have n0_:=AsZ.mk (Kd.R_mono (ok':=fun k_=>some k_ ≠ (.slice Ao64 t338.length co64:Value).ownBlock) (Kd.R_keptB (HO_6.out) hkp (fun k_ hk_ hs_=>(hk_) hs_)) (fun k_ hk_=>hk_.1));have n1_:=AsZ.mk (Kd.R_reok rfl hy0 (fun k_ e_=>HO_9.out.1 k_ e_));have n2_:=AsZ.mk (Kd.R_mono (ok':=fun k_=>True) (Kd.R_keptB ((Kd.R_apart' HO_338000.out (Kd.R_typed HO_9.out) (by decide))) hkp (fun k_ hk_ hs_=>(hk_.2) hs_)) (fun k_ hk_=>trivial));have n3_:=AsZ.mk (Kd.S_mono (ok':=fun k_=>some k_ ≠ (.slice Ao24 t331.length co24:Value).ownBlock) (Kd.S_keptB ((Kd.S_apart' HO_338001.out (Kd.R_typed HO_9.out) (by decide))) hkp (fun k_ hk_ hs_=>(hk_.2) hs_)) (fun k_ hk_=>hk_.1.1));have n4_:=AsZ.mk (blk_kept (by (with_reducible repeat (first|refine kdN ?_ _|refine kd ?_|refine ka ?_ _));exact BK319.out) hkp (fun hs_=>(fun e_=>(Kd.R_ne HO_9.out BK319.out (by decide)) e_) hs_));have n5_:=AsZ.mk (blk_kept (by (with_reducible repeat (first|refine kdN ?_ _|refine kd ?_|refine ka ?_ _));exact BK337.out) hkp (fun hs_=>(fun e_=>(Kd.R_ne HO_9.out BK337.out (by decide)) e_) hs_));have n6_:=AsZ.mk (hb);clear HO_6;clear HO_9;clear HO_338000;clear HO_338001;clear BK319;clear BK337;clear HB;have HO_6:=n0_;have HO_9:=n1_;have HO_338000:=n2_;have HO_338001:=n3_;have BK319:=n4_;have BK337:=n5_;have HB:=n6_;clear n0_ n1_ n2_ n3_ n4_ n5_ n6_;(try clear hb);(try clear hkp);(try clear hy0))|((with_reducible refine gcl (f:=25) rfl ?_);refine goesL_ (some 71) rfl rfl Tryd.func25 (by kernel_rfl) rfl #[.slice Ao64 t353.length co64,.int .i64 1] rfl (by (try simp only [zA,zC,zN]);first|done|(rw [show t353.length=t338.length from (Kd.R_reads' HO_9.out).1.symm]<;>rfl)|rfl|(simp only [zM,zL];rfl)) ?_;(with_reducible refine (laws_heldItemS.calls kj41 _ _ t353 1 t354 _ ?side1 ?side2 A62.out).mono ?_);(case side1=>repeat (first|exact (Kd.R_reads' HO_9.out).2.2|(with_reducible refine Kd.C_alloc ?_ _)|(with_reducible refine Kd.C_drewN ?_ _)|(with_reducible refine Kd.C_drew ?_)));(case side2=>rw [show t353.length=t338.length from (Kd.R_reads' HO_9.out).1.symm];exact (Kd.R_reads' HO_9.out).2.1);rintro e w66 ⟨rfl,hb⟩;refine ⟨_,rfl,?_⟩;have n0_:=AsZ.mk (Kd.R_below (by (with_reducible repeat (first|apply Kd.R_alloc|apply Kd.R_drewN|apply Kd.R_drew));exact HO_6.out) hb);have n1_:=AsZ.mk (Kd.R_below (by (with_reducible repeat (first|apply Kd.R_alloc|apply Kd.R_drewN|apply Kd.R_drew));exact HO_9.out) hb);have n2_:=AsZ.mk (Kd.R_below (by (with_reducible repeat (first|apply Kd.R_alloc|apply Kd.R_drewN|apply Kd.R_drew));exact HO_338000.out) hb);have n3_:=AsZ.mk (Kd.S_below (by (with_reducible repeat (first|apply Kd.S_alloc|apply Kd.S_drewN|apply Kd.S_drew));exact HO_338001.out) hb);have n4_:=AsZ.mk (kb (g:=gb319) (o := .cells #[.slice A0_0 l0_0.length c0_0,.slice A0_1 l0_1.length c0_1] 43 (0,0)) (by (with_reducible repeat (first|refine kdN ?_ _|refine kd ?_|refine ka ?_ _));exact BK319.out) hb);have n5_:=AsZ.mk (kb (g:=gb337) (o := .cells #[.slice Ao24 t331.length co24,.slice Ao27 t334.length co27] 26 (0,0)) (by (with_reducible repeat (first|refine kdN ?_ _|refine kd ?_|refine ka ?_ _));exact BK337.out) hb);have n6_:=AsZ.mk (bwp (by repeat (first|(with_reducible first|exact HB.out|apply bwa|apply pbN|apply bw1|refine bws ?_ GE319.out|refine bws ?_ GE337.out)|exact HB.out)) hb);clear HO_6;clear HO_9;clear HO_338000;clear HO_338001;clear BK319;clear BK337;clear HB;have HO_6:=n0_;have HO_9:=n1_;have HO_338000:=n2_;have HO_338001:=n3_;have BK319:=n4_;have BK337:=n5_;have HB:=n6_;clear n0_ n1_ n2_ n3_ n4_ n5_ n6_;(try clear hb);(try clear hb2);(try clear hk);(try clear hi)))
       go_ret
       exact ⟨by first|rfl|(simp [errW_none,errW_some]<;>rfl)|(simp [*,errW_none,errW_some]<;>rfl),by repeat (first|(with_reducible first|exact HB.out|apply bwa|apply pbN|apply bw1|refine bws ?_ GE319.out|refine bws ?_ GE337.out)|exact HB.out)⟩
     rw [if_neg c63] at H
     have c63b0:decide (t354 < 0)=false:=decide_eq_false c63
     clear c63
     by_cases c67:t354=t352
     rotate_left
     · rw [if_neg c67] at H
       have c67b0:(t354 == t352)=false:=beq_eq_false_iff_ne.mpr c67
       have c67b1:(t354 != t352)=true:=bne_iff_ne.mpr c67
       obtain rfl:=zI H
       obtain ⟨Ao95,co95,eo95⟩:=Kd.R_slice HO_9.out
       subst eo95
       go_wp2_with (first|((with_reducible refine gcl (f:=24) rfl ?_);refine goesL_ (some 68) rfl rfl Tryd.func24 (by kernel_rfl) rfl #[.slice Ao95 t338.length co95,.int .i64 1] rfl (by (try simp only [zA,zC,zN]);first|done|rfl|(simp only [zM,zL];rfl)) ?_;(with_reducible refine (laws_markItemS.calls kj41 (fun k_=>some k_=(.slice Ao95 t338.length co95:Value).ownBlock) (.slice Ao95 t338.length co95) t338 1 t352 t353 w _ ?side1 ?side2 A61.out).mono ?_);(case side1=>repeat (first|(with_reducible first|exact HB.out|apply bwa|apply pbN|apply bw1|refine bws ?_ GE319.out|refine bws ?_ GE337.out)|exact HB.out));(case side2=>exact Kd.R_tight rfl HO_9.out);rintro e w96 ⟨rfl,hy0,hb,hkp⟩;refine ⟨_,rfl,?_⟩;have n0_:=AsZ.mk (Kd.R_mono (ok':=fun k_=>some k_ ≠ (.slice Ao95 t338.length co95:Value).ownBlock) (Kd.R_keptB (HO_6.out) hkp (fun k_ hk_ hs_=>(hk_) hs_)) (fun k_ hk_=>hk_.1));have n1_:=AsZ.mk (Kd.R_reok rfl hy0 (fun k_ e_=>HO_9.out.1 k_ e_));have n2_:=AsZ.mk (Kd.R_mono (ok':=fun k_=>True) (Kd.R_keptB ((Kd.R_apart' HO_338000.out (Kd.R_typed HO_9.out) (by decide))) hkp (fun k_ hk_ hs_=>(hk_.2) hs_)) (fun k_ hk_=>trivial));have n3_:=AsZ.mk (Kd.S_mono (ok':=fun k_=>some k_ ≠ (.slice Ao24 t331.length co24:Value).ownBlock) (Kd.S_keptB ((Kd.S_apart' HO_338001.out (Kd.R_typed HO_9.out) (by decide))) hkp (fun k_ hk_ hs_=>(hk_.2) hs_)) (fun k_ hk_=>hk_.1.1));have n4_:=AsZ.mk (blk_kept (by (with_reducible repeat (first|refine kdN ?_ _|refine kd ?_|refine ka ?_ _));exact BK319.out) hkp (fun hs_=>(fun e_=>(Kd.R_ne HO_9.out BK319.out (by decide)) e_) hs_));have n5_:=AsZ.mk (blk_kept (by (with_reducible repeat (first|refine kdN ?_ _|refine kd ?_|refine ka ?_ _));exact BK337.out) hkp (fun hs_=>(fun e_=>(Kd.R_ne HO_9.out BK337.out (by decide)) e_) hs_));have n6_:=AsZ.mk (hb);clear HO_6;clear HO_9;clear HO_338000;clear HO_338001;clear BK319;clear BK337;clear HB;have HO_6:=n0_;have HO_9:=n1_;have HO_338000:=n2_;have HO_338001:=n3_;have BK319:=n4_;have BK337:=n5_;have HB:=n6_;clear n0_ n1_ n2_ n3_ n4_ n5_ n6_;(try clear hb);(try clear hkp);(try clear hy0))|((with_reducible refine gcl (f:=25) rfl ?_);refine goesL_ (some 71) rfl rfl Tryd.func25 (by kernel_rfl) rfl #[.slice Ao95 t353.length co95,.int .i64 1] rfl (by (try simp only [zA,zC,zN]);first|done|(rw [show t353.length=t338.length from (Kd.R_reads' HO_9.out).1.symm]<;>rfl)|rfl|(simp only [zM,zL];rfl)) ?_;(with_reducible refine (laws_heldItemS.calls kj41 _ _ t353 1 t354 _ ?side1 ?side2 A62.out).mono ?_);(case side1=>repeat (first|exact (Kd.R_reads' HO_9.out).2.2|(with_reducible refine Kd.C_alloc ?_ _)|(with_reducible refine Kd.C_drewN ?_ _)|(with_reducible refine Kd.C_drew ?_)));(case side2=>rw [show t353.length=t338.length from (Kd.R_reads' HO_9.out).1.symm];exact (Kd.R_reads' HO_9.out).2.1);rintro e w97 ⟨rfl,hb⟩;refine ⟨_,rfl,?_⟩;have n0_:=AsZ.mk (Kd.R_below (by (with_reducible repeat (first|apply Kd.R_alloc|apply Kd.R_drewN|apply Kd.R_drew));exact HO_6.out) hb);have n1_:=AsZ.mk (Kd.R_below (by (with_reducible repeat (first|apply Kd.R_alloc|apply Kd.R_drewN|apply Kd.R_drew));exact HO_9.out) hb);have n2_:=AsZ.mk (Kd.R_below (by (with_reducible repeat (first|apply Kd.R_alloc|apply Kd.R_drewN|apply Kd.R_drew));exact HO_338000.out) hb);have n3_:=AsZ.mk (Kd.S_below (by (with_reducible repeat (first|apply Kd.S_alloc|apply Kd.S_drewN|apply Kd.S_drew));exact HO_338001.out) hb);have n4_:=AsZ.mk (kb (g:=gb319) (o := .cells #[.slice A0_0 l0_0.length c0_0,.slice A0_1 l0_1.length c0_1] 43 (0,0)) (by (with_reducible repeat (first|refine kdN ?_ _|refine kd ?_|refine ka ?_ _));exact BK319.out) hb);have n5_:=AsZ.mk (kb (g:=gb337) (o := .cells #[.slice Ao24 t331.length co24,.slice Ao27 t334.length co27] 26 (0,0)) (by (with_reducible repeat (first|refine kdN ?_ _|refine kd ?_|refine ka ?_ _));exact BK337.out) hb);have n6_:=AsZ.mk (bwp (by repeat (first|(with_reducible first|exact HB.out|apply bwa|apply pbN|apply bw1|refine bws ?_ GE319.out|refine bws ?_ GE337.out)|exact HB.out)) hb);clear HO_6;clear HO_9;clear HO_338000;clear HO_338001;clear BK319;clear BK337;clear HB;have HO_6:=n0_;have HO_9:=n1_;have HO_338000:=n2_;have HO_338001:=n3_;have BK319:=n4_;have BK337:=n5_;have HB:=n6_;clear n0_ n1_ n2_ n3_ n4_ n5_ n6_;(try clear hb);(try clear hb2);(try clear hk);(try clear hi)))
       go_ret
       exact ⟨by first|rfl|(simp [errW_none,errW_some]<;>rfl)|(simp [*,errW_none,errW_some]<;>rfl),by repeat (first|(with_reducible first|exact HB.out|apply bwa|apply pbN|apply bw1|refine bws ?_ GE319.out|refine bws ?_ GE337.out)|exact HB.out)⟩
     rw [if_pos c67] at H
     have c67b0:(t354 == t352)=true:=beq_iff_eq.mpr c67
     have c67b1:(t354 != t352)=false:=bne_eq_false_iff_eq.mpr c67
     clear c67
     replace H:=Option.bind_eq_some_iff.mp H
     obtain ⟨⟨t355,t358⟩,A680,H⟩:=H
     replace H:((impl_ListSkip.f kj41 t355 t358 a1).bind fun bt361=>((laws_eqItemS.f kj41 bt361.1 t327).bind fun t365=>(if t365=true then (laws_FnExactListSkip.j2 kj41 t353 t352 (bt361.2 != t330)) else (laws_FnExactListSkip.j2 kj41 t353 t352 true))))=some r:=H
     have A68:=AsZ.mk A680
     clear A680
     replace H:=Option.bind_eq_some_iff.mp H
     obtain ⟨⟨t361,t364⟩,A690,H⟩:=H
     replace H:((laws_eqItemS.f kj41 t361 t327).bind fun t365=>(if t365=true then (laws_FnExactListSkip.j2 kj41 t353 t352 (t364 != t330)) else (laws_FnExactListSkip.j2 kj41 t353 t352 true)))=some r:=H
     have A69:=AsZ.mk A690
     clear A690
     have HC70:=AsZ.mk H
     clear H
     obtain ⟨Ao71,co71,eo71⟩:=Kd.R_slice HO_9.out
     subst eo71
     go_upto_region 25 with (first|((with_reducible refine gcl (f:=24) rfl ?_);refine goesL_ (some 68) rfl rfl Tryd.func24 (by kernel_rfl) rfl #[.slice Ao71 t338.length co71,.int .i64 1] rfl (by (try simp only [zA,zC,zN]);first|done|rfl|(simp only [zM,zL];rfl)) ?_;(with_reducible refine (laws_markItemS.calls kj41 (fun k_=>some k_=(.slice Ao71 t338.length co71:Value).ownBlock) (.slice Ao71 t338.length co71) t338 1 t352 t353 w _ ?side1 ?side2 A61.out).mono ?_);(case side1=>repeat (first|(with_reducible first|exact HB.out|apply bwa|apply pbN|apply bw1|refine bws ?_ GE319.out|refine bws ?_ GE337.out)|exact HB.out));(case side2=>exact Kd.R_tight rfl HO_9.out);rintro e w72 ⟨rfl,hy0,hb,hkp⟩;refine ⟨_,rfl,?_⟩;have n0_:=AsZ.mk (Kd.R_mono (ok':=fun k_=>some k_ ≠ (.slice Ao71 t338.length co71:Value).ownBlock) (Kd.R_keptB (HO_6.out) hkp (fun k_ hk_ hs_=>(hk_) hs_)) (fun k_ hk_=>hk_.1));have n1_:=AsZ.mk (Kd.R_reok rfl hy0 (fun k_ e_=>HO_9.out.1 k_ e_));have n2_:=AsZ.mk (Kd.R_mono (ok':=fun k_=>True) (Kd.R_keptB ((Kd.R_apart' HO_338000.out (Kd.R_typed HO_9.out) (by decide))) hkp (fun k_ hk_ hs_=>(hk_.2) hs_)) (fun k_ hk_=>trivial));have n3_:=AsZ.mk (Kd.S_mono (ok':=fun k_=>some k_ ≠ (.slice Ao24 t331.length co24:Value).ownBlock) (Kd.S_keptB ((Kd.S_apart' HO_338001.out (Kd.R_typed HO_9.out) (by decide))) hkp (fun k_ hk_ hs_=>(hk_.2) hs_)) (fun k_ hk_=>hk_.1.1));have n4_:=AsZ.mk (blk_kept (by (with_reducible repeat (first|refine kdN ?_ _|refine kd ?_|refine ka ?_ _));exact BK319.out) hkp (fun hs_=>(fun e_=>(Kd.R_ne HO_9.out BK319.out (by decide)) e_) hs_));have n5_:=AsZ.mk (blk_kept (by (with_reducible repeat (first|refine kdN ?_ _|refine kd ?_|refine ka ?_ _));exact BK337.out) hkp (fun hs_=>(fun e_=>(Kd.R_ne HO_9.out BK337.out (by decide)) e_) hs_));have n6_:=AsZ.mk (hb);clear HO_6;clear HO_9;clear HO_338000;clear HO_338001;clear BK319;clear BK337;clear HB;have HO_6:=n0_;have HO_9:=n1_;have HO_338000:=n2_;have HO_338001:=n3_;have BK319:=n4_;have BK337:=n5_;have HB:=n6_;clear n0_ n1_ n2_ n3_ n4_ n5_ n6_;(try clear hb);(try clear hkp);(try clear hy0))|((with_reducible refine gcl (f:=25) rfl ?_);refine goesL_ (some 71) rfl rfl Tryd.func25 (by kernel_rfl) rfl #[.slice Ao71 t353.length co71,.int .i64 1] rfl (by (try simp only [zA,zC,zN]);first|done|(rw [show t353.length=t338.length from (Kd.R_reads' HO_9.out).1.symm]<;>rfl)|rfl|(simp only [zM,zL];rfl)) ?_;(with_reducible refine (laws_heldItemS.calls kj41 _ _ t353 1 t354 _ ?side1 ?side2 A62.out).mono ?_);(case side1=>repeat (first|exact (Kd.R_reads' HO_9.out).2.2|(with_reducible refine Kd.C_alloc ?_ _)|(with_reducible refine Kd.C_drewN ?_ _)|(with_reducible refine Kd.C_drew ?_)));(case side2=>rw [show t353.length=t338.length from (Kd.R_reads' HO_9.out).1.symm];exact (Kd.R_reads' HO_9.out).2.1);rintro e w73 ⟨rfl,hb⟩;refine ⟨_,rfl,?_⟩;have n0_:=AsZ.mk (Kd.R_below (by (with_reducible repeat (first|apply Kd.R_alloc|apply Kd.R_drewN|apply Kd.R_drew));exact HO_6.out) hb);have n1_:=AsZ.mk (Kd.R_below (by (with_reducible repeat (first|apply Kd.R_alloc|apply Kd.R_drewN|apply Kd.R_drew));exact HO_9.out) hb);have n2_:=AsZ.mk (Kd.R_below (by (with_reducible repeat (first|apply Kd.R_alloc|apply Kd.R_drewN|apply Kd.R_drew));exact HO_338000.out) hb);have n3_:=AsZ.mk (Kd.S_below (by (with_reducible repeat (first|apply Kd.S_alloc|apply Kd.S_drewN|apply Kd.S_drew));exact HO_338001.out) hb);have n4_:=AsZ.mk (kb (g:=gb319) (o := .cells #[.slice A0_0 l0_0.length c0_0,.slice A0_1 l0_1.length c0_1] 43 (0,0)) (by (with_reducible repeat (first|refine kdN ?_ _|refine kd ?_|refine ka ?_ _));exact BK319.out) hb);have n5_:=AsZ.mk (kb (g:=gb337) (o := .cells #[.slice Ao24 t331.length co24,.slice Ao27 t334.length co27] 26 (0,0)) (by (with_reducible repeat (first|refine kdN ?_ _|refine kd ?_|refine ka ?_ _));exact BK337.out) hb);have n6_:=AsZ.mk (bwp (by repeat (first|(with_reducible first|exact HB.out|apply bwa|apply pbN|apply bw1|refine bws ?_ GE319.out|refine bws ?_ GE337.out)|exact HB.out)) hb);clear HO_6;clear HO_9;clear HO_338000;clear HO_338001;clear BK319;clear BK337;clear HB;have HO_6:=n0_;have HO_9:=n1_;have HO_338000:=n2_;have HO_338001:=n3_;have BK319:=n4_;have BK337:=n5_;have HB:=n6_;clear n0_ n1_ n2_ n3_ n4_ n5_ n6_;(try clear hb);(try clear hb2);(try clear hk);(try clear hi);have hnb74:=NB319_337.out;have hnc74:=NB337_319.out;have hcz75_0:w73.cell? ⟨gb319,0,none⟩=some (.slice A0_0 l0_0.length c0_0):=(kc BK319.out 0).trans rfl;have hcz75_1:w73.cell? ⟨gb319,1,none⟩=some (.slice A0_1 l0_1.length c0_1):=(kc BK319.out 1).trans rfl;have hfz75_0:=kf BK319.out 0;have hfz75_1:=kf BK319.out 1)|((with_reducible refine gcl (f:=20) rfl ?_);refine goesL_ (some 79) rfl rfl Tryd.func20 (by kernel_rfl) rfl #[.agg #[.slice A0_0 l0_0.length c0_0,.slice A0_1 l0_1.length c0_1]] rfl (by (try simp only [zA,zC,zN]);first|done|rfl|(simp only [zM,zL];rfl)) ?_;(with_reducible refine (laws_toSkip.calls kj41 _ _ l0_0 _ _ l0_1 t355 t358 _ ?side1 ?side2 ?side3 ?side4 A68.out).mono ?_);(case side1=>repeat (first|exact (Kd.C_below HR0_0.out HB.out)|(with_reducible refine Kd.C_alloc ?_ _)|(with_reducible refine Kd.C_drewN ?_ _)|(with_reducible refine Kd.C_drew ?_)));(case side2=>exact HC0_0.out);(case side3=>repeat (first|exact (Kd.C_below HR0_1.out HB.out)|(with_reducible refine Kd.C_alloc ?_ _)|(with_reducible refine Kd.C_drewN ?_ _)|(with_reducible refine Kd.C_drew ?_)));(case side4=>exact HC0_1.out);rintro e w76 ⟨v356,v359,rfl,ho0,ho1,hb⟩;refine ⟨_,rfl,?_⟩;have n0_:=AsZ.mk (Kd.R_below (by (with_reducible repeat (first|apply Kd.R_alloc|apply Kd.R_drewN|apply Kd.R_drew));exact HO_6.out) hb);have n1_:=AsZ.mk (Kd.R_below (by (with_reducible repeat (first|apply Kd.R_alloc|apply Kd.R_drewN|apply Kd.R_drew));exact HO_9.out) hb);have n2_:=AsZ.mk (Kd.R_elder' (by (with_reducible repeat (first|apply Kd.R_alloc|apply Kd.R_drewN|apply Kd.R_drew));exact HO_338000.out) (Kd.R_base ho0) hb);have n3_:=AsZ.mk (Kd.S_mono (Kd.S_told (Kd.S_told (Kd.S_old (by (with_reducible repeat (first|apply Kd.S_alloc|apply Kd.S_drewN|apply Kd.S_drew));exact HO_338001.out) hb) (Kd.R_base ho0)) (Kd.S_base ho1)) (fun _ h_=>h_.1));have n4_:=AsZ.mk (Kd.R_lower (Kd.R_new' ho0 (Kd.R_lt (by (with_reducible repeat (first|apply Kd.R_alloc|apply Kd.R_drewN|apply Kd.R_drew));exact HO_338000.out))) (bwz (by repeat (first|(with_reducible first|exact HB.out|apply bwa|apply pbN|apply bw1|refine bws ?_ GE319.out|refine bws ?_ GE337.out)|exact HB.out))));have n5_:=AsZ.mk (Kd.S_lower (Kd.S_new' (Kd.S_new' ho1 (Kd.R_lt (by (with_reducible repeat (first|apply Kd.R_alloc|apply Kd.R_drewN|apply Kd.R_drew));exact HO_338000.out))) (Kd.S_lt (by (with_reducible repeat (first|apply Kd.S_alloc|apply Kd.S_drewN|apply Kd.S_drew));exact HO_338001.out))) (bwz (by repeat (first|(with_reducible first|exact HB.out|apply bwa|apply pbN|apply bw1|refine bws ?_ GE319.out|refine bws ?_ GE337.out)|exact HB.out))));have n6_:=AsZ.mk (kb (g:=gb319) (o := .cells #[.slice A0_0 l0_0.length c0_0,.slice A0_1 l0_1.length c0_1] 43 (0,0)) (by (with_reducible repeat (first|refine kdN ?_ _|refine kd ?_|refine ka ?_ _));exact BK319.out) hb);have n7_:=AsZ.mk (kb (g:=gb337) (o := .cells #[.slice Ao24 t331.length co24,.slice Ao27 t334.length co27] 26 (0,0)) (by (with_reducible repeat (first|refine kdN ?_ _|refine kd ?_|refine ka ?_ _));exact BK337.out) hb);have n8_:=AsZ.mk (bwp (by repeat (first|(with_reducible first|exact HB.out|apply bwa|apply pbN|apply bw1|refine bws ?_ GE319.out|refine bws ?_ GE337.out)|exact HB.out)) hb);clear HO_6;clear HO_9;clear HO_338000;clear HO_338001;clear BK319;clear BK337;clear HB;have HO_6:=n0_;have HO_9:=n1_;have HO_338000:=n2_;have HO_338001:=n3_;have HO357:=n4_;have HO360:=n5_;have BK319:=n6_;have BK337:=n7_;have HB:=n8_;clear n0_ n1_ n2_ n3_ n4_ n5_ n6_ n7_ n8_;(try clear hb);(try clear hb2);(try clear hk);(try clear hi);(try clear ho0);(try clear ho1);obtain ⟨Ao77,co77,eo77⟩:=Kd.R_slice HO357.out;subst eo77;obtain ⟨Ao78,co78,eo78⟩:=Kd.S_slice HO360.out;subst eo78)|((with_reducible refine gcl (f:=14) rfl ?_);refine goesL_ (some 81) rfl rfl Tryd.func14 (by kernel_rfl) rfl #[.agg #[.slice Ao77 t355.length co77,.slice Ao78 t358.length co78],.int .i64 a1] rfl (by (try simp only [zA,zC,zN]);first|done|rfl|(simp only [zM,zL];rfl)) ?_;(with_reducible refine (impl_ListSkip.calls kj41 _ _ t355 _ _ t358 a1 t361 t364 _ ?side1 ?side2 ?side3 ?side4 ?sideT A69.out).mono ?_);(case sideT=>exact tab_below HT.out (by repeat (first|(with_reducible first|exact HB.out|apply bwa|apply pbN|apply bw1|refine bws ?_ (AsZ.out (by assumption)))|exact HB.out)));(case side1=>repeat (first|exact (Kd.R_reads' HO357.out).2.2|(with_reducible refine Kd.C_alloc ?_ _)|(with_reducible refine Kd.C_drewN ?_ _)|(with_reducible refine Kd.C_drew ?_)));(case side2=>exact (Kd.R_reads' HO357.out).2.1);(case side3=>repeat (first|exact (Kd.S_reads' HO360.out).2.2|(with_reducible refine Kd.C_alloc ?_ _)|(with_reducible refine Kd.C_drewN ?_ _)|(with_reducible refine Kd.C_drew ?_)));(case side4=>exact (Kd.S_reads' HO360.out).2.1);rintro e w79 ⟨v362,rfl,ho0,hb⟩;refine ⟨_,rfl,?_⟩;have n0_:=AsZ.mk (Kd.R_elder' (by (with_reducible repeat (first|apply Kd.R_alloc|apply Kd.R_drewN|apply Kd.R_drew));exact HO_6.out) (Kd.R_base ho0) hb);have n1_:=AsZ.mk (Kd.R_elder' (by (with_reducible repeat (first|apply Kd.R_alloc|apply Kd.R_drewN|apply Kd.R_drew));exact HO_9.out) (Kd.R_base ho0) hb);have n2_:=AsZ.mk (Kd.R_below (by (with_reducible repeat (first|apply Kd.R_alloc|apply Kd.R_drewN|apply Kd.R_drew));exact HO_338000.out) hb);have n3_:=AsZ.mk (Kd.S_below (by (with_reducible repeat (first|apply Kd.S_alloc|apply Kd.S_drewN|apply Kd.S_drew));exact HO_338001.out) hb);have n4_:=AsZ.mk (Kd.R_below (by (with_reducible repeat (first|apply Kd.R_alloc|apply Kd.R_drewN|apply Kd.R_drew));exact HO357.out) hb);have n5_:=AsZ.mk (Kd.S_below (by (with_reducible repeat (first|apply Kd.S_alloc|apply Kd.S_drewN|apply Kd.S_drew));exact HO360.out) hb);have n6_:=AsZ.mk (Kd.R_lower (Kd.R_new' (Kd.R_new' ho0 (Kd.R_lt (by (with_reducible repeat (first|apply Kd.R_alloc|apply Kd.R_drewN|apply Kd.R_drew));exact HO_6.out))) (Kd.R_lt (by (with_reducible repeat (first|apply Kd.R_alloc|apply Kd.R_drewN|apply Kd.R_drew));exact HO_9.out))) (bwz (by repeat (first|(with_reducible first|exact HB.out|apply bwa|apply pbN|apply bw1|refine bws ?_ GE319.out|refine bws ?_ GE337.out)|exact HB.out))));have n7_:=AsZ.mk (kb (g:=gb319) (o := .cells #[.slice A0_0 l0_0.length c0_0,.slice A0_1 l0_1.length c0_1] 43 (0,0)) (by (with_reducible repeat (first|refine kdN ?_ _|refine kd ?_|refine ka ?_ _));exact BK319.out) hb);have n8_:=AsZ.mk (kb (g:=gb337) (o := .cells #[.slice Ao24 t331.length co24,.slice Ao27 t334.length co27] 26 (0,0)) (by (with_reducible repeat (first|refine kdN ?_ _|refine kd ?_|refine ka ?_ _));exact BK337.out) hb);have n9_:=AsZ.mk (bwp (by repeat (first|(with_reducible first|exact HB.out|apply bwa|apply pbN|apply bw1|refine bws ?_ GE319.out|refine bws ?_ GE337.out)|exact HB.out)) hb);clear HO_6;clear HO_9;clear HO_338000;clear HO_338001;clear HO357;clear HO360;clear BK319;clear BK337;clear HB;have HO_6:=n0_;have HO_9:=n1_;have HO_338000:=n2_;have HO_338001:=n3_;have HO357:=n4_;have HO360:=n5_;have HO363:=n6_;have BK319:=n7_;have BK337:=n8_;have HB:=n9_;clear n0_ n1_ n2_ n3_ n4_ n5_ n6_ n7_ n8_ n9_;(try clear hb);(try clear hb2);(try clear hk);(try clear hi);(try clear ho0)))
     (try simp only [Act.put,zS,zT,zU])
     go_cut [92] (fun v92 wc => ∃ (kq:Nat) (x92_69:Bool),v92 = .bool x92_69∧AsZ (laws_FnExactListSkip.j2 kq t353 t352 x92_69=some r)∧AsZ (kq≤kj41)∧AsZ (Kd.R k28 28 wc w.heap.size (fun _=>True) (.slice Ao71 t338.length co71) t353)∧AsZ (Kd.R (Kd.int .i64) 3 wc w.heap.size (fun _=>True) (.slice Ao24 t331.length co24) b2_)∧AsZ (Kd.S k77 77 wc w.heap.size (fun k_=>some k_ ≠ ((.slice Ao24 t331.length co24):Value).ownBlock) (.slice Ao27 t334.length co27) c2_)∧AsZ (wc.heap[gb319]? = some (.cells #[(.slice A0_0 l0_0.length c0_0),(.slice A0_1 l0_1.length c0_1)] 43 (0,0)))∧AsZ (wc.heap[gb337]? = some (.cells #[(.slice Ao24 t331.length co24),(.slice Ao27 t334.length co27)] 26 (0,0)))∧AsZ (Below w.heap.size w wc))
     case first =>
      have H:=HC70.out
      clear HC70
      replace H:=Option.bind_eq_some_iff.mp H
      obtain ⟨t365,A800,H⟩:=H
      replace H:(if t365=true then (laws_FnExactListSkip.j2 kj41 t353 t352 (t364 != t330)) else (laws_FnExactListSkip.j2 kj41 t353 t352 true))=some r:=H
      have A80:=AsZ.mk A800
      clear A800
      by_cases c81:t365=true
      · subst c81
        have H1:(laws_FnExactListSkip.j2 kj41 t353 t352 (t364 != t330))=some r:=by rw [if_pos rfl] at H;exact H
        clear H
        have H:=H1
        clear H1
        have H':=AsZ.mk H
        clear H
        obtain ⟨Ao82,co82,eo82⟩:=Kd.R_slice HO363.out
        subst eo82
        obtain ⟨Ao83,co83,eo83⟩:=Kd.R_slice HO_6.out
        subst eo83
        go_wp2_with (first|((with_reducible refine gcl (f:=21) rfl ?_);refine goesL_ (some 86) rfl rfl Tryd.func21 (by kernel_rfl) rfl #[.slice Ao82 t361.length co82,.slice Ao83 t327.length co83] rfl (by (try simp only [zA,zC,zN]);first|done|rfl|(simp only [zM,zL];rfl)) ?_;(with_reducible refine (laws_eqItemS.calls kj41 _ _ t361 _ _ t327 true _ ?side1 ?side2 ?side3 ?side4 A80.out).mono ?_);(case side1=>repeat (first|exact (Kd.R_reads' HO363.out).2.2|(with_reducible refine Kd.C_alloc ?_ _)|(with_reducible refine Kd.C_drewN ?_ _)|(with_reducible refine Kd.C_drew ?_)));(case side2=>exact (Kd.R_reads' HO363.out).2.1);(case side3=>repeat (first|exact (Kd.R_reads' HO_6.out).2.2|(with_reducible refine Kd.C_alloc ?_ _)|(with_reducible refine Kd.C_drewN ?_ _)|(with_reducible refine Kd.C_drew ?_)));(case side4=>exact (Kd.R_reads' HO_6.out).2.1);rintro e w84 ⟨rfl,hb⟩;refine ⟨_,rfl,?_⟩;have n0_:=AsZ.mk (Kd.R_below (by (with_reducible repeat (first|apply Kd.R_alloc|apply Kd.R_drewN|apply Kd.R_drew));exact HO_6.out) hb);have n1_:=AsZ.mk (Kd.R_below (by (with_reducible repeat (first|apply Kd.R_alloc|apply Kd.R_drewN|apply Kd.R_drew));exact HO_9.out) hb);have n2_:=AsZ.mk (Kd.R_below (by (with_reducible repeat (first|apply Kd.R_alloc|apply Kd.R_drewN|apply Kd.R_drew));exact HO_338000.out) hb);have n3_:=AsZ.mk (Kd.S_below (by (with_reducible repeat (first|apply Kd.S_alloc|apply Kd.S_drewN|apply Kd.S_drew));exact HO_338001.out) hb);have n4_:=AsZ.mk (Kd.R_below (by (with_reducible repeat (first|apply Kd.R_alloc|apply Kd.R_drewN|apply Kd.R_drew));exact HO357.out) hb);have n5_:=AsZ.mk (Kd.S_below (by (with_reducible repeat (first|apply Kd.S_alloc|apply Kd.S_drewN|apply Kd.S_drew));exact HO360.out) hb);have n6_:=AsZ.mk (Kd.R_below (by (with_reducible repeat (first|apply Kd.R_alloc|apply Kd.R_drewN|apply Kd.R_drew));exact HO363.out) hb);have n7_:=AsZ.mk (kb (g:=gb319) (o := .cells #[.slice A0_0 l0_0.length c0_0,.slice A0_1 l0_1.length c0_1] 43 (0,0)) (by (with_reducible repeat (first|refine kdN ?_ _|refine kd ?_|refine ka ?_ _));exact BK319.out) hb);have n8_:=AsZ.mk (kb (g:=gb337) (o := .cells #[.slice Ao24 t331.length co24,.slice Ao27 t334.length co27] 26 (0,0)) (by (with_reducible repeat (first|refine kdN ?_ _|refine kd ?_|refine ka ?_ _));exact BK337.out) hb);have n9_:=AsZ.mk (bwp (by repeat (first|(with_reducible first|exact HB.out|apply bwa|apply pbN|apply bw1|refine bws ?_ GE319.out|refine bws ?_ GE337.out)|exact HB.out)) hb);clear HO_6;clear HO_9;clear HO_338000;clear HO_338001;clear HO357;clear HO360;clear HO363;clear BK319;clear BK337;clear HB;have HO_6:=n0_;have HO_9:=n1_;have HO_338000:=n2_;have HO_338001:=n3_;have HO357:=n4_;have HO360:=n5_;have HO363:=n6_;have BK319:=n7_;have BK337:=n8_;have HB:=n9_;clear n0_ n1_ n2_ n3_ n4_ n5_ n6_ n7_ n8_ n9_;(try clear hb);(try clear hb2);(try clear hk);(try clear hi)))
        go_meet
        case rel=>exact ⟨_,((t364 != t330)),(by first|rfl|(simp;done)|(simp [*];done)),H',⟨by have:=HJ11.out;have:=HJ41.out;first|omega|exact Nat.le_refl _⟩,⟨by (with_reducible repeat (first|apply Kd.R_alloc|apply Kd.R_drewN|apply Kd.R_drew));exact Kd.R_mono HO_9.out (fun _ hk=>trivial)⟩,⟨by (with_reducible repeat (first|apply Kd.R_alloc|apply Kd.R_drewN|apply Kd.R_drew));exact Kd.R_mono HO_338000.out (fun _ hk=>trivial)⟩,⟨by (with_reducible repeat (first|apply Kd.S_alloc|apply Kd.S_drewN|apply Kd.S_drew));exact Kd.S_mono HO_338001.out (fun _ hk=>hk.1.1)⟩,⟨by (with_reducible repeat (first|refine kdN ?_ _|refine kd ?_|refine ka ?_ _));exact BK319.out⟩,⟨by (with_reducible repeat (first|refine kdN ?_ _|refine kd ?_|refine ka ?_ _));exact BK337.out⟩,⟨by repeat (first|(with_reducible first|exact HB.out|apply bwa|apply pbN|apply bw1|refine bws ?_ GE319.out|refine bws ?_ GE337.out)|exact HB.out)⟩⟩
      replace c81:=Bool.eq_false_iff.mpr c81
      subst c81
      have H1:(laws_FnExactListSkip.j2 kj41 t353 t352 true)=some r:=by rw [if_neg (show ¬ (false=true) by decide)] at H;exact H
      clear H
      have H:=H1
      clear H1
      have H':=AsZ.mk H
      clear H
      obtain ⟨Ao85,co85,eo85⟩:=Kd.R_slice HO363.out
      subst eo85
      obtain ⟨Ao86,co86,eo86⟩:=Kd.R_slice HO_6.out
      subst eo86
      go_wp2_with (first|((with_reducible refine gcl (f:=21) rfl ?_);refine goesL_ (some 86) rfl rfl Tryd.func21 (by kernel_rfl) rfl #[.slice Ao85 t361.length co85,.slice Ao86 t327.length co86] rfl (by (try simp only [zA,zC,zN]);first|done|rfl|(simp only [zM,zL];rfl)) ?_;(with_reducible refine (laws_eqItemS.calls kj41 _ _ t361 _ _ t327 false _ ?side1 ?side2 ?side3 ?side4 A80.out).mono ?_);(case side1=>repeat (first|exact (Kd.R_reads' HO363.out).2.2|(with_reducible refine Kd.C_alloc ?_ _)|(with_reducible refine Kd.C_drewN ?_ _)|(with_reducible refine Kd.C_drew ?_)));(case side2=>exact (Kd.R_reads' HO363.out).2.1);(case side3=>repeat (first|exact (Kd.R_reads' HO_6.out).2.2|(with_reducible refine Kd.C_alloc ?_ _)|(with_reducible refine Kd.C_drewN ?_ _)|(with_reducible refine Kd.C_drew ?_)));(case side4=>exact (Kd.R_reads' HO_6.out).2.1);rintro e w87 ⟨rfl,hb⟩;refine ⟨_,rfl,?_⟩;have n0_:=AsZ.mk (Kd.R_below (by (with_reducible repeat (first|apply Kd.R_alloc|apply Kd.R_drewN|apply Kd.R_drew));exact HO_6.out) hb);have n1_:=AsZ.mk (Kd.R_below (by (with_reducible repeat (first|apply Kd.R_alloc|apply Kd.R_drewN|apply Kd.R_drew));exact HO_9.out) hb);have n2_:=AsZ.mk (Kd.R_below (by (with_reducible repeat (first|apply Kd.R_alloc|apply Kd.R_drewN|apply Kd.R_drew));exact HO_338000.out) hb);have n3_:=AsZ.mk (Kd.S_below (by (with_reducible repeat (first|apply Kd.S_alloc|apply Kd.S_drewN|apply Kd.S_drew));exact HO_338001.out) hb);have n4_:=AsZ.mk (Kd.R_below (by (with_reducible repeat (first|apply Kd.R_alloc|apply Kd.R_drewN|apply Kd.R_drew));exact HO357.out) hb);have n5_:=AsZ.mk (Kd.S_below (by (with_reducible repeat (first|apply Kd.S_alloc|apply Kd.S_drewN|apply Kd.S_drew));exact HO360.out) hb);have n6_:=AsZ.mk (Kd.R_below (by (with_reducible repeat (first|apply Kd.R_alloc|apply Kd.R_drewN|apply Kd.R_drew));exact HO363.out) hb);have n7_:=AsZ.mk (kb (g:=gb319) (o := .cells #[.slice A0_0 l0_0.length c0_0,.slice A0_1 l0_1.length c0_1] 43 (0,0)) (by (with_reducible repeat (first|refine kdN ?_ _|refine kd ?_|refine ka ?_ _));exact BK319.out) hb);have n8_:=AsZ.mk (kb (g:=gb337) (o := .cells #[.slice Ao24 t331.length co24,.slice Ao27 t334.length co27] 26 (0,0)) (by (with_reducible repeat (first|refine kdN ?_ _|refine kd ?_|refine ka ?_ _));exact BK337.out) hb);have n9_:=AsZ.mk (bwp (by repeat (first|(with_reducible first|exact HB.out|apply bwa|apply pbN|apply bw1|refine bws ?_ GE319.out|refine bws ?_ GE337.out)|exact HB.out)) hb);clear HO_6;clear HO_9;clear HO_338000;clear HO_338001;clear HO357;clear HO360;clear HO363;clear BK319;clear BK337;clear HB;have HO_6:=n0_;have HO_9:=n1_;have HO_338000:=n2_;have HO_338001:=n3_;have HO357:=n4_;have HO360:=n5_;have HO363:=n6_;have BK319:=n7_;have BK337:=n8_;have HB:=n9_;clear n0_ n1_ n2_ n3_ n4_ n5_ n6_ n7_ n8_ n9_;(try clear hb);(try clear hb2);(try clear hk);(try clear hi)))
      go_meet
      case rel=>exact ⟨_,(true),(by first|rfl|(simp;done)|(simp [*];done)),H',⟨by have:=HJ11.out;have:=HJ41.out;first|omega|exact Nat.le_refl _⟩,⟨by (with_reducible repeat (first|apply Kd.R_alloc|apply Kd.R_drewN|apply Kd.R_drew));exact Kd.R_mono HO_9.out (fun _ hk=>trivial)⟩,⟨by (with_reducible repeat (first|apply Kd.R_alloc|apply Kd.R_drewN|apply Kd.R_drew));exact Kd.R_mono HO_338000.out (fun _ hk=>trivial)⟩,⟨by (with_reducible repeat (first|apply Kd.S_alloc|apply Kd.S_drewN|apply Kd.S_drew));exact Kd.S_mono HO_338001.out (fun _ hk=>hk.1.1)⟩,⟨by (with_reducible repeat (first|refine kdN ?_ _|refine kd ?_|refine ka ?_ _));exact BK319.out⟩,⟨by (with_reducible repeat (first|refine kdN ?_ _|refine kd ?_|refine ka ?_ _));exact BK337.out⟩,⟨by repeat (first|(with_reducible first|exact HB.out|apply bwa|apply pbN|apply bw1|refine bws ?_ GE319.out|refine bws ?_ GE337.out)|exact HB.out)⟩⟩
     case rest =>
      clear HC70
      try clear c1
      try clear c2
      try clear p2
      try clear c3
      try clear c4
      try clear c4b0
      try clear c5
      try clear c6
      try clear c7
      try clear c8
      try clear c14
      try clear c18
      try clear c19
      try clear c20
      try clear c21
      try clear c22
      try clear c23
      try clear c24
      try clear c25
      try clear c30
      try clear c37
      try clear c40
      try clear c48
      try clear c51
      try clear c51b0
      try clear c51b1
      try clear c53
      try clear c60
      try clear c63
      try clear c63b0
      try clear c67
      try clear c67b0
      try clear c67b1
      try clear c74
      try clear c81
      try clear hcz14_0
      try clear hcz14_1
      try clear hcz16_0
      try clear hcz16_1
      try clear hcz21_0
      try clear hcz21_1
      try clear hcz26_0
      try clear hcz26_1
      try clear hcz49_0
      try clear hcz49_1
      try clear hcz6_0
      try clear hcz6_1
      try clear hcz75_0
      try clear hcz75_1
      try clear hfz14_0
      try clear hfz14_1
      try clear hfz16_0
      try clear hfz16_1
      try clear hfz21_0
      try clear hfz21_1
      try clear hfz26_0
      try clear hfz26_1
      try clear hfz49_0
      try clear hfz49_1
      try clear hfz6_0
      try clear hfz6_1
      try clear hfz75_0
      try clear hfz75_1
      try clear p2
      obtain ⟨kq,x92_69,rfl,HA,HJ69,HO_9,HO_338000,HO_338001,BK319,BK337,HB⟩:=hcut
      have hl9_69:=(Kd.R_reads' HO_9.out).1
      rw [hl9_69] at HO_9
      (try simp only [hl9_69])
      (try simp only [hl9_69] at BK319)
      (try simp only [hl9_69] at BK337)
      (try simp only [hl9_69] at HO_338000)
      (try simp only [hl9_69] at HO_338001)
      cases kq with
      |zero=>exact absurd HA.out (by simp [laws_FnExactListSkip.j2])
      |succ kj69 =>
       have H:=HA.out
       clear HA
       simp only [laws_FnExactListSkip.j2] at H
       by_cases c88:x92_69=true
       · subst c88
         have H1:(some false)=some r:=by rw [if_pos rfl] at H;exact H
         clear H
         have H:=H1
         clear H1
         obtain rfl:=zI H
         go_wp2
         go_ret
         exact ⟨by first|rfl|(simp [errW_none,errW_some]<;>rfl)|(simp [*,errW_none,errW_some]<;>rfl),by repeat (first|(with_reducible first|exact HB.out|apply bwa|apply pbN|apply bw1|refine bws ?_ GE319.out|refine bws ?_ GE337.out)|exact HB.out)⟩
       replace c88:=Bool.eq_false_iff.mpr c88
       subst c88
       have H1:((laws_heldItemS.f kj69 t353 1).bind fun t366=>(if t366 < 0 then (some false) else (if t366=t352 then (some true) else (some false))))=some r:=by rw [if_neg (show ¬ (false=true) by decide)] at H;exact H
       clear H
       have H:=H1
       clear H1
       replace H:=Option.bind_eq_some_iff.mp H
       obtain ⟨t366,A890,H⟩:=H
       replace H:(if t366 < 0 then (some false) else (if t366=t352 then (some true) else (some false)))=some r:=H
       have A89:=AsZ.mk A890
       clear A890
       by_cases c90:t366 < 0
       · rw [if_pos c90] at H
         have c90b0:decide (t366 < 0)=true:=zE c90
         clear c90
         obtain rfl:=zI H
         go_wp2_with (first|((with_reducible refine gcl (f:=25) rfl ?_);refine goesL_ (some 95) rfl rfl Tryd.func25 (by kernel_rfl) rfl #[.slice Ao71 t353.length co71,.int .i64 1] rfl (by (try simp only [zA,zC,zN]);first|done|rfl|(simp only [zM,zL];rfl)) ?_;(with_reducible refine (laws_heldItemS.calls kj69 _ _ t353 1 t366 _ ?side1 ?side2 A89.out).mono ?_);(case side1=>repeat (first|exact (Kd.R_reads' HO_9.out).2.2|(with_reducible refine Kd.C_alloc ?_ _)|(with_reducible refine Kd.C_drewN ?_ _)|(with_reducible refine Kd.C_drew ?_)));(case side2=>exact (Kd.R_reads' HO_9.out).2.1);rintro e w91 ⟨rfl,hb⟩;refine ⟨_,rfl,?_⟩;have n0_:=AsZ.mk (Kd.R_below (by (with_reducible repeat (first|apply Kd.R_alloc|apply Kd.R_drewN|apply Kd.R_drew));exact HO_9.out) hb);have n1_:=AsZ.mk (Kd.R_below (by (with_reducible repeat (first|apply Kd.R_alloc|apply Kd.R_drewN|apply Kd.R_drew));exact HO_338000.out) hb);have n2_:=AsZ.mk (Kd.S_below (by (with_reducible repeat (first|apply Kd.S_alloc|apply Kd.S_drewN|apply Kd.S_drew));exact HO_338001.out) hb);have n3_:=AsZ.mk (kb (g:=gb319) (o := .cells #[.slice A0_0 l0_0.length c0_0,.slice A0_1 l0_1.length c0_1] 43 (0,0)) (by (with_reducible repeat (first|refine kdN ?_ _|refine kd ?_|refine ka ?_ _));exact BK319.out) hb);have n4_:=AsZ.mk (kb (g:=gb337) (o := .cells #[.slice Ao24 t331.length co24,.slice Ao27 t334.length co27] 26 (0,0)) (by (with_reducible repeat (first|refine kdN ?_ _|refine kd ?_|refine ka ?_ _));exact BK337.out) hb);have n5_:=AsZ.mk (bwp (by repeat (first|(with_reducible first|exact HB.out|apply bwa|apply pbN|apply bw1|refine bws ?_ GE319.out|refine bws ?_ GE337.out)|exact HB.out)) hb);clear HO_9;clear HO_338000;clear HO_338001;clear BK319;clear BK337;clear HB;have HO_9:=n0_;have HO_338000:=n1_;have HO_338001:=n2_;have BK319:=n3_;have BK337:=n4_;have HB:=n5_;clear n0_ n1_ n2_ n3_ n4_ n5_;(try clear hb);(try clear hb2);(try clear hk);(try clear hi)))
         go_ret
         exact ⟨by first|rfl|(simp [errW_none,errW_some]<;>rfl)|(simp [*,errW_none,errW_some]<;>rfl),by repeat (first|(with_reducible first|exact HB.out|apply bwa|apply pbN|apply bw1|refine bws ?_ GE319.out|refine bws ?_ GE337.out)|exact HB.out)⟩
       rw [if_neg c90] at H
       have c90b0:decide (t366 < 0)=false:=decide_eq_false c90
       clear c90
       by_cases c92:t366=t352
       rotate_left
       · rw [if_neg c92] at H
         have c92b0:(t366 == t352)=false:=beq_eq_false_iff_ne.mpr c92
         have c92b1:(t366 != t352)=true:=bne_iff_ne.mpr c92
         obtain rfl:=zI H
         go_wp2_with (first|((with_reducible refine gcl (f:=25) rfl ?_);refine goesL_ (some 95) rfl rfl Tryd.func25 (by kernel_rfl) rfl #[.slice Ao71 t353.length co71,.int .i64 1] rfl (by (try simp only [zA,zC,zN]);first|done|rfl|(simp only [zM,zL];rfl)) ?_;(with_reducible refine (laws_heldItemS.calls kj69 _ _ t353 1 t366 _ ?side1 ?side2 A89.out).mono ?_);(case side1=>repeat (first|exact (Kd.R_reads' HO_9.out).2.2|(with_reducible refine Kd.C_alloc ?_ _)|(with_reducible refine Kd.C_drewN ?_ _)|(with_reducible refine Kd.C_drew ?_)));(case side2=>exact (Kd.R_reads' HO_9.out).2.1);rintro e w94 ⟨rfl,hb⟩;refine ⟨_,rfl,?_⟩;have n0_:=AsZ.mk (Kd.R_below (by (with_reducible repeat (first|apply Kd.R_alloc|apply Kd.R_drewN|apply Kd.R_drew));exact HO_9.out) hb);have n1_:=AsZ.mk (Kd.R_below (by (with_reducible repeat (first|apply Kd.R_alloc|apply Kd.R_drewN|apply Kd.R_drew));exact HO_338000.out) hb);have n2_:=AsZ.mk (Kd.S_below (by (with_reducible repeat (first|apply Kd.S_alloc|apply Kd.S_drewN|apply Kd.S_drew));exact HO_338001.out) hb);have n3_:=AsZ.mk (kb (g:=gb319) (o := .cells #[.slice A0_0 l0_0.length c0_0,.slice A0_1 l0_1.length c0_1] 43 (0,0)) (by (with_reducible repeat (first|refine kdN ?_ _|refine kd ?_|refine ka ?_ _));exact BK319.out) hb);have n4_:=AsZ.mk (kb (g:=gb337) (o := .cells #[.slice Ao24 t331.length co24,.slice Ao27 t334.length co27] 26 (0,0)) (by (with_reducible repeat (first|refine kdN ?_ _|refine kd ?_|refine ka ?_ _));exact BK337.out) hb);have n5_:=AsZ.mk (bwp (by repeat (first|(with_reducible first|exact HB.out|apply bwa|apply pbN|apply bw1|refine bws ?_ GE319.out|refine bws ?_ GE337.out)|exact HB.out)) hb);clear HO_9;clear HO_338000;clear HO_338001;clear BK319;clear BK337;clear HB;have HO_9:=n0_;have HO_338000:=n1_;have HO_338001:=n2_;have BK319:=n3_;have BK337:=n4_;have HB:=n5_;clear n0_ n1_ n2_ n3_ n4_ n5_;(try clear hb);(try clear hb2);(try clear hk);(try clear hi)))
         go_ret
         exact ⟨by first|rfl|(simp [errW_none,errW_some]<;>rfl)|(simp [*,errW_none,errW_some]<;>rfl),by repeat (first|(with_reducible first|exact HB.out|apply bwa|apply pbN|apply bw1|refine bws ?_ GE319.out|refine bws ?_ GE337.out)|exact HB.out)⟩
       rw [if_pos c92] at H
       have c92b0:(t366 == t352)=true:=beq_iff_eq.mpr c92
       have c92b1:(t366 != t352)=false:=bne_eq_false_iff_eq.mpr c92
       clear c92
       obtain rfl:=zI H
       go_wp2_with (first|((with_reducible refine gcl (f:=25) rfl ?_);refine goesL_ (some 95) rfl rfl Tryd.func25 (by kernel_rfl) rfl #[.slice Ao71 t353.length co71,.int .i64 1] rfl (by (try simp only [zA,zC,zN]);first|done|rfl|(simp only [zM,zL];rfl)) ?_;(with_reducible refine (laws_heldItemS.calls kj69 _ _ t353 1 t366 _ ?side1 ?side2 A89.out).mono ?_);(case side1=>repeat (first|exact (Kd.R_reads' HO_9.out).2.2|(with_reducible refine Kd.C_alloc ?_ _)|(with_reducible refine Kd.C_drewN ?_ _)|(with_reducible refine Kd.C_drew ?_)));(case side2=>exact (Kd.R_reads' HO_9.out).2.1);rintro e w93 ⟨rfl,hb⟩;refine ⟨_,rfl,?_⟩;have n0_:=AsZ.mk (Kd.R_below (by (with_reducible repeat (first|apply Kd.R_alloc|apply Kd.R_drewN|apply Kd.R_drew));exact HO_9.out) hb);have n1_:=AsZ.mk (Kd.R_below (by (with_reducible repeat (first|apply Kd.R_alloc|apply Kd.R_drewN|apply Kd.R_drew));exact HO_338000.out) hb);have n2_:=AsZ.mk (Kd.S_below (by (with_reducible repeat (first|apply Kd.S_alloc|apply Kd.S_drewN|apply Kd.S_drew));exact HO_338001.out) hb);have n3_:=AsZ.mk (kb (g:=gb319) (o := .cells #[.slice A0_0 l0_0.length c0_0,.slice A0_1 l0_1.length c0_1] 43 (0,0)) (by (with_reducible repeat (first|refine kdN ?_ _|refine kd ?_|refine ka ?_ _));exact BK319.out) hb);have n4_:=AsZ.mk (kb (g:=gb337) (o := .cells #[.slice Ao24 t331.length co24,.slice Ao27 t334.length co27] 26 (0,0)) (by (with_reducible repeat (first|refine kdN ?_ _|refine kd ?_|refine ka ?_ _));exact BK337.out) hb);have n5_:=AsZ.mk (bwp (by repeat (first|(with_reducible first|exact HB.out|apply bwa|apply pbN|apply bw1|refine bws ?_ GE319.out|refine bws ?_ GE337.out)|exact HB.out)) hb);clear HO_9;clear HO_338000;clear HO_338001;clear BK319;clear BK337;clear HB;have HO_9:=n0_;have HO_338000:=n1_;have HO_338001:=n2_;have BK319:=n3_;have BK337:=n4_;have HB:=n5_;clear n0_ n1_ n2_ n3_ n4_ n5_;(try clear hb);(try clear hb2);(try clear hk);(try clear hi)))
       go_ret
       exact ⟨by first|rfl|(simp [errW_none,errW_some]<;>rfl)|(simp [*,errW_none,errW_some]<;>rfl),by repeat (first|(with_reducible first|exact HB.out|apply bwa|apply pbN|apply bw1|refine bws ?_ GE319.out|refine bws ?_ GE337.out)|exact HB.out)⟩
end Go.Proofs.YtffjlpphcjfdgaaDoor.MFnExactListSkip
