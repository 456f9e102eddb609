-- Written by a program of this session out of the translation. Not trusted: Lean checks it.
import Derived.Test.YtffjlpphcjfdgaaDoorMFnFoundx0
import Derived.Test.YtffjlpphcjfdgaaDoorMFnFoundx1
import Derived.Test.YtffjlpphcjfdgaaDoorMFnFoundx6
import Derived.Test.YtffjlpphcjfdgaaDoorMFnFoundx10
import Derived.Test.YtffjlpphcjfdgaaDoorMFnFoundx11
import Derived.Test.YtffjlpphcjfdgaaDoorMFnFoundx18
namespace Go.Proofs.YtffjlpphcjfdgaaDoor.MFnFound
-- short
-- shrunk
-- TAB
-- RD
open Go.Proofs.YtffjlpphcjfdgaaDoor Go.RowKit Go.Proofs.YtffjlpphcjfdgaaDoorW.PrintWords Go.Proofs.YtffjlpphcjfdgaaDoorW.PrintLast Go.Proofs.YtffjlpphcjfdgaaDoorW.PrintMore Go.Proofs.YtffjlpphcjfdgaaDoorX
attribute [local go_sem] max2_int min2_int max_two min_two max_three min_three max_four min_four str_gtr str_leq str_geq cell_twice
set_option linter.unusedVariables false
set_option linter.unusedSimpArgs false
-- COMPACT
attribute [local go_sem high] eqA28
/-! ### laws_FnFound: function 9 -/
mutual
def laws_FnFound.j0:Nat→ByteArray→Int→Bool→Int→Bool→List Int→List (S77)→ByteArray→Int→Int→ByteArray→Option (Bool)
  |0,_,_,_,_,_,_,_,_,_,_,_=>none
  |k + 1,x4,x5,x7,x11,x83,x518000,x518001,x524000,x524001,x524002,x524003=>if x83=true then (some false) else ((impl_ListSkip.f k x518000 x518001 0).bind fun bt544=>(if bt544.2=true then (laws_FnFound.l0 k x4 x5 x7 x11 bt544.1 false bt544.1 (bt544.1.length:Int) 0 x524000 x524001 x524002 x524003 (⟨#[]⟩:ByteArray) 0 0 (⟨#[]⟩:ByteArray)) else (some (!x7))))
def laws_FnFound.l0:Nat→ByteArray→Int→Bool→Int→List (S28)→Bool→List (S28)→Int→Int→ByteArray→Int→Int→ByteArray→ByteArray→Int→Int→ByteArray→Option (Bool)
  |0,_,_,_,_,_,_,_,_,_,_,_,_,_,_,_,_,_=>none
  |k + 1,x4,x5,x7,x11,x16,x19,x94,x95,x96,x524000,x524001,x524002,x524003,x549000,x549001,x549002,x549003=>if x96 < x95 then (if 0≤x96 then (if x96 < (x94.length:Int) then (if ((rd_T28 x94 x96).f0).toList=x4.toList then (if ((rd_T28 x94 x96).f1)≤x5 then (if x19=true then (laws_FnFound.j2 k x4 x5 x7 x11 x16 x19 x94 x95 x96 (decide (((rd_T28 x94 x96).f1) > x549001)) x524000 x524001 x524002 x524003 x549000 x549001 x549002 x549003 ((rd_T28 x94 x96).f0) ((rd_T28 x94 x96).f1) ((rd_T28 x94 x96).f2) ((rd_T28 x94 x96).f3)) else (laws_FnFound.j2 k x4 x5 x7 x11 x16 x19 x94 x95 x96 true x524000 x524001 x524002 x524003 x549000 x549001 x549002 x549003 ((rd_T28 x94 x96).f0) ((rd_T28 x94 x96).f1) ((rd_T28 x94 x96).f2) ((rd_T28 x94 x96).f3))) else (laws_FnFound.j2 k x4 x5 x7 x11 x16 x19 x94 x95 x96 false x524000 x524001 x524002 x524003 x549000 x549001 x549002 x549003 ((rd_T28 x94 x96).f0) ((rd_T28 x94 x96).f1) ((rd_T28 x94 x96).f2) ((rd_T28 x94 x96).f3))) else (laws_FnFound.j2 k x4 x5 x7 x11 x16 x19 x94 x95 x96 false x524000 x524001 x524002 x524003 x549000 x549001 x549002 x549003 ((rd_T28 x94 x96).f0) ((rd_T28 x94 x96).f1) ((rd_T28 x94 x96).f2) ((rd_T28 x94 x96).f3))) else (none)) else (none)) else (if x11≤(wrap64 ((x16.length:Int) + 5)) then (if x4.toList=([]:List UInt8) then (some true) else (if (x4.size:Int) > 16 then (some true) else (if (x7 == x19)=true then (if x7=true then (some (x524000.toList == x549000.toList && (x524001 == x549001 && (x524002 == x549002 && (x524003.toList == x549003.toList))))) else (some true)) else (some false)))) else (some false))
def laws_FnFound.j2:Nat→ByteArray→Int→Bool→Int→List (S28)→Bool→List (S28)→Int→Int→Bool→ByteArray→Int→Int→ByteArray→ByteArray→Int→Int→ByteArray→ByteArray→Int→Int→ByteArray→Option (Bool)
  |0,_,_,_,_,_,_,_,_,_,_,_,_,_,_,_,_,_,_,_,_,_,_=>none
  |k + 1,x4,x5,x7,x11,x16,x19,x94,x95,x96,x120,x524000,x524001,x524002,x524003,x549000,x549001,x549002,x549003,x551000,x551001,x551002,x551003=>if x120=true then (laws_FnFound.l0 k x4 x5 x7 x11 x16 true x94 x95 (wrap64 (x96 + 1)) x524000 x524001 x524002 x524003 x551000 x551001 x551002 x551003) else (laws_FnFound.l0 k x4 x5 x7 x11 x16 x19 x94 x95 (wrap64 (x96 + 1)) x524000 x524001 x524002 x524003 x549000 x549001 x549002 x549003)
end
def laws_FnFound.f (k:Nat) (l0:List Int):Option (Bool):=if (l0.length:Int) > 1048576 then (some true) else ((spec_DrawFindSkip.f k l0).bind fun bt509=>((impl_FindSkip.f k bt509.1 bt509.2.1 bt509.2.2.1 bt509.2.2.2).bind fun bt518=>((spec_FindSkip.f k bt509.1 bt509.2.1 bt509.2.2.1 bt509.2.2.2).bind fun bt524=>((impl_SeekSkip.f k bt509.1 bt509.2.1 bt509.2.2.1 bt509.2.2.2).bind fun bt530=>((spec_SeekSkip.f k bt509.1 bt509.2.1 bt509.2.2.1 bt509.2.2.2).bind fun bt537=>(if (bt518.2.2.2.2 != bt524.2.2.2.2)=true then (laws_FnFound.j0 k bt509.2.2.1 bt509.2.2.2 bt518.2.2.2.2 bt530.2.2.2.2.1 true bt509.1 bt509.2.1 bt518.1 bt518.2.1 bt518.2.2.1 bt518.2.2.2.1) else (if (!(bt518.1.toList == bt524.1.toList) || (!(bt518.2.1 == bt524.2.1) || (!(bt518.2.2.1 == bt524.2.2.1) || (!(bt518.2.2.2.1.toList == bt524.2.2.2.1.toList)))))=true then (laws_FnFound.j0 k bt509.2.2.1 bt509.2.2.2 bt518.2.2.2.2 bt530.2.2.2.2.1 true bt509.1 bt509.2.1 bt518.1 bt518.2.1 bt518.2.2.1 bt518.2.2.2.1) else (if (bt530.2.2.2.2.2 != bt537.2.2.2.2.2)=true then (laws_FnFound.j0 k bt509.2.2.1 bt509.2.2.2 bt518.2.2.2.2 bt530.2.2.2.2.1 true bt509.1 bt509.2.1 bt518.1 bt518.2.1 bt518.2.2.1 bt518.2.2.2.1) else (if (!(bt530.1.toList == bt537.1.toList) || (!(bt530.2.1 == bt537.2.1) || (!(bt530.2.2.1 == bt537.2.2.1) || (!(bt530.2.2.2.1.toList == bt537.2.2.2.1.toList)))))=true then (laws_FnFound.j0 k bt509.2.2.1 bt509.2.2.2 bt518.2.2.2.2 bt530.2.2.2.2.1 true bt509.1 bt509.2.1 bt518.1 bt518.2.1 bt518.2.2.1 bt518.2.2.2.1) else (laws_FnFound.j0 k bt509.2.2.1 bt509.2.2.2 bt518.2.2.2.2 bt530.2.2.2.2.1 (bt530.2.2.2.2.1 != bt537.2.2.2.2.1) bt509.1 bt509.2.1 bt518.1 bt518.2.1 bt518.2.2.1 bt518.2.2.2.1))))))))))
theorem laws_FnFound.mono_l:∀ k,(∀ y0 y1 y2 y3 y4 y5 y6 y7 y8 y9 y10,LeO (laws_FnFound.j0 k y0 y1 y2 y3 y4 y5 y6 y7 y8 y9 y10) (laws_FnFound.j0 (k + 1) y0 y1 y2 y3 y4 y5 y6 y7 y8 y9 y10))∧(∀ y0 y1 y2 y3 y4 y5 y6 y7 y8 y9 y10 y11 y12 y13 y14 y15 y16,LeO (laws_FnFound.l0 k y0 y1 y2 y3 y4 y5 y6 y7 y8 y9 y10 y11 y12 y13 y14 y15 y16) (laws_FnFound.l0 (k + 1) y0 y1 y2 y3 y4 y5 y6 y7 y8 y9 y10 y11 y12 y13 y14 y15 y16))∧(∀ y0 y1 y2 y3 y4 y5 y6 y7 y8 y9 y10 y11 y12 y13 y14 y15 y16 y17 y18 y19 y20 y21,LeO (laws_FnFound.j2 k y0 y1 y2 y3 y4 y5 y6 y7 y8 y9 y10 y11 y12 y13 y14 y15 y16 y17 y18 y19 y20 y21) (laws_FnFound.j2 (k + 1) y0 y1 y2 y3 y4 y5 y6 y7 y8 y9 y10 y11 y12 y13 y14 y15 y16 y17 y18 y19 y20 y21))
  |0=>⟨fun _ _ _ _ _ _ _ _ _ _ _ r h=>by simp [laws_FnFound.j0] at h,fun _ _ _ _ _ _ _ _ _ _ _ _ _ _ _ _ _ r h=>by simp [laws_FnFound.l0] at h,fun _ _ _ _ _ _ _ _ _ _ _ _ _ _ _ _ _ _ _ _ _ _ r h=>by simp [laws_FnFound.j2] at h⟩
  |k + 1=>by
    obtain ⟨ih0,ih1,ih2⟩:=laws_FnFound.mono_l k
    refine ⟨?_,?_,?_⟩
    · intro y0 y1 y2 y3 y4 y5 y6 y7 y8 y9 y10
      unfold laws_FnFound.j0
      repeat' first|(with_reducible first|exact ih0 _ _ _ _ _ _ _ _ _ _ _|exact ih1 _ _ _ _ _ _ _ _ _ _ _ _ _ _ _ _ _|exact ih2 _ _ _ _ _ _ _ _ _ _ _ _ _ _ _ _ _ _ _ _ _ _|exact impl_FindSkip.mono _ _ _ _ _|exact impl_ListSkip.mono _ _ _ _|exact impl_SeekSkip.mono _ _ _ _ _|exact spec_DrawFindSkip.mono _ _|exact spec_FindSkip.mono _ _ _ _ _|exact spec_SeekSkip.mono _ _ _ _ _|exact LeO.refl _|exact LeO.none _|refine LeO.ite ?_ ?_|refine LeO.bind ?_ (fun _=>?_))|exact ih0 _ _ _ _ _ _ _ _ _ _ _|exact ih1 _ _ _ _ _ _ _ _ _ _ _ _ _ _ _ _ _|exact ih2 _ _ _ _ _ _ _ _ _ _ _ _ _ _ _ _ _ _ _ _ _ _|exact impl_FindSkip.mono _ _ _ _ _|exact impl_ListSkip.mono _ _ _ _|exact impl_SeekSkip.mono _ _ _ _ _|exact spec_DrawFindSkip.mono _ _|exact spec_FindSkip.mono _ _ _ _ _|exact spec_SeekSkip.mono _ _ _ _ _|exact LeO.none _|refine LeO.ite ?_ ?_|refine LeO.bind ?_ (fun _=>?_)
    · intro y0 y1 y2 y3 y4 y5 y6 y7 y8 y9 y10 y11 y12 y13 y14 y15 y16
      unfold laws_FnFound.l0
      repeat' first|(with_reducible first|exact ih0 _ _ _ _ _ _ _ _ _ _ _|exact ih1 _ _ _ _ _ _ _ _ _ _ _ _ _ _ _ _ _|exact ih2 _ _ _ _ _ _ _ _ _ _ _ _ _ _ _ _ _ _ _ _ _ _|exact impl_FindSkip.mono _ _ _ _ _|exact impl_ListSkip.mono _ _ _ _|exact impl_SeekSkip.mono _ _ _ _ _|exact spec_DrawFindSkip.mono _ _|exact spec_FindSkip.mono _ _ _ _ _|exact spec_SeekSkip.mono _ _ _ _ _|exact LeO.refl _|exact LeO.none _|refine LeO.ite ?_ ?_|refine LeO.bind ?_ (fun _=>?_))|exact ih0 _ _ _ _ _ _ _ _ _ _ _|exact ih1 _ _ _ _ _ _ _ _ _ _ _ _ _ _ _ _ _|exact ih2 _ _ _ _ _ _ _ _ _ _ _ _ _ _ _ _ _ _ _ _ _ _|exact impl_FindSkip.mono _ _ _ _ _|exact impl_ListSkip.mono _ _ _ _|exact impl_SeekSkip.mono _ _ _ _ _|exact spec_DrawFindSkip.mono _ _|exact spec_FindSkip.mono _ _ _ _ _|exact spec_SeekSkip.mono _ _ _ _ _|exact LeO.none _|refine LeO.ite ?_ ?_|refine LeO.bind ?_ (fun _=>?_)
    · intro y0 y1 y2 y3 y4 y5 y6 y7 y8 y9 y10 y11 y12 y13 y14 y15 y16 y17 y18 y19 y20 y21
      unfold laws_FnFound.j2
      repeat' first|(with_reducible first|exact ih0 _ _ _ _ _ _ _ _ _ _ _|exact ih1 _ _ _ _ _ _ _ _ _ _ _ _ _ _ _ _ _|exact ih2 _ _ _ _ _ _ _ _ _ _ _ _ _ _ _ _ _ _ _ _ _ _|exact impl_FindSkip.mono _ _ _ _ _|exact impl_ListSkip.mono _ _ _ _|exact impl_SeekSkip.mono _ _ _ _ _|exact spec_DrawFindSkip.mono _ _|exact spec_FindSkip.mono _ _ _ _ _|exact spec_SeekSkip.mono _ _ _ _ _|exact LeO.refl _|exact LeO.none _|refine LeO.ite ?_ ?_|refine LeO.bind ?_ (fun _=>?_))|exact ih0 _ _ _ _ _ _ _ _ _ _ _|exact ih1 _ _ _ _ _ _ _ _ _ _ _ _ _ _ _ _ _|exact ih2 _ _ _ _ _ _ _ _ _ _ _ _ _ _ _ _ _ _ _ _ _ _|exact impl_FindSkip.mono _ _ _ _ _|exact impl_ListSkip.mono _ _ _ _|exact impl_SeekSkip.mono _ _ _ _ _|exact spec_DrawFindSkip.mono _ _|exact spec_FindSkip.mono _ _ _ _ _|exact spec_SeekSkip.mono _ _ _ _ _|exact LeO.none _|refine LeO.ite ?_ ?_|refine LeO.bind ?_ (fun _=>?_)
theorem laws_FnFound.mono:∀ a0 k,LeO (laws_FnFound.f k a0) (laws_FnFound.f (k + 1) a0):=by
  intro a0 k
  obtain ⟨ih0,ih1,ih2⟩:=laws_FnFound.mono_l k
  unfold laws_FnFound.f
  repeat' first|(with_reducible first|exact ih0 _ _ _ _ _ _ _ _ _ _ _|exact ih1 _ _ _ _ _ _ _ _ _ _ _ _ _ _ _ _ _|exact ih2 _ _ _ _ _ _ _ _ _ _ _ _ _ _ _ _ _ _ _ _ _ _|exact impl_FindSkip.mono _ _ _ _ _|exact impl_ListSkip.mono _ _ _ _|exact impl_SeekSkip.mono _ _ _ _ _|exact spec_DrawFindSkip.mono _ _|exact spec_FindSkip.mono _ _ _ _ _|exact spec_SeekSkip.mono _ _ _ _ _|exact LeO.refl _|exact LeO.none _|refine LeO.ite ?_ ?_|refine LeO.bind ?_ (fun _=>?_))|exact ih0 _ _ _ _ _ _ _ _ _ _ _|exact ih1 _ _ _ _ _ _ _ _ _ _ _ _ _ _ _ _ _|exact ih2 _ _ _ _ _ _ _ _ _ _ _ _ _ _ _ _ _ _ _ _ _ _|exact impl_FindSkip.mono _ _ _ _ _|exact impl_ListSkip.mono _ _ _ _|exact impl_SeekSkip.mono _ _ _ _ _|exact spec_DrawFindSkip.mono _ _|exact spec_FindSkip.mono _ _ _ _ _|exact spec_SeekSkip.mono _ _ _ _ _|exact LeO.none _|refine LeO.ite ?_ ?_|refine LeO.bind ?_ (fun _=>?_)
set_option maxHeartbeats 8000000 in
set_option maxRecDepth 100000 in
theorem laws_FnFound.calls (k:Nat) (A0:Option Addr) (c0:Nat) (l0:List Int) (r:Bool) (w:World) (hr0:Kd.C (Kd.int .u8) w A0 l0.length l0) (hc0:l0.length≤c0) (hT:Tab w) (h:laws_FnFound.f k l0=some r) :
    Calls Tryd.prog 9 #[.slice A0 l0.length c0] w fun e w'=>e = .returned (.bool r)∧Below w.heap.size w w':=by
 have HT:=AsZ.mk hT
 clear hT
 have hu26:=Tryd.underlying26
 have hu28:=Tryd.underlying28
 have HR0:=AsZ.mk hr0
 have HC0:=AsZ.mk hc0
 clear hr0 hc0
 have HB:=AsZ.mk (Below.refl w.heap.size w)
 have H:(if (l0.length:Int) > 1048576 then (some true) else ((spec_DrawFindSkip.f k l0).bind fun bt509=>((impl_FindSkip.f k bt509.1 bt509.2.1 bt509.2.2.1 bt509.2.2.2).bind fun bt518=>((spec_FindSkip.f k bt509.1 bt509.2.1 bt509.2.2.1 bt509.2.2.2).bind fun bt524=>((impl_SeekSkip.f k bt509.1 bt509.2.1 bt509.2.2.1 bt509.2.2.2).bind fun bt530=>((spec_SeekSkip.f k bt509.1 bt509.2.1 bt509.2.2.1 bt509.2.2.2).bind fun bt537=>(if (bt518.2.2.2.2 != bt524.2.2.2.2)=true then (laws_FnFound.j0 k bt509.2.2.1 bt509.2.2.2 bt518.2.2.2.2 bt530.2.2.2.2.1 true bt509.1 bt509.2.1 bt518.1 bt518.2.1 bt518.2.2.1 bt518.2.2.2.1) else (if (!(bt518.1.toList == bt524.1.toList) || (!(bt518.2.1 == bt524.2.1) || (!(bt518.2.2.1 == bt524.2.2.1) || (!(bt518.2.2.2.1.toList == bt524.2.2.2.1.toList)))))=true then (laws_FnFound.j0 k bt509.2.2.1 bt509.2.2.2 bt518.2.2.2.2 bt530.2.2.2.2.1 true bt509.1 bt509.2.1 bt518.1 bt518.2.1 bt518.2.2.1 bt518.2.2.2.1) else (if (bt530.2.2.2.2.2 != bt537.2.2.2.2.2)=true then (laws_FnFound.j0 k bt509.2.2.1 bt509.2.2.2 bt518.2.2.2.2 bt530.2.2.2.2.1 true bt509.1 bt509.2.1 bt518.1 bt518.2.1 bt518.2.2.1 bt518.2.2.2.1) else (if (!(bt530.1.toList == bt537.1.toList) || (!(bt530.2.1 == bt537.2.1) || (!(bt530.2.2.1 == bt537.2.2.1) || (!(bt530.2.2.2.1.toList == bt537.2.2.2.1.toList)))))=true then (laws_FnFound.j0 k bt509.2.2.1 bt509.2.2.2 bt518.2.2.2.2 bt530.2.2.2.2.1 true bt509.1 bt509.2.1 bt518.1 bt518.2.1 bt518.2.2.1 bt518.2.2.2.1) else (laws_FnFound.j0 k bt509.2.2.1 bt509.2.2.2 bt518.2.2.2.2 bt530.2.2.2.2.1 (bt530.2.2.2.2.1 != bt537.2.2.2.2.1) bt509.1 bt509.2.1 bt518.1 bt518.2.1 bt518.2.2.1 bt518.2.2.2.1)))))))))))=some r:=h
 clear h
 by_cases c2:(l0.length:Int) > 1048576
 · rw [if_pos c2] at H
   have c2b0:decide (1048576 < (l0.length:Int))=true:=zE c2
   have c2b1:decide (1048576 < l0.length)=true:=zE (by omega)
   clear c2
   obtain rfl:=zI H
   go_enter Tryd.func9,Tryd.ntmps9
   go_wp2
   go_ret
   exact ⟨re,bel⟩
 rw [if_neg c2] at H
 have c2b0:decide (1048576 < (l0.length:Int))=false:=decide_eq_false c2
 have c2b1:decide (1048576 < l0.length)=false:=decide_eq_false (by omega)
 clear c2
 replace H:=bs H
 obtain ⟨⟨t509,t512,t515,t516⟩,A3,H⟩:=H
 replace H:=bs H
 obtain ⟨⟨t518,t519,t520,t521,t522⟩,A4,H⟩:=H
 replace H:=bs H
 obtain ⟨⟨t524,t525,t526,t527,t528⟩,A5,H⟩:=H
 replace H:=bs H
 obtain ⟨⟨t530,t531,t532,t533,t534,t535⟩,A6,H⟩:=H
 replace H:=bs H
 obtain ⟨⟨t537,t538,t539,t540,t541,t542⟩,A7,H⟩:=H
 have HC8:=AsZ.mk H
 clear H
 go_enter Tryd.func9,Tryd.ntmps9
 go_upto_region 8 with (first|((with_reducible refine gcl (f:=34) rfl ?_);refine goesL_ (some 27) rfl rfl Tryd.func34 (by kernel_rfl) rfl #[.slice A0 l0.length c0] rfl gl ?_;(with_reducible refine (spec_DrawFindSkip.calls k _ _ l0 t509 t512 t515 t516 _ ?side1 ?side2 A3.out).mono ?_);(case side1=>exact cC (HR0.out));(case side2=>exact HC0.out);rintro e w9 ⟨v510,v513,rfl,ho0,ho1,hb⟩;refine ⟨_,rfl,?_⟩;have HO511:=AsZ.mk (Kd.Q_lower ho0 (bwz bel));have HO514:=AsZ.mk (Kd.S_lower ho1 (bwz bel));replace HB:=bp hb;(try clear hb);(try clear hb2);(try clear hk);(try clear hi);(try clear ho0);(try clear ho1))|((with_reducible refine gate_dst (N:=3) rfl ?_);(try (refine gate_guard (by rfl) ?_;dsimp only));refine bev 3 26 (cs:=#[.slice none 0 0,.slice none 0 0]) ?_;intro gb517 hg w10 hbox hb;have BK517:=AsZ.mk (hbox);have GW517:=gz HB hg;have GE517:=gz HB hg;replace HO511:=rQ HO511 hb;replace HO514:=rS HO514 hb;replace HB:=bp hb;clear hb hbox hg;obtain ⟨Ao11,co11,eo11,_⟩:=Kd.Q_slice HO511.out;subst eo11;obtain ⟨hcz12_0,hcz12_1,hfz12_0,hfz12_1⟩:=bx2 BK517;obtain ⟨Ao13,co13,eo13⟩:=Kd.S_slice HO514.out;subst eo13)|((with_reducible refine gcl (f:=35) rfl ?_);refine goesL_ (some 35) rfl rfl Tryd.func35 (by kernel_rfl) rfl #[.agg #[.slice Ao11 t509.length co11,.slice Ao13 t512.length co13],.string t515,.int .i64 t516] rfl gl ?_;(with_reducible refine (impl_FindSkip.calls k _ _ t509 _ _ t512 t515 t516 t518 t519 t520 t521 t522 _ ?side1 ?side2 ?side3 ?side4 ?sideT A4.out).mono ?_);(case sideT=>exact tab_below HT.out (by repeat (first|(with_reducible first|exact HB.out|apply bwa|apply pbN|apply bw1|refine bws ?_ (AsZ.out (by assumption)))|exact HB.out)));(case side1=>refine (Kd.Q_reads' (e:=3) (base:=w.heap.size) (ok:=fun k_=>True) (n:=t509.length) (c:=co11) ?_).2.2;exact (by (with_reducible repeat (first|apply Kd.Q_alloc|apply Kd.Q_drewN|apply Kd.Q_drew));exact (Kd.Q_mono (fQ (fQ (Kd.Q_types HO511.out BK517.out (by decide)))) (fun _ h_=>h_.1))));(case side2=>exact (Kd.Q_reads' HO511.out).2.1);(case side3=>refine (Kd.S_reads' (e:=77) (base:=w.heap.size) (ok:=fun k_=>some k_ ≠ (.slice Ao11 t509.length co11:Value).ownBlock) (n:=t512.length) (c:=co13) ?_).2.2;exact (by (with_reducible repeat (first|apply Kd.S_alloc|apply Kd.S_drewN|apply Kd.S_drew));exact (Kd.S_mono (fS (fS (Kd.S_types HO514.out BK517.out (by decide)))) (fun _ h_=>h_.1))));(case side4=>exact (Kd.S_reads' HO514.out).2.1);rintro e w14 ⟨rfl,hb⟩;refine ⟨_,rfl,?_⟩;replace HO511:=AsZ.mk (Kd.Q_below (by (with_reducible repeat (first|apply Kd.Q_alloc|apply Kd.Q_drewN|apply Kd.Q_drew));exact (Kd.Q_mono (fQ (fQ (Kd.Q_types HO511.out BK517.out (by decide)))) (fun _ h_=>h_.1))) hb);replace HO514:=AsZ.mk (Kd.S_below (by (with_reducible repeat (first|apply Kd.S_alloc|apply Kd.S_drewN|apply Kd.S_drew));exact (Kd.S_mono (fS (fS (Kd.S_types HO514.out BK517.out (by decide)))) (fun _ h_=>h_.1))) hb);replace BK517:=AsZ.mk (kb (g:=gb517) (o := .cells #[.slice Ao11 t509.length co11,.slice Ao13 t512.length co13] 26 (0,0)) (bq BK517) hb);replace HB:=bp hb;(try clear hb);(try clear hb2);(try clear hk);(try clear hi))|((with_reducible refine gate_dst (N:=6) rfl ?_);(try (refine gate_guard (by rfl) ?_;dsimp only));refine bev 6 28 (cs:=#[.string (⟨#[]⟩:ByteArray),.int .i64 0,.int .i64 0,.string (⟨#[]⟩:ByteArray)]) ?_;intro gb523 hg w15 hbox hb;have BK523:=AsZ.mk (hbox);have GW523:=gz HB hg;have GE523:=gz HB hg;have NB517_523:=nl BK517 hg;have NB523_517:=nr BK517 hg;replace HO511:=rQ HO511 hb;replace HO514:=rS HO514 hb;replace BK517:=bb BK517 hb;replace HB:=bp hb;clear hb hbox hg;have hnb16:=NB523_517.out;have hnc16:=NB517_523.out;obtain ⟨hcz17_0,hcz17_1,hcz17_2,hcz17_3,hfz17_0,hfz17_1,hfz17_2,hfz17_3⟩:=bx4 BK523;obtain ⟨hcz18_0,hcz18_1,hfz18_0,hfz18_1⟩:=bx2 BK517)|((with_reducible refine gcl (f:=36) rfl ?_);refine goesL_ (some 42) rfl rfl Tryd.func36 (by kernel_rfl) rfl #[.agg #[.slice Ao11 t509.length co11,.slice Ao13 t512.length co13],.string t515,.int .i64 t516] rfl gl ?_;(with_reducible refine (spec_FindSkip.calls k _ _ t509 _ _ t512 t515 t516 t524 t525 t526 t527 t528 _ ?side1 ?side2 ?side3 ?side4 A5.out).mono ?_);(case side1=>refine (Kd.Q_reads' (e:=3) (base:=w.heap.size) (ok:=fun k_=>True) (n:=t509.length) (c:=co11) ?_).2.2;exact (by (with_reducible repeat (first|apply Kd.Q_alloc|apply Kd.Q_drewN|apply Kd.Q_drew));exact (Kd.Q_mono (fQ (fQ (fQ (fQ (Kd.Q_types HO511.out BK523.out (by decide)))))) (fun _ h_=>h_.1))));(case side2=>exact (Kd.Q_reads' HO511.out).2.1);(case side3=>refine (Kd.S_reads' (e:=77) (base:=w.heap.size) (ok:=fun k_=>some k_ ≠ (.slice Ao11 t509.length co11:Value).ownBlock) (n:=t512.length) (c:=co13) ?_).2.2;exact (by (with_reducible repeat (first|apply Kd.S_alloc|apply Kd.S_drewN|apply Kd.S_drew));exact (Kd.S_mono (fS (fS (fS (fS (Kd.S_types HO514.out BK523.out (by decide)))))) (fun _ h_=>h_.1))));(case side4=>exact (Kd.S_reads' HO514.out).2.1);rintro e w19 ⟨rfl,hb⟩;refine ⟨_,rfl,?_⟩;replace HO511:=AsZ.mk (Kd.Q_below (by (with_reducible repeat (first|apply Kd.Q_alloc|apply Kd.Q_drewN|apply Kd.Q_drew));exact (Kd.Q_mono (fQ (fQ (fQ (fQ (Kd.Q_types HO511.out BK523.out (by decide)))))) (fun _ h_=>h_.1))) hb);replace HO514:=AsZ.mk (Kd.S_below (by (with_reducible repeat (first|apply Kd.S_alloc|apply Kd.S_drewN|apply Kd.S_drew));exact (Kd.S_mono (fS (fS (fS (fS (Kd.S_types HO514.out BK523.out (by decide)))))) (fun _ h_=>h_.1))) hb);replace BK517:=AsZ.mk (kb (g:=gb517) (o := .cells #[.slice Ao11 t509.length co11,.slice Ao13 t512.length co13] 26 (0,0)) (bq BK517) hb);replace BK523:=AsZ.mk (kb (g:=gb523) (o := .cells #[.string t518,.int .i64 t519,.int .i64 t520,.string t521] 28 (0,0)) (bq BK523) hb);replace HB:=bp hb;(try clear hb);(try clear hb2);(try clear hk);(try clear hi))|((with_reducible refine gate_dst (N:=8) rfl ?_);(try (refine gate_guard (by rfl) ?_;dsimp only));refine bev 8 28 (cs:=#[.string (⟨#[]⟩:ByteArray),.int .i64 0,.int .i64 0,.string (⟨#[]⟩:ByteArray)]) ?_;intro gb529 hg w20 hbox hb;have BK529:=AsZ.mk (hbox);have GW529:=gz HB hg;have GE529:=gz HB hg;have NB517_529:=nl BK517 hg;have NB529_517:=nr BK517 hg;have NB523_529:=nl BK523 hg;have NB529_523:=nr BK523 hg;replace HO511:=rQ HO511 hb;replace HO514:=rS HO514 hb;replace BK517:=bb BK517 hb;replace BK523:=bb BK523 hb;replace HB:=bp hb;clear hb hbox hg;have hnb21:=NB529_517.out;have hnc21:=NB517_529.out;have hnb22:=NB529_523.out;have hnc22:=NB523_529.out;obtain ⟨hcz23_0,hcz23_1,hcz23_2,hcz23_3,hfz23_0,hfz23_1,hfz23_2,hfz23_3⟩:=bx4 BK529;obtain ⟨hcz24_0,hcz24_1,hfz24_0,hfz24_1⟩:=bx2 BK517)|((with_reducible refine gcl (f:=32) rfl ?_);refine goesL_ (some 49) rfl rfl Tryd.func32 (by kernel_rfl) rfl #[.agg #[.slice Ao11 t509.length co11,.slice Ao13 t512.length co13],.string t515,.int .i64 t516] rfl gl ?_;(with_reducible refine (impl_SeekSkip.calls k _ _ t509 _ _ t512 t515 t516 t530 t531 t532 t533 t534 t535 _ ?side1 ?side2 ?side3 ?side4 ?sideT A6.out).mono ?_);(case sideT=>exact tab_below HT.out (by repeat (first|(with_reducible first|exact HB.out|apply bwa|apply pbN|apply bw1|refine bws ?_ (AsZ.out (by assumption)))|exact HB.out)));(case side1=>refine (Kd.Q_reads' (e:=3) (base:=w.heap.size) (ok:=fun k_=>True) (n:=t509.length) (c:=co11) ?_).2.2;exact (by (with_reducible repeat (first|apply Kd.Q_alloc|apply Kd.Q_drewN|apply Kd.Q_drew));exact (Kd.Q_mono (fQ (fQ (fQ (fQ (Kd.Q_types HO511.out BK529.out (by decide)))))) (fun _ h_=>h_.1))));(case side2=>exact (Kd.Q_reads' HO511.out).2.1);(case side3=>refine (Kd.S_reads' (e:=77) (base:=w.heap.size) (ok:=fun k_=>some k_ ≠ (.slice Ao11 t509.length co11:Value).ownBlock) (n:=t512.length) (c:=co13) ?_).2.2;exact (by (with_reducible repeat (first|apply Kd.S_alloc|apply Kd.S_drewN|apply Kd.S_drew));exact (Kd.S_mono (fS (fS (fS (fS (Kd.S_types HO514.out BK529.out (by decide)))))) (fun _ h_=>h_.1))));(case side4=>exact (Kd.S_reads' HO514.out).2.1);rintro e w25 ⟨rfl,hb⟩;refine ⟨_,rfl,?_⟩;replace HO511:=AsZ.mk (Kd.Q_below (by (with_reducible repeat (first|apply Kd.Q_alloc|apply Kd.Q_drewN|apply Kd.Q_drew));exact (Kd.Q_mono (fQ (fQ (fQ (fQ (Kd.Q_types HO511.out BK529.out (by decide)))))) (fun _ h_=>h_.1))) hb);replace HO514:=AsZ.mk (Kd.S_below (by (with_reducible repeat (first|apply Kd.S_alloc|apply Kd.S_drewN|apply Kd.S_drew));exact (Kd.S_mono (fS (fS (fS (fS (Kd.S_types HO514.out BK529.out (by decide)))))) (fun _ h_=>h_.1))) hb);replace BK517:=AsZ.mk (kb (g:=gb517) (o := .cells #[.slice Ao11 t509.length co11,.slice Ao13 t512.length co13] 26 (0,0)) (bq BK517) hb);replace BK523:=AsZ.mk (kb (g:=gb523) (o := .cells #[.string t518,.int .i64 t519,.int .i64 t520,.string t521] 28 (0,0)) (bq BK523) hb);replace BK529:=AsZ.mk (kb (g:=gb529) (o := .cells #[.string t524,.int .i64 t525,.int .i64 t526,.string t527] 28 (0,0)) (bq BK529) hb);replace HB:=bp hb;(try clear hb);(try clear hb2);(try clear hk);(try clear hi))|((with_reducible refine gate_dst (N:=10) rfl ?_);(try (refine gate_guard (by rfl) ?_;dsimp only));refine bev 10 28 (cs:=#[.string (⟨#[]⟩:ByteArray),.int .i64 0,.int .i64 0,.string (⟨#[]⟩:ByteArray)]) ?_;intro gb536 hg w26 hbox hb;have BK536:=AsZ.mk (hbox);have GW536:=gz HB hg;have GE536:=gz HB hg;have NB517_536:=nl BK517 hg;have NB536_517:=nr BK517 hg;have NB523_536:=nl BK523 hg;have NB536_523:=nr BK523 hg;have NB529_536:=nl BK529 hg;have NB536_529:=nr BK529 hg;replace HO511:=rQ HO511 hb;replace HO514:=rS HO514 hb;replace BK517:=bb BK517 hb;replace BK523:=bb BK523 hb;replace BK529:=bb BK529 hb;replace HB:=bp hb;clear hb hbox hg;have hnb27:=NB536_517.out;have hnc27:=NB517_536.out;have hnb28:=NB536_523.out;have hnc28:=NB523_536.out;have hnb29:=NB536_529.out;have hnc29:=NB529_536.out;obtain ⟨hcz30_0,hcz30_1,hcz30_2,hcz30_3,hfz30_0,hfz30_1,hfz30_2,hfz30_3⟩:=bx4 BK536;obtain ⟨hcz31_0,hcz31_1,hfz31_0,hfz31_1⟩:=bx2 BK517)|((with_reducible refine gcl (f:=31) rfl ?_);refine goesL_ (some 57) rfl rfl Tryd.func31 (by kernel_rfl) rfl #[.agg #[.slice Ao11 t509.length co11,.slice Ao13 t512.length co13],.string t515,.int .i64 t516] rfl gl ?_;(with_reducible refine (spec_SeekSkip.calls k _ _ t509 _ _ t512 t515 t516 t537 t538 t539 t540 t541 t542 _ ?side1 ?side2 ?side3 ?side4 A7.out).mono ?_);(case side1=>refine (Kd.Q_reads' (e:=3) (base:=w.heap.size) (ok:=fun k_=>True) (n:=t509.length) (c:=co11) ?_).2.2;exact (by (with_reducible repeat (first|apply Kd.Q_alloc|apply Kd.Q_drewN|apply Kd.Q_drew));exact (Kd.Q_mono (fQ (fQ (fQ (fQ (Kd.Q_types HO511.out BK536.out (by decide)))))) (fun _ h_=>h_.1))));(case side2=>exact (Kd.Q_reads' HO511.out).2.1);(case side3=>refine (Kd.S_reads' (e:=77) (base:=w.heap.size) (ok:=fun k_=>some k_ ≠ (.slice Ao11 t509.length co11:Value).ownBlock) (n:=t512.length) (c:=co13) ?_).2.2;exact (by (with_reducible repeat (first|apply Kd.S_alloc|apply Kd.S_drewN|apply Kd.S_drew));exact (Kd.S_mono (fS (fS (fS (fS (Kd.S_types HO514.out BK536.out (by decide)))))) (fun _ h_=>h_.1))));(case side4=>exact (Kd.S_reads' HO514.out).2.1);rintro e w32 ⟨rfl,hb⟩;refine ⟨_,rfl,?_⟩;replace HO511:=AsZ.mk (Kd.Q_below (by (with_reducible repeat (first|apply Kd.Q_alloc|apply Kd.Q_drewN|apply Kd.Q_drew));exact (Kd.Q_mono (fQ (fQ (fQ (fQ (Kd.Q_types HO511.out BK536.out (by decide)))))) (fun _ h_=>h_.1))) hb);replace HO514:=AsZ.mk (Kd.S_below (by (with_reducible repeat (first|apply Kd.S_alloc|apply Kd.S_drewN|apply Kd.S_drew));exact (Kd.S_mono (fS (fS (fS (fS (Kd.S_types HO514.out BK536.out (by decide)))))) (fun _ h_=>h_.1))) hb);replace BK517:=AsZ.mk (kb (g:=gb517) (o := .cells #[.slice Ao11 t509.length co11,.slice Ao13 t512.length co13] 26 (0,0)) (bq BK517) hb);replace BK523:=AsZ.mk (kb (g:=gb523) (o := .cells #[.string t518,.int .i64 t519,.int .i64 t520,.string t521] 28 (0,0)) (bq BK523) hb);replace BK529:=AsZ.mk (kb (g:=gb529) (o := .cells #[.string t524,.int .i64 t525,.int .i64 t526,.string t527] 28 (0,0)) (bq BK529) hb);replace BK536:=AsZ.mk (kb (g:=gb536) (o := .cells #[.string t530,.int .i64 t531,.int .i64 t532,.string t533] 28 (0,0)) (bq BK536) hb);replace HB:=bp hb;(try clear hb);(try clear hb2);(try clear hk);(try clear hi))|((with_reducible refine gate_dst (N:=13) rfl ?_);(try (refine gate_guard (by rfl) ?_;dsimp only));refine bev 13 28 (cs:=#[.string (⟨#[]⟩:ByteArray),.int .i64 0,.int .i64 0,.string (⟨#[]⟩:ByteArray)]) ?_;intro gb543 hg w33 hbox hb;have BK543:=AsZ.mk (hbox);have GW543:=gz HB hg;have GE543:=gz HB hg;have NB517_543:=nl BK517 hg;have NB543_517:=nr BK517 hg;have NB523_543:=nl BK523 hg;have NB543_523:=nr BK523 hg;have NB529_543:=nl BK529 hg;have NB543_529:=nr BK529 hg;have NB536_543:=nl BK536 hg;have NB543_536:=nr BK536 hg;replace HO511:=rQ HO511 hb;replace HO514:=rS HO514 hb;replace BK517:=bb BK517 hb;replace BK523:=bb BK523 hb;replace BK529:=bb BK529 hb;replace BK536:=bb BK536 hb;replace HB:=bp hb;clear hb hbox hg;have hnb34:=NB543_517.out;have hnc34:=NB517_543.out;have hnb35:=NB543_523.out;have hnc35:=NB523_543.out;have hnb36:=NB543_529.out;have hnc36:=NB529_543.out;have hnb37:=NB543_536.out;have hnc37:=NB536_543.out;obtain ⟨hcz38_0,hcz38_1,hcz38_2,hcz38_3,hfz38_0,hfz38_1,hfz38_2,hfz38_3⟩:=bx4 BK543))
 (try simp only [Act.put,zS,zT,zU])
 go_cut [83] (fun v83 wc => ∃ (kq:Nat) (x83_7:Bool),v83 = .bool x83_7∧AsZ (laws_FnFound.j0 kq t515 t516 t522 t534 x83_7 t509 t512 t518 t519 t520 t521=some r)∧AsZ (kq≤k)∧AsZ (Kd.Q (Kd.int .i64) 3 wc w.heap.size (fun _=>True) (.slice Ao11 t509.length co11) t509)∧AsZ (Kd.S k77 77 wc w.heap.size (fun k_=>some k_ ≠ ((.slice Ao11 t509.length co11):Value).ownBlock) (.slice Ao13 t512.length co13) t512)∧AsZ (wc.heap[gb517]? = some (.cells #[(.slice Ao11 t509.length co11),(.slice Ao13 t512.length co13)] 26 (0,0)))∧AsZ (wc.heap[gb523]? = some (.cells #[.string t518,.int .i64 t519,.int .i64 t520,.string t521] 28 (0,0)))∧AsZ (wc.heap[gb529]? = some (.cells #[.string t524,.int .i64 t525,.int .i64 t526,.string t527] 28 (0,0)))∧AsZ (wc.heap[gb536]? = some (.cells #[.string t530,.int .i64 t531,.int .i64 t532,.string t533] 28 (0,0)))∧AsZ (wc.heap[gb543]? = some (.cells #[.string t537,.int .i64 t538,.int .i64 t539,.string t540] 28 (0,0)))∧AsZ (Below w.heap.size w wc))
 case first =>
  have H:=HC8.out
  clear HC8
  by_cases c39:(t522 != t528)=true
  · rw [if_pos c39] at H
    have c39b0:(t522 != t528)=true:=c39
    (try (have c39b1:decide (t522=t528)=false:=by simpa using c39))
    (try (have c39b2:(t522 == t528)=false:=by simpa using c39))
    (try (have c39b3:¬ (t522=t528):=by simpa using c39))
    clear c39
    (first|rw [c39b0]|(simp only [i64_w,i32_w];rw [c39b0])|rw [c39b1]|skip)
    have H':=AsZ.mk H
    clear H
    go_wp2
    go_meet
    case rel=>exact ⟨_,(true),rs,H',⟨lo⟩,⟨by (with_reducible repeat (first|apply Kd.Q_alloc|apply Kd.Q_drewN|apply Kd.Q_drew));exact Kd.Q_mono (fQ (fQ (fQ (fQ (Kd.Q_types HO511.out BK543.out (by decide)))))) (fun _ hk=>trivial)⟩,⟨by (with_reducible repeat (first|apply Kd.S_alloc|apply Kd.S_drewN|apply Kd.S_drew));exact Kd.S_mono (fS (fS (fS (fS (Kd.S_types HO514.out BK543.out (by decide)))))) (fun _ hk=>hk.1)⟩,⟨bq BK517⟩,⟨bq BK523⟩,⟨bq BK529⟩,⟨bq BK536⟩,⟨bq BK543⟩,⟨bel⟩⟩
  rw [if_neg c39] at H
  have c39b0:(t522 != t528)=false:=by simpa using c39
  (try (have c39b1:decide (t522=t528)=true:=by simpa using c39))
  (try (have c39b2:(t522 == t528)=true:=by simpa using c39))
  clear c39
  (first|rw [c39b0]|(simp only [i64_w,i32_w];rw [c39b0])|rw [c39b1]|skip)
  by_cases c40:(!(t518.toList == t524.toList) || (!(t519 == t525) || (!(t520 == t526) || (!(t521.toList == t527.toList)))))=true
  · rw [if_pos c40] at H
    have c40b0:(!(t518.toList == t524.toList) || (!(t519 == t525) || (!(t520 == t526) || (!(t521.toList == t527.toList)))))=true:=c40
    clear c40
    have H':=AsZ.mk H
    clear H
    have hnb41:=NB523_517.out
    have hnc41:=NB517_523.out
    have hnb42:=NB523_529.out
    have hnc42:=NB529_523.out
    have hnb43:=NB523_536.out
    have hnc43:=NB536_523.out
    have hnb44:=NB523_543.out
    have hnc44:=NB543_523.out
    obtain ⟨hcz45_0,hcz45_1,hcz45_2,hcz45_3,hfz45_0,hfz45_1,hfz45_2,hfz45_3⟩:=bx4 BK523
    have hnb46:=NB529_517.out
    have hnc46:=NB517_529.out
    have hnb47:=NB529_536.out
    have hnc47:=NB536_529.out
    have hnb48:=NB529_543.out
    have hnc48:=NB543_529.out
    obtain ⟨hcz49_0,hcz49_1,hcz49_2,hcz49_3,hfz49_0,hfz49_1,hfz49_2,hfz49_3⟩:=bx4 BK529
    go_wp2
    go_meet
    case rel=>exact ⟨_,(true),rs,H',⟨lo⟩,⟨by (with_reducible repeat (first|apply Kd.Q_alloc|apply Kd.Q_drewN|apply Kd.Q_drew));exact Kd.Q_mono (fQ (fQ (fQ (fQ (Kd.Q_types HO511.out BK543.out (by decide)))))) (fun _ hk=>trivial)⟩,⟨by (with_reducible repeat (first|apply Kd.S_alloc|apply Kd.S_drewN|apply Kd.S_drew));exact Kd.S_mono (fS (fS (fS (fS (Kd.S_types HO514.out BK543.out (by decide)))))) (fun _ hk=>hk.1)⟩,⟨bq BK517⟩,⟨bq BK523⟩,⟨bq BK529⟩,⟨bq BK536⟩,⟨bq BK543⟩,⟨bel⟩⟩
  rw [if_neg c40] at H
  have c40b0:(!(t518.toList == t524.toList) || (!(t519 == t525) || (!(t520 == t526) || (!(t521.toList == t527.toList)))))=false:=by simpa using c40
  clear c40
  by_cases c50:(t535 != t542)=true
  · rw [if_pos c50] at H
    have c50b0:(t535 != t542)=true:=c50
    (try (have c50b1:decide (t535=t542)=false:=by simpa using c50))
    (try (have c50b2:(t535 == t542)=false:=by simpa using c50))
    (try (have c50b3:¬ (t535=t542):=by simpa using c50))
    clear c50
    have H':=AsZ.mk H
    clear H
    have hnb51:=NB523_517.out
    have hnc51:=NB517_523.out
    have hnb52:=NB523_529.out
    have hnc52:=NB529_523.out
    have hnb53:=NB523_536.out
    have hnc53:=NB536_523.out
    have hnb54:=NB523_543.out
    have hnc54:=NB543_523.out
    obtain ⟨hcz55_0,hcz55_1,hcz55_2,hcz55_3,hfz55_0,hfz55_1,hfz55_2,hfz55_3⟩:=bx4 BK523
    have hnb56:=NB529_517.out
    have hnc56:=NB517_529.out
    have hnb57:=NB529_536.out
    have hnc57:=NB536_529.out
    have hnb58:=NB529_543.out
    have hnc58:=NB543_529.out
    obtain ⟨hcz59_0,hcz59_1,hcz59_2,hcz59_3,hfz59_0,hfz59_1,hfz59_2,hfz59_3⟩:=bx4 BK529
    go_wp2
    go_meet
    case rel=>exact ⟨_,(true),rs,H',⟨lo⟩,⟨by (with_reducible repeat (first|apply Kd.Q_alloc|apply Kd.Q_drewN|apply Kd.Q_drew));exact Kd.Q_mono (fQ (fQ (fQ (fQ (Kd.Q_types HO511.out BK543.out (by decide)))))) (fun _ hk=>trivial)⟩,⟨by (with_reducible repeat (first|apply Kd.S_alloc|apply Kd.S_drewN|apply Kd.S_drew));exact Kd.S_mono (fS (fS (fS (fS (Kd.S_types HO514.out BK543.out (by decide)))))) (fun _ hk=>hk.1)⟩,⟨bq BK517⟩,⟨bq BK523⟩,⟨bq BK529⟩,⟨bq BK536⟩,⟨bq BK543⟩,⟨bel⟩⟩
  rw [if_neg c50] at H
  have c50b0:(t535 != t542)=false:=by simpa using c50
  (try (have c50b1:decide (t535=t542)=true:=by simpa using c50))
  (try (have c50b2:(t535 == t542)=true:=by simpa using c50))
  clear c50
  by_cases c60:(!(t530.toList == t537.toList) || (!(t531 == t538) || (!(t532 == t539) || (!(t533.toList == t540.toList)))))=true
  · rw [if_pos c60] at H
    have c60b0:(!(t530.toList == t537.toList) || (!(t531 == t538) || (!(t532 == t539) || (!(t533.toList == t540.toList)))))=true:=c60
    clear c60
    have H':=AsZ.mk H
    clear H
    have hnb61:=NB523_517.out
    have hnc61:=NB517_523.out
    have hnb62:=NB523_529.out
    have hnc62:=NB529_523.out
    have hnb63:=NB523_536.out
    have hnc63:=NB536_523.out
    have hnb64:=NB523_543.out
    have hnc64:=NB543_523.out
    obtain ⟨hcz65_0,hcz65_1,hcz65_2,hcz65_3,hfz65_0,hfz65_1,hfz65_2,hfz65_3⟩:=bx4 BK523
    have hnb66:=NB529_517.out
    have hnc66:=NB517_529.out
    have hnb67:=NB529_536.out
    have hnc67:=NB536_529.out
    have hnb68:=NB529_543.out
    have hnc68:=NB543_529.out
    obtain ⟨hcz69_0,hcz69_1,hcz69_2,hcz69_3,hfz69_0,hfz69_1,hfz69_2,hfz69_3⟩:=bx4 BK529
    have hnb70:=NB536_517.out
    have hnc70:=NB517_536.out
    have hnb71:=NB536_543.out
    have hnc71:=NB543_536.out
    obtain ⟨hcz72_0,hcz72_1,hcz72_2,hcz72_3,hfz72_0,hfz72_1,hfz72_2,hfz72_3⟩:=bx4 BK536
    have hnb73:=NB543_517.out
    have hnc73:=NB517_543.out
    obtain ⟨hcz74_0,hcz74_1,hcz74_2,hcz74_3,hfz74_0,hfz74_1,hfz74_2,hfz74_3⟩:=bx4 BK543
    go_wp2
    go_meet
    case rel=>exact ⟨_,(true),rs,H',⟨lo⟩,⟨by (with_reducible repeat (first|apply Kd.Q_alloc|apply Kd.Q_drewN|apply Kd.Q_drew));exact Kd.Q_mono (fQ (fQ (fQ (fQ (Kd.Q_types HO511.out BK543.out (by decide)))))) (fun _ hk=>trivial)⟩,⟨by (with_reducible repeat (first|apply Kd.S_alloc|apply Kd.S_drewN|apply Kd.S_drew));exact Kd.S_mono (fS (fS (fS (fS (Kd.S_types HO514.out BK543.out (by decide)))))) (fun _ hk=>hk.1)⟩,⟨bq BK517⟩,⟨bq BK523⟩,⟨bq BK529⟩,⟨bq BK536⟩,⟨bq BK543⟩,⟨bel⟩⟩
  rw [if_neg c60] at H
  have c60b0:(!(t530.toList == t537.toList) || (!(t531 == t538) || (!(t532 == t539) || (!(t533.toList == t540.toList)))))=false:=by simpa using c60
  clear c60
  have H':=AsZ.mk H
  clear H
  have hnb75:=NB523_517.out
  have hnc75:=NB517_523.out
  have hnb76:=NB523_529.out
  have hnc76:=NB529_523.out
  have hnb77:=NB523_536.out
  have hnc77:=NB536_523.out
  have hnb78:=NB523_543.out
  have hnc78:=NB543_523.out
  obtain ⟨hcz79_0,hcz79_1,hcz79_2,hcz79_3,hfz79_0,hfz79_1,hfz79_2,hfz79_3⟩:=bx4 BK523
  have hnb80:=NB529_517.out
  have hnc80:=NB517_529.out
  have hnb81:=NB529_536.out
  have hnc81:=NB536_529.out
  have hnb82:=NB529_543.out
  have hnc82:=NB543_529.out
  obtain ⟨hcz83_0,hcz83_1,hcz83_2,hcz83_3,hfz83_0,hfz83_1,hfz83_2,hfz83_3⟩:=bx4 BK529
  have hnb84:=NB536_517.out
  have hnc84:=NB517_536.out
  have hnb85:=NB536_543.out
  have hnc85:=NB543_536.out
  obtain ⟨hcz86_0,hcz86_1,hcz86_2,hcz86_3,hfz86_0,hfz86_1,hfz86_2,hfz86_3⟩:=bx4 BK536
  have hnb87:=NB543_517.out
  have hnc87:=NB517_543.out
  obtain ⟨hcz88_0,hcz88_1,hcz88_2,hcz88_3,hfz88_0,hfz88_1,hfz88_2,hfz88_3⟩:=bx4 BK543
  go_wp2
  go_meet
  case rel=>exact ⟨_,((t534 != t541)),rs,H',⟨lo⟩,⟨by (with_reducible repeat (first|apply Kd.Q_alloc|apply Kd.Q_drewN|apply Kd.Q_drew));exact Kd.Q_mono (fQ (fQ (fQ (fQ (Kd.Q_types HO511.out BK543.out (by decide)))))) (fun _ hk=>trivial)⟩,⟨by (with_reducible repeat (first|apply Kd.S_alloc|apply Kd.S_drewN|apply Kd.S_drew));exact Kd.S_mono (fS (fS (fS (fS (Kd.S_types HO514.out BK543.out (by decide)))))) (fun _ hk=>hk.1)⟩,⟨bq BK517⟩,⟨bq BK523⟩,⟨bq BK529⟩,⟨bq BK536⟩,⟨bq BK543⟩,⟨bel⟩⟩
 case rest =>
  clear HC8
  try clear c2b0
  try clear c2b1
  try clear p2
  try clear c39b0
  try clear c39b1
  try clear c39b2
  try clear c40b0
  try clear c50b0
  try clear c50b1
  try clear c50b2
  try clear c60b0
  try clear hcz12_0 hcz12_1 hfz12_0 hfz12_1
  try clear hcz17_0 hcz17_1 hcz17_2 hcz17_3 hfz17_0 hfz17_1 hfz17_2 hfz17_3
  try clear hcz18_0 hcz18_1 hfz18_0 hfz18_1
  try clear hcz23_0 hcz23_1 hcz23_2 hcz23_3 hfz23_0 hfz23_1 hfz23_2 hfz23_3
  try clear hcz24_0 hcz24_1 hfz24_0 hfz24_1
  try clear hcz30_0 hcz30_1 hcz30_2 hcz30_3 hfz30_0 hfz30_1 hfz30_2 hfz30_3
  try clear hcz31_0 hcz31_1 hfz31_0 hfz31_1
  try clear hcz38_0 hcz38_1 hcz38_2 hcz38_3 hfz38_0 hfz38_1 hfz38_2 hfz38_3
  try clear hcz45_0 hcz45_1 hcz45_2 hcz45_3 hfz45_0 hfz45_1 hfz45_2 hfz45_3
  try clear hcz49_0 hcz49_1 hcz49_2 hcz49_3 hfz49_0 hfz49_1 hfz49_2 hfz49_3
  try clear hcz55_0 hcz55_1 hcz55_2 hcz55_3 hfz55_0 hfz55_1 hfz55_2 hfz55_3
  try clear hcz59_0 hcz59_1 hcz59_2 hcz59_3 hfz59_0 hfz59_1 hfz59_2 hfz59_3
  try clear hcz65_0 hcz65_1 hcz65_2 hcz65_3 hfz65_0 hfz65_1 hfz65_2 hfz65_3
  try clear hcz69_0 hcz69_1 hcz69_2 hcz69_3 hfz69_0 hfz69_1 hfz69_2 hfz69_3
  try clear hcz72_0 hcz72_1 hcz72_2 hcz72_3 hfz72_0 hfz72_1 hfz72_2 hfz72_3
  try clear hcz74_0 hcz74_1 hcz74_2 hcz74_3 hfz74_0 hfz74_1 hfz74_2 hfz74_3
  try clear hcz79_0 hcz79_1 hcz79_2 hcz79_3 hfz79_0 hfz79_1 hfz79_2 hfz79_3
  try clear hcz83_0 hcz83_1 hcz83_2 hcz83_3 hfz83_0 hfz83_1 hfz83_2 hfz83_3
  try clear hcz86_0 hcz86_1 hcz86_2 hcz86_3 hfz86_0 hfz86_1 hfz86_2 hfz86_3
  try clear hcz88_0 hcz88_1 hcz88_2 hcz88_3 hfz88_0 hfz88_1 hfz88_2 hfz88_3
  obtain ⟨kq,x83_7,rfl,HA,HJ7,HO_518000,HO_518001,BK517,BK523,BK529,BK536,BK543,HB⟩:=hcut
  cases kq with
  |zero=>exact absurd HA.out (by simp [laws_FnFound.j0])
  |succ kj7 =>
   have H:=HA.out
   clear HA
   simp only [laws_FnFound.j0] at H
   by_cases c89:x83_7=true
   · subst c89
     replace H:=iP H
     obtain rfl:=zI H
     go_wp2
     go_ret
     exact ⟨re,bel⟩
   replace c89:=Bool.eq_false_iff.mpr c89
   subst c89
   replace H:=iN H
   replace H:=bs H
   obtain ⟨⟨t544,t547⟩,A90,H⟩:=H
   by_cases c91:t547=true
   rotate_left
   · replace c91:=Bool.eq_false_iff.mpr c91
     subst c91
     replace H:=iN H
     obtain rfl:=zI H
     have hnb185:=NB517_523.out
     have hnc185:=NB523_517.out
     have hnb186:=NB517_529.out
     have hnc186:=NB529_517.out
     have hnb187:=NB517_536.out
     have hnc187:=NB536_517.out
     have hnb188:=NB517_543.out
     have hnc188:=NB543_517.out
     obtain ⟨hcz189_0,hcz189_1,hfz189_0,hfz189_1⟩:=bx2 BK517
     go_wp2_with (first|((with_reducible refine gcl (f:=14) rfl ?_);refine goesL_ (some 86) rfl rfl Tryd.func14 (by kernel_rfl) rfl #[.agg #[.slice Ao11 t509.length co11,.slice Ao13 t512.length co13],.int .i64 0] rfl gl ?_;(with_reducible refine (impl_ListSkip.calls kj7 _ _ t509 _ _ t512 0 t544 false _ ?side1 ?side2 ?side3 ?side4 ?sideT A90.out).mono ?_);(case sideT=>exact tab_below HT.out (by repeat (first|(with_reducible first|exact HB.out|apply bwa|apply pbN|apply bw1|refine bws ?_ (AsZ.out (by assumption)))|exact HB.out)));(case side1=>exact cC (Kd.Q_reads' HO_518000.out).2.2);(case side2=>exact (Kd.Q_reads' HO_518000.out).2.1);(case side3=>exact cC (Kd.S_reads' HO_518001.out).2.2);(case side4=>exact (Kd.S_reads' HO_518001.out).2.1);rintro e w190 ⟨v545,rfl,ho0,hb⟩;refine ⟨_,rfl,?_⟩;have HO546:=AsZ.mk (Kd.R_lower (Kd.R_newB (Kd.R_newB (Kd.R_newB (Kd.R_newB ho0 (bk BK523)) (bk BK529)) (bk BK536)) (bk BK543)) (bwz bel));replace HO_518000:=rQ HO_518000 hb;replace HO_518001:=rS HO_518001 hb;replace BK517:=bb BK517 hb;replace BK523:=bb BK523 hb;replace BK529:=bb BK529 hb;replace BK536:=bb BK536 hb;replace BK543:=bb BK543 hb;replace HB:=bp hb;(try clear hb);(try clear hb2);(try clear hk);(try clear hi);(try clear ho0)))
     go_ret
     exact ⟨re,bel⟩
   subst c91
   replace H:=iP H
   have H':=AsZ.mk H
   clear H
   have hnb92:=NB517_523.out
   have hnc92:=NB523_517.out
   have hnb93:=NB517_529.out
   have hnc93:=NB529_517.out
   have hnb94:=NB517_536.out
   have hnc94:=NB536_517.out
   have hnb95:=NB517_543.out
   have hnc95:=NB543_517.out
   obtain ⟨hcz96_0,hcz96_1,hfz96_0,hfz96_1⟩:=bx2 BK517
   go_wp2_with (first|((with_reducible refine gcl (f:=14) rfl ?_);refine goesL_ (some 86) rfl rfl Tryd.func14 (by kernel_rfl) rfl #[.agg #[.slice Ao11 t509.length co11,.slice Ao13 t512.length co13],.int .i64 0] rfl gl ?_;(with_reducible refine (impl_ListSkip.calls kj7 _ _ t509 _ _ t512 0 t544 true _ ?side1 ?side2 ?side3 ?side4 ?sideT A90.out).mono ?_);(case sideT=>exact tab_below HT.out (by repeat (first|(with_reducible first|exact HB.out|apply bwa|apply pbN|apply bw1|refine bws ?_ (AsZ.out (by assumption)))|exact HB.out)));(case side1=>exact cC (Kd.Q_reads' HO_518000.out).2.2);(case side2=>exact (Kd.Q_reads' HO_518000.out).2.1);(case side3=>exact cC (Kd.S_reads' HO_518001.out).2.2);(case side4=>exact (Kd.S_reads' HO_518001.out).2.1);rintro e w97 ⟨v545,rfl,ho0,hb⟩;refine ⟨_,rfl,?_⟩;have HO546:=AsZ.mk (Kd.R_lower (Kd.R_newB (Kd.R_newB (Kd.R_newB (Kd.R_newB ho0 (bk BK523)) (bk BK529)) (bk BK536)) (bk BK543)) (bwz bel));replace HO_518000:=rQ HO_518000 hb;replace HO_518001:=rS HO_518001 hb;replace BK517:=bb BK517 hb;replace BK523:=bb BK523 hb;replace BK529:=bb BK529 hb;replace BK536:=bb BK536 hb;replace BK543:=bb BK543 hb;replace HB:=bp hb;(try clear hb);(try clear hb2);(try clear hk);(try clear hi);(try clear ho0))|((with_reducible refine gate_dst (N:=18) rfl ?_);(try (refine gate_guard (by rfl) ?_;dsimp only));refine bev 18 28 (cs:=#[.string (⟨#[]⟩:ByteArray),.int .i64 0,.int .i64 0,.string (⟨#[]⟩:ByteArray)]) ?_;intro gb548 hg w98 hbox hb;have BK548:=AsZ.mk (hbox);have GW548:=gz HB hg;have GE548:=gz HB hg;have NB517_548:=nl BK517 hg;have NB548_517:=nr BK517 hg;have NB523_548:=nl BK523 hg;have NB548_523:=nr BK523 hg;have NB529_548:=nl BK529 hg;have NB548_529:=nr BK529 hg;have NB536_548:=nl BK536 hg;have NB548_536:=nr BK536 hg;have NB543_548:=nl BK543 hg;have NB548_543:=nr BK543 hg;replace HO_518000:=rQ HO_518000 hb;replace HO_518001:=rS HO_518001 hb;replace HO546:=AsZ.mk (Kd.R_below (Kd.R_elderB (kR HO546) gb548 (Nat.le_of_eq hg.symm)) hb);replace BK517:=bb BK517 hb;replace BK523:=bb BK523 hb;replace BK529:=bb BK529 hb;replace BK536:=bb BK536 hb;replace BK543:=bb BK543 hb;replace HB:=bp hb;clear hb hbox hg;have hnb99:=NB548_517.out;have hnc99:=NB517_548.out;have hnb100:=NB548_523.out;have hnc100:=NB523_548.out;have hnb101:=NB548_529.out;have hnc101:=NB529_548.out;have hnb102:=NB548_536.out;have hnc102:=NB536_548.out;have hnb103:=NB548_543.out;have hnc103:=NB543_548.out;obtain ⟨hcz104_0,hcz104_1,hcz104_2,hcz104_3,hfz104_0,hfz104_1,hfz104_2,hfz104_3⟩:=bx4 BK548;obtain ⟨Ao105,co105,eo105⟩:=Kd.R_slice HO546.out;subst eo105))
   go_loopg [19,96] kj7 (fun kq v19 v96 w' => ∃ (x19_2:Bool) (x96_2:Int) (x549000_2:ByteArray) (x549001_2:Int) (x549002_2:Int) (x549003_2:ByteArray),v19 = .bool x19_2∧v96 = .int .i64 x96_2∧AsZ (laws_FnFound.l0 kq t515 t516 t522 t534 t544 x19_2 t544 (t544.length:Int) x96_2 t518 t519 t520 t521 x549000_2 x549001_2 x549002_2 x549003_2=some r)∧AsZ (kq≤kj7)∧AsZ (Kd.R k28 28 w' w.heap.size (fun k_=>k_ ≠ gb523∧k_ ≠ gb529∧k_ ≠ gb536∧k_ ≠ gb543∧k_ ≠ gb548) (.slice Ao105 t544.length co105) t544)∧AsZ (Kd.R k28 28 w' w.heap.size (fun k_=>k_ ≠ gb523∧k_ ≠ gb529∧k_ ≠ gb536∧k_ ≠ gb543∧k_ ≠ gb548) (.slice Ao105 t544.length co105) t544)∧AsZ (Kd.Q (Kd.int .i64) 3 w' w.heap.size (fun _=>True) (.slice Ao11 t509.length co11) t509)∧AsZ (Kd.S k77 77 w' w.heap.size (fun k_=>some k_ ≠ ((.slice Ao11 t509.length co11):Value).ownBlock) (.slice Ao13 t512.length co13) t512)∧AsZ (w'.heap[gb517]? = some (.cells #[(.slice Ao11 t509.length co11),(.slice Ao13 t512.length co13)] 26 (0,0)))∧AsZ (w'.heap[gb523]? = some (.cells #[.string t518,.int .i64 t519,.int .i64 t520,.string t521] 28 (0,0)))∧AsZ (w'.heap[gb529]? = some (.cells #[.string t524,.int .i64 t525,.int .i64 t526,.string t527] 28 (0,0)))∧AsZ (w'.heap[gb536]? = some (.cells #[.string t530,.int .i64 t531,.int .i64 t532,.string t533] 28 (0,0)))∧AsZ (w'.heap[gb543]? = some (.cells #[.string t537,.int .i64 t538,.int .i64 t539,.string t540] 28 (0,0)))∧AsZ (w'.heap[gb548]? = some (.cells #[.string x549000_2,.int .i64 x549001_2,.int .i64 x549002_2,.string x549003_2] 28 (0,0)))∧AsZ (Below w.heap.size w w'))
   case atStart=>exact ⟨(false),(0),((⟨#[]⟩:ByteArray)),(0),(0),((⟨#[]⟩:ByteArray)),rs,rs,H',⟨Nat.le_refl _⟩,⟨by (with_reducible repeat (first|apply Kd.R_alloc|apply Kd.R_drewN|apply Kd.R_drew));exact Kd.R_mono (fR (fR (fR (fR (Kd.R_mono HO546.out (fun k_ hk=>(⟨hk,hk.2⟩:_∧k_ ≠ gb548))))))) (fun _ hk=>⟨hk.1.1.1.1.1.2,⟨hk.1.1.1.1.2,⟨hk.1.1.1.2,⟨hk.1.1.2,hk.1.2⟩⟩⟩⟩)⟩,⟨by (with_reducible repeat (first|apply Kd.R_alloc|apply Kd.R_drewN|apply Kd.R_drew));exact Kd.R_mono (fR (fR (fR (fR (Kd.R_mono HO546.out (fun k_ hk=>(⟨hk,hk.2⟩:_∧k_ ≠ gb548))))))) (fun _ hk=>⟨hk.1.1.1.1.1.2,⟨hk.1.1.1.1.2,⟨hk.1.1.1.2,⟨hk.1.1.2,hk.1.2⟩⟩⟩⟩)⟩,⟨by (with_reducible repeat (first|apply Kd.Q_alloc|apply Kd.Q_drewN|apply Kd.Q_drew));exact Kd.Q_mono (fQ (fQ (fQ (fQ (Kd.Q_types HO_518000.out BK548.out (by decide)))))) (fun _ hk=>trivial)⟩,⟨by (with_reducible repeat (first|apply Kd.S_alloc|apply Kd.S_drewN|apply Kd.S_drew));exact Kd.S_mono (fS (fS (fS (fS (Kd.S_types HO_518001.out BK548.out (by decide)))))) (fun _ hk=>hk.1)⟩,⟨bq BK517⟩,⟨bq BK523⟩,⟨bq BK529⟩,⟨bq BK536⟩,⟨bq BK543⟩,⟨bq BK548⟩,⟨bel⟩⟩
   case round =>
    clear H'
    try clear c2b0
    try clear c2b1
    try clear p2
    try clear c39b0
    try clear c39b1
    try clear c39b2
    try clear c40b0
    try clear c50b0
    try clear c50b1
    try clear c50b2
    try clear c60b0
    try clear hcz104_0 hcz104_1 hcz104_2 hcz104_3 hfz104_0 hfz104_1 hfz104_2 hfz104_3
    try clear hcz12_0 hcz12_1 hfz12_0 hfz12_1
    try clear hcz17_0 hcz17_1 hcz17_2 hcz17_3 hfz17_0 hfz17_1 hfz17_2 hfz17_3
    try clear hcz18_0 hcz18_1 hfz18_0 hfz18_1
    try clear hcz23_0 hcz23_1 hcz23_2 hcz23_3 hfz23_0 hfz23_1 hfz23_2 hfz23_3
    try clear hcz24_0 hcz24_1 hfz24_0 hfz24_1
    try clear hcz30_0 hcz30_1 hcz30_2 hcz30_3 hfz30_0 hfz30_1 hfz30_2 hfz30_3
    try clear hcz31_0 hcz31_1 hfz31_0 hfz31_1
    try clear hcz38_0 hcz38_1 hcz38_2 hcz38_3 hfz38_0 hfz38_1 hfz38_2 hfz38_3
    try clear hcz45_0 hcz45_1 hcz45_2 hcz45_3 hfz45_0 hfz45_1 hfz45_2 hfz45_3
    try clear hcz49_0 hcz49_1 hcz49_2 hcz49_3 hfz49_0 hfz49_1 hfz49_2 hfz49_3
    try clear hcz55_0 hcz55_1 hcz55_2 hcz55_3 hfz55_0 hfz55_1 hfz55_2 hfz55_3
    try clear hcz59_0 hcz59_1 hcz59_2 hcz59_3 hfz59_0 hfz59_1 hfz59_2 hfz59_3
    try clear hcz65_0 hcz65_1 hcz65_2 hcz65_3 hfz65_0 hfz65_1 hfz65_2 hfz65_3
    try clear hcz69_0 hcz69_1 hcz69_2 hcz69_3 hfz69_0 hfz69_1 hfz69_2 hfz69_3
    try clear hcz72_0 hcz72_1 hcz72_2 hcz72_3 hfz72_0 hfz72_1 hfz72_2 hfz72_3
    try clear hcz74_0 hcz74_1 hcz74_2 hcz74_3 hfz74_0 hfz74_1 hfz74_2 hfz74_3
    try clear hcz79_0 hcz79_1 hcz79_2 hcz79_3 hfz79_0 hfz79_1 hfz79_2 hfz79_3
    try clear hcz83_0 hcz83_1 hcz83_2 hcz83_3 hfz83_0 hfz83_1 hfz83_2 hfz83_3
    try clear hcz86_0 hcz86_1 hcz86_2 hcz86_3 hfz86_0 hfz86_1 hfz86_2 hfz86_3
    try clear hcz88_0 hcz88_1 hcz88_2 hcz88_3 hfz88_0 hfz88_1 hfz88_2 hfz88_3
    try clear hcz96_0 hcz96_1 hfz96_0 hfz96_1
    obtain ⟨x19_2,x96_2,x549000_2,x549001_2,x549002_2,x549003_2,rfl,rfl,HA,HK2,HO_16,HO_94,HO_518000,HO_518001,BK517,BK523,BK529,BK536,BK543,BK548,HB⟩:=hrel
    cases gk with
    |zero=>exact absurd HA.out (by simp [laws_FnFound.l0])
    |succ k2 =>
     have H:=HA.out
     clear HA
     simp only [laws_FnFound.l0] at H
     by_cases c106:x96_2 < (t544.length:Int)
     rotate_left
     · rw [if_neg c106] at H
       have c106b0:decide (x96_2 < (t544.length:Int))=false:=decide_eq_false c106
       clear c106
       by_cases c169:t534≤(wrap64 ((t544.length:Int) + 5))
       rotate_left
       · rw [if_neg c169] at H
         have c169b0:decide (t534≤(wrap64 ((t544.length:Int) + 5)))=false:=decide_eq_false c169
         clear c169
         obtain rfl:=zI H
         go_wp2
         go_ret
         exact ⟨re,bel⟩
       rw [if_pos c169] at H
       have c169b0:decide (t534≤(wrap64 ((t544.length:Int) + 5)))=true:=zE c169
       clear c169
       by_cases c170:t515.toList=([]:List UInt8)
       · rw [if_pos c170] at H
         have c170b0:(t515.toList == ([]:List UInt8))=true:=beq_iff_eq.mpr c170
         have c170b1:(t515.toList != ([]:List UInt8))=false:=bne_eq_false_iff_eq.mpr c170
         clear c170
         obtain rfl:=zI H
         go_wp2
         go_ret
         exact ⟨re,bel⟩
       rw [if_neg c170] at H
       have c170b0:(t515.toList == ([]:List UInt8))=false:=beq_eq_false_iff_ne.mpr c170
       have c170b1:(t515.toList != ([]:List UInt8))=true:=bne_iff_ne.mpr c170
       by_cases c171:(t515.size:Int) > 16
       · rw [if_pos c171] at H
         have c171b0:decide (16 < (t515.size:Int))=true:=zE c171
         have c171b1:decide (16 < t515.size)=true:=zE (by omega)
         clear c171
         obtain rfl:=zI H
         go_wp2
         go_ret
         exact ⟨re,bel⟩
       rw [if_neg c171] at H
       have c171b0:decide (16 < (t515.size:Int))=false:=decide_eq_false c171
       have c171b1:decide (16 < t515.size)=false:=decide_eq_false (by omega)
       clear c171
       by_cases c172:(t522 == x19_2)=true
       rotate_left
       · rw [if_neg c172] at H
         have c172b0:(t522 == x19_2)=false:=by simpa using c172
         (try (have c172b1:decide (t522=x19_2)=false:=by simpa using c172))
         (try (have c172b2:(t522 == x19_2)=false:=by simpa using c172))
         (try (have c172b3:¬ (t522=x19_2):=by simpa using c172))
         clear c172
         obtain rfl:=zI H
         go_wp2
         go_ret
         exact ⟨re,bel⟩
       rw [if_pos c172] at H
       have c172b0:(t522 == x19_2)=true:=c172
       (try (have c172b1:decide (t522=x19_2)=true:=by simpa using c172))
       (try (have c172b2:(t522 == x19_2)=true:=by simpa using c172))
       clear c172
       by_cases c173:t522=true
       rotate_left
       · replace c173:=Bool.eq_false_iff.mpr c173
         subst c173
         replace H:=iN H
         obtain rfl:=zI H
         go_wp2
         go_ret
         exact ⟨re,bel⟩
       subst c173
       replace H:=iP H
       obtain rfl:=zI H
       have hnb174:=NB523_517.out
       have hnc174:=NB517_523.out
       have hnb175:=NB523_529.out
       have hnc175:=NB529_523.out
       have hnb176:=NB523_536.out
       have hnc176:=NB536_523.out
       have hnb177:=NB523_543.out
       have hnc177:=NB543_523.out
       have hnb178:=NB523_548.out
       have hnc178:=NB548_523.out
       obtain ⟨hcz179_0,hcz179_1,hcz179_2,hcz179_3,hfz179_0,hfz179_1,hfz179_2,hfz179_3⟩:=bx4 BK523
       have hnb180:=NB548_517.out
       have hnc180:=NB517_548.out
       have hnb181:=NB548_529.out
       have hnc181:=NB529_548.out
       have hnb182:=NB548_536.out
       have hnc182:=NB536_548.out
       have hnb183:=NB548_543.out
       have hnc183:=NB543_548.out
       obtain ⟨hcz184_0,hcz184_1,hcz184_2,hcz184_3,hfz184_0,hfz184_1,hfz184_2,hfz184_3⟩:=bx4 BK548
       go_wp2
       go_ret
       exact ⟨re,bel⟩
     rw [if_pos c106] at H
     have c106b0:decide (x96_2 < (t544.length:Int))=true:=zE c106
     clear c106
     by_cases c107:0≤x96_2
     rotate_left
     · rw [if_neg c107] at H
       exact absurd H (by simp)
     rw [if_pos c107] at H
     have c107b0:decide (0≤x96_2)=true:=zE c107
     clear c107
     by_cases c108:x96_2 < (t544.length:Int)
     rotate_left
     · rw [if_neg c108] at H
       exact absurd H (by simp)
     rw [if_pos c108] at H
     have c108b0:decide (x96_2 < (t544.length:Int))=true:=zE c108
     clear c108
     have HC109:=AsZ.mk H
     clear H
     have p549:0≤(x96_2:Int):=dd
     have q549:x96_2 < (t544.length:Int):=dd
     obtain ⟨ad549,e549,hx549_0,hx549_1,hx549_2,hx549_3⟩:=at_T28 (Kd.R_reads' HO_94.out).2.2 x96_2 p549 q549
     cases e549
     replace p549:=eq_true p549
     replace q549:=eq_true q549
     go_upto_region 18 with (first|((with_reducible refine gate_dst (N:=21) rfl ?_);(try (refine gate_guard (by rfl) ?_;dsimp only));refine bev 21 28 (cs:=#[.string (⟨#[]⟩:ByteArray),.int .i64 0,.int .i64 0,.string (⟨#[]⟩:ByteArray)]) ?_;intro gb550 hg w110 hbox hb;have BK550:=AsZ.mk (hbox);have GW550:=gz HB hg;have GE550:=gz HB hg;have NB517_550:=nl BK517 hg;have NB550_517:=nr BK517 hg;have NB523_550:=nl BK523 hg;have NB550_523:=nr BK523 hg;have NB529_550:=nl BK529 hg;have NB550_529:=nr BK529 hg;have NB536_550:=nl BK536 hg;have NB550_536:=nr BK536 hg;have NB543_550:=nl BK543 hg;have NB550_543:=nr BK543 hg;have NB548_550:=nl BK548 hg;have NB550_548:=nr BK548 hg;replace HO_16:=AsZ.mk (Kd.R_below (Kd.R_elderB (kR HO_16) gb550 (Nat.le_of_eq hg.symm)) hb);replace HO_94:=AsZ.mk (Kd.R_below (Kd.R_elderB (kR HO_94) gb550 (Nat.le_of_eq hg.symm)) hb);replace HO_518000:=rQ HO_518000 hb;replace HO_518001:=rS HO_518001 hb;replace BK517:=bb BK517 hb;replace BK523:=bb BK523 hb;replace BK529:=bb BK529 hb;replace BK536:=bb BK536 hb;replace BK543:=bb BK543 hb;replace BK548:=bb BK548 hb;replace HB:=bp hb;clear hb hbox hg;have hnb111:=NB550_517.out;have hnc111:=NB517_550.out;have hnb112:=NB550_523.out;have hnc112:=NB523_550.out;have hnb113:=NB550_529.out;have hnc113:=NB529_550.out;have hnb114:=NB550_536.out;have hnc114:=NB536_550.out;have hnb115:=NB550_543.out;have hnc115:=NB543_550.out;have hnb116:=NB550_548.out;have hnc116:=NB548_550.out;obtain ⟨hcz117_0,hcz117_1,hcz117_2,hcz117_3,hfz117_0,hfz117_1,hfz117_2,hfz117_3⟩:=bx4 BK550))
     (try simp only [Act.put,zS,zT,zU])
     go_cut [120] (fun v120 wc => ∃ (kq:Nat) (x120_108:Bool),v120 = .bool x120_108∧AsZ (laws_FnFound.j2 kq t515 t516 t522 t534 t544 x19_2 t544 (t544.length:Int) x96_2 x120_108 t518 t519 t520 t521 x549000_2 x549001_2 x549002_2 x549003_2 ((rd_T28 t544 x96_2).f0) ((rd_T28 t544 x96_2).f1) ((rd_T28 t544 x96_2).f2) ((rd_T28 t544 x96_2).f3)=some r)∧AsZ (kq≤k2)∧AsZ (Kd.R k28 28 wc w.heap.size (fun k_=>k_ ≠ gb523∧k_ ≠ gb529∧k_ ≠ gb536∧k_ ≠ gb543∧k_ ≠ gb548∧k_ ≠ gb550) (.slice (some ad549) t544.length co105) t544)∧AsZ (Kd.R k28 28 wc w.heap.size (fun k_=>k_ ≠ gb523∧k_ ≠ gb529∧k_ ≠ gb536∧k_ ≠ gb543∧k_ ≠ gb548∧k_ ≠ gb550) (.slice (some ad549) t544.length co105) t544)∧AsZ (Kd.Q (Kd.int .i64) 3 wc w.heap.size (fun _=>True) (.slice Ao11 t509.length co11) t509)∧AsZ (Kd.S k77 77 wc w.heap.size (fun k_=>some k_ ≠ ((.slice Ao11 t509.length co11):Value).ownBlock) (.slice Ao13 t512.length co13) t512)∧AsZ (wc.heap[gb517]? = some (.cells #[(.slice Ao11 t509.length co11),(.slice Ao13 t512.length co13)] 26 (0,0)))∧AsZ (wc.heap[gb523]? = some (.cells #[.string t518,.int .i64 t519,.int .i64 t520,.string t521] 28 (0,0)))∧AsZ (wc.heap[gb529]? = some (.cells #[.string t524,.int .i64 t525,.int .i64 t526,.string t527] 28 (0,0)))∧AsZ (wc.heap[gb536]? = some (.cells #[.string t530,.int .i64 t531,.int .i64 t532,.string t533] 28 (0,0)))∧AsZ (wc.heap[gb543]? = some (.cells #[.string t537,.int .i64 t538,.int .i64 t539,.string t540] 28 (0,0)))∧AsZ (wc.heap[gb548]? = some (.cells #[.string x549000_2,.int .i64 x549001_2,.int .i64 x549002_2,.string x549003_2] 28 (0,0)))∧AsZ (wc.heap[gb550]? = some (.cells #[.string ((rd_T28 t544 x96_2).f0),.int .i64 ((rd_T28 t544 x96_2).f1),.int .i64 ((rd_T28 t544 x96_2).f2),.string ((rd_T28 t544 x96_2).f3)] 28 (0,0)))∧AsZ (Below w.heap.size w wc))
     case first =>
      have H:=HC109.out
      clear HC109
      by_cases c118:((rd_T28 t544 x96_2).f0).toList=t515.toList
      rotate_left
      · rw [if_neg c118] at H
        have c118b0:(((rd_T28 t544 x96_2).f0).toList == t515.toList)=false:=beq_eq_false_iff_ne.mpr c118
        have c118b1:(((rd_T28 t544 x96_2).f0).toList != t515.toList)=true:=bne_iff_ne.mpr c118
        (first|rw [c118b0]|(simp only [i64_w,i32_w];rw [c118b0])|rw [c118b1]|skip)
        have H':=AsZ.mk H
        clear H
        have hnb148:=NB550_517.out
        have hnc148:=NB517_550.out
        have hnb149:=NB550_523.out
        have hnc149:=NB523_550.out
        have hnb150:=NB550_529.out
        have hnc150:=NB529_550.out
        have hnb151:=NB550_536.out
        have hnc151:=NB536_550.out
        have hnb152:=NB550_543.out
        have hnc152:=NB543_550.out
        have hnb153:=NB550_548.out
        have hnc153:=NB548_550.out
        obtain ⟨hcz154_0,hcz154_1,hcz154_2,hcz154_3,hfz154_0,hfz154_1,hfz154_2,hfz154_3⟩:=bx4 BK550
        go_wp2
        go_meet
        case rel=>exact ⟨_,(false),rs,H',⟨by have:=HJ7.out;have:=HK2.out;first|omega|exact Nat.le_refl _⟩,⟨by (with_reducible repeat (first|apply Kd.R_alloc|apply Kd.R_drewN|apply Kd.R_drew));exact Kd.R_mono (fR (fR (fR (fR (Kd.R_mono HO_16.out (fun k_ hk=>(⟨hk,hk.2⟩:_∧k_ ≠ gb550))))))) (fun _ hk=>⟨hk.1.1.1,⟨hk.1.1.2.1,⟨hk.1.1.2.2.1,⟨hk.1.1.2.2.2.1,⟨hk.1.1.2.2.2.2,hk.1.2⟩⟩⟩⟩⟩)⟩,⟨by (with_reducible repeat (first|apply Kd.R_alloc|apply Kd.R_drewN|apply Kd.R_drew));exact Kd.R_mono (fR (fR (fR (fR (Kd.R_mono HO_94.out (fun k_ hk=>(⟨hk,hk.2⟩:_∧k_ ≠ gb550))))))) (fun _ hk=>⟨hk.1.1.1,⟨hk.1.1.2.1,⟨hk.1.1.2.2.1,⟨hk.1.1.2.2.2.1,⟨hk.1.1.2.2.2.2,hk.1.2⟩⟩⟩⟩⟩)⟩,⟨by (with_reducible repeat (first|apply Kd.Q_alloc|apply Kd.Q_drewN|apply Kd.Q_drew));exact Kd.Q_mono (fQ (fQ (fQ (fQ (Kd.Q_types HO_518000.out BK550.out (by decide)))))) (fun _ hk=>trivial)⟩,⟨by (with_reducible repeat (first|apply Kd.S_alloc|apply Kd.S_drewN|apply Kd.S_drew));exact Kd.S_mono (fS (fS (fS (fS (Kd.S_types HO_518001.out BK550.out (by decide)))))) (fun _ hk=>hk.1)⟩,⟨bq BK517⟩,⟨bq BK523⟩,⟨bq BK529⟩,⟨bq BK536⟩,⟨bq BK543⟩,⟨bq BK548⟩,⟨bq BK550⟩,⟨bel⟩⟩
      rw [if_pos c118] at H
      have c118b0:(((rd_T28 t544 x96_2).f0).toList == t515.toList)=true:=beq_iff_eq.mpr c118
      have c118b1:(((rd_T28 t544 x96_2).f0).toList != t515.toList)=false:=bne_eq_false_iff_eq.mpr c118
      clear c118
      (first|rw [c118b0]|(simp only [i64_w,i32_w];rw [c118b0])|rw [c118b1]|skip)
      by_cases c119:((rd_T28 t544 x96_2).f1)≤t516
      rotate_left
      · rw [if_neg c119] at H
        have c119b0:decide (((rd_T28 t544 x96_2).f1)≤t516)=false:=decide_eq_false c119
        clear c119
        have H':=AsZ.mk H
        clear H
        have hnb141:=NB550_517.out
        have hnc141:=NB517_550.out
        have hnb142:=NB550_523.out
        have hnc142:=NB523_550.out
        have hnb143:=NB550_529.out
        have hnc143:=NB529_550.out
        have hnb144:=NB550_536.out
        have hnc144:=NB536_550.out
        have hnb145:=NB550_543.out
        have hnc145:=NB543_550.out
        have hnb146:=NB550_548.out
        have hnc146:=NB548_550.out
        obtain ⟨hcz147_0,hcz147_1,hcz147_2,hcz147_3,hfz147_0,hfz147_1,hfz147_2,hfz147_3⟩:=bx4 BK550
        go_wp2
        go_meet
        case rel=>exact ⟨_,(false),rs,H',⟨by have:=HJ7.out;have:=HK2.out;first|omega|exact Nat.le_refl _⟩,⟨by (with_reducible repeat (first|apply Kd.R_alloc|apply Kd.R_drewN|apply Kd.R_drew));exact Kd.R_mono (fR (fR (fR (fR (Kd.R_mono HO_16.out (fun k_ hk=>(⟨hk,hk.2⟩:_∧k_ ≠ gb550))))))) (fun _ hk=>⟨hk.1.1.1,⟨hk.1.1.2.1,⟨hk.1.1.2.2.1,⟨hk.1.1.2.2.2.1,⟨hk.1.1.2.2.2.2,hk.1.2⟩⟩⟩⟩⟩)⟩,⟨by (with_reducible repeat (first|apply Kd.R_alloc|apply Kd.R_drewN|apply Kd.R_drew));exact Kd.R_mono (fR (fR (fR (fR (Kd.R_mono HO_94.out (fun k_ hk=>(⟨hk,hk.2⟩:_∧k_ ≠ gb550))))))) (fun _ hk=>⟨hk.1.1.1,⟨hk.1.1.2.1,⟨hk.1.1.2.2.1,⟨hk.1.1.2.2.2.1,⟨hk.1.1.2.2.2.2,hk.1.2⟩⟩⟩⟩⟩)⟩,⟨by (with_reducible repeat (first|apply Kd.Q_alloc|apply Kd.Q_drewN|apply Kd.Q_drew));exact Kd.Q_mono (fQ (fQ (fQ (fQ (Kd.Q_types HO_518000.out BK550.out (by decide)))))) (fun _ hk=>trivial)⟩,⟨by (with_reducible repeat (first|apply Kd.S_alloc|apply Kd.S_drewN|apply Kd.S_drew));exact Kd.S_mono (fS (fS (fS (fS (Kd.S_types HO_518001.out BK550.out (by decide)))))) (fun _ hk=>hk.1)⟩,⟨bq BK517⟩,⟨bq BK523⟩,⟨bq BK529⟩,⟨bq BK536⟩,⟨bq BK543⟩,⟨bq BK548⟩,⟨bq BK550⟩,⟨bel⟩⟩
      rw [if_pos c119] at H
      have c119b0:decide (((rd_T28 t544 x96_2).f1)≤t516)=true:=zE c119
      clear c119
      by_cases c120:x19_2=true
      rotate_left
      · replace c120:=Bool.eq_false_iff.mpr c120
        subst c120
        replace H:=iN H
        have H':=AsZ.mk H
        clear H
        have hnb134:=NB550_517.out
        have hnc134:=NB517_550.out
        have hnb135:=NB550_523.out
        have hnc135:=NB523_550.out
        have hnb136:=NB550_529.out
        have hnc136:=NB529_550.out
        have hnb137:=NB550_536.out
        have hnc137:=NB536_550.out
        have hnb138:=NB550_543.out
        have hnc138:=NB543_550.out
        have hnb139:=NB550_548.out
        have hnc139:=NB548_550.out
        obtain ⟨hcz140_0,hcz140_1,hcz140_2,hcz140_3,hfz140_0,hfz140_1,hfz140_2,hfz140_3⟩:=bx4 BK550
        go_wp2
        go_meet
        case rel=>exact ⟨_,(true),rs,H',⟨by have:=HJ7.out;have:=HK2.out;first|omega|exact Nat.le_refl _⟩,⟨by (with_reducible repeat (first|apply Kd.R_alloc|apply Kd.R_drewN|apply Kd.R_drew));exact Kd.R_mono (fR (fR (fR (fR (Kd.R_mono HO_16.out (fun k_ hk=>(⟨hk,hk.2⟩:_∧k_ ≠ gb550))))))) (fun _ hk=>⟨hk.1.1.1,⟨hk.1.1.2.1,⟨hk.1.1.2.2.1,⟨hk.1.1.2.2.2.1,⟨hk.1.1.2.2.2.2,hk.1.2⟩⟩⟩⟩⟩)⟩,⟨by (with_reducible repeat (first|apply Kd.R_alloc|apply Kd.R_drewN|apply Kd.R_drew));exact Kd.R_mono (fR (fR (fR (fR (Kd.R_mono HO_94.out (fun k_ hk=>(⟨hk,hk.2⟩:_∧k_ ≠ gb550))))))) (fun _ hk=>⟨hk.1.1.1,⟨hk.1.1.2.1,⟨hk.1.1.2.2.1,⟨hk.1.1.2.2.2.1,⟨hk.1.1.2.2.2.2,hk.1.2⟩⟩⟩⟩⟩)⟩,⟨by (with_reducible repeat (first|apply Kd.Q_alloc|apply Kd.Q_drewN|apply Kd.Q_drew));exact Kd.Q_mono (fQ (fQ (fQ (fQ (Kd.Q_types HO_518000.out BK550.out (by decide)))))) (fun _ hk=>trivial)⟩,⟨by (with_reducible repeat (first|apply Kd.S_alloc|apply Kd.S_drewN|apply Kd.S_drew));exact Kd.S_mono (fS (fS (fS (fS (Kd.S_types HO_518001.out BK550.out (by decide)))))) (fun _ hk=>hk.1)⟩,⟨bq BK517⟩,⟨bq BK523⟩,⟨bq BK529⟩,⟨bq BK536⟩,⟨bq BK543⟩,⟨bq BK548⟩,⟨bq BK550⟩,⟨bel⟩⟩
      subst c120
      replace H:=iP H
      have H':=AsZ.mk H
      clear H
      have hnb121:=NB550_517.out
      have hnc121:=NB517_550.out
      have hnb122:=NB550_523.out
      have hnc122:=NB523_550.out
      have hnb123:=NB550_529.out
      have hnc123:=NB529_550.out
      have hnb124:=NB550_536.out
      have hnc124:=NB536_550.out
      have hnb125:=NB550_543.out
      have hnc125:=NB543_550.out
      have hnb126:=NB550_548.out
      have hnc126:=NB548_550.out
      obtain ⟨hcz127_0,hcz127_1,hcz127_2,hcz127_3,hfz127_0,hfz127_1,hfz127_2,hfz127_3⟩:=bx4 BK550
      have hnb128:=NB548_517.out
      have hnc128:=NB517_548.out
      have hnb129:=NB548_523.out
      have hnc129:=NB523_548.out
      have hnb130:=NB548_529.out
      have hnc130:=NB529_548.out
      have hnb131:=NB548_536.out
      have hnc131:=NB536_548.out
      have hnb132:=NB548_543.out
      have hnc132:=NB543_548.out
      obtain ⟨hcz133_0,hcz133_1,hcz133_2,hcz133_3,hfz133_0,hfz133_1,hfz133_2,hfz133_3⟩:=bx4 BK548
      go_wp2
      go_meet
      case rel=>exact ⟨_,(decide (((rd_T28 t544 x96_2).f1) > x549001_2)),rs,H',⟨by have:=HJ7.out;have:=HK2.out;first|omega|exact Nat.le_refl _⟩,⟨by (with_reducible repeat (first|apply Kd.R_alloc|apply Kd.R_drewN|apply Kd.R_drew));exact Kd.R_mono (fR (fR (fR (fR (Kd.R_mono HO_16.out (fun k_ hk=>(⟨hk,hk.2⟩:_∧k_ ≠ gb550))))))) (fun _ hk=>⟨hk.1.1.1,⟨hk.1.1.2.1,⟨hk.1.1.2.2.1,⟨hk.1.1.2.2.2.1,⟨hk.1.1.2.2.2.2,hk.1.2⟩⟩⟩⟩⟩)⟩,⟨by (with_reducible repeat (first|apply Kd.R_alloc|apply Kd.R_drewN|apply Kd.R_drew));exact Kd.R_mono (fR (fR (fR (fR (Kd.R_mono HO_94.out (fun k_ hk=>(⟨hk,hk.2⟩:_∧k_ ≠ gb550))))))) (fun _ hk=>⟨hk.1.1.1,⟨hk.1.1.2.1,⟨hk.1.1.2.2.1,⟨hk.1.1.2.2.2.1,⟨hk.1.1.2.2.2.2,hk.1.2⟩⟩⟩⟩⟩)⟩,⟨by (with_reducible repeat (first|apply Kd.Q_alloc|apply Kd.Q_drewN|apply Kd.Q_drew));exact Kd.Q_mono (fQ (fQ (fQ (fQ (Kd.Q_types HO_518000.out BK550.out (by decide)))))) (fun _ hk=>trivial)⟩,⟨by (with_reducible repeat (first|apply Kd.S_alloc|apply Kd.S_drewN|apply Kd.S_drew));exact Kd.S_mono (fS (fS (fS (fS (Kd.S_types HO_518001.out BK550.out (by decide)))))) (fun _ hk=>hk.1)⟩,⟨bq BK517⟩,⟨bq BK523⟩,⟨bq BK529⟩,⟨bq BK536⟩,⟨bq BK543⟩,⟨bq BK548⟩,⟨bq BK550⟩,⟨bel⟩⟩
     case rest =>
      clear HC109
      try clear c2b0
      try clear c2b1
      try clear p2
      try clear p5 q5
      try clear hx5
      try clear c39b0
      try clear c39b1
      try clear c39b2
      try clear c40b0
      try clear c50b0
      try clear c50b1
      try clear c50b2
      try clear p54 q54
      try clear hx54
      try clear c60b0
      try clear c106b0
      try clear c107b0
      try clear c108b0
      try clear c118b0
      try clear c118b1
      try clear c119b0
      try clear hcz104_0 hcz104_1 hcz104_2 hcz104_3 hfz104_0 hfz104_1 hfz104_2 hfz104_3
      try clear hcz117_0 hcz117_1 hcz117_2 hcz117_3 hfz117_0 hfz117_1 hfz117_2 hfz117_3
      try clear hcz127_0 hcz127_1 hcz127_2 hcz127_3 hfz127_0 hfz127_1 hfz127_2 hfz127_3
      try clear hcz12_0 hcz12_1 hfz12_0 hfz12_1
      try clear hcz133_0 hcz133_1 hcz133_2 hcz133_3 hfz133_0 hfz133_1 hfz133_2 hfz133_3
      try clear hcz140_0 hcz140_1 hcz140_2 hcz140_3 hfz140_0 hfz140_1 hfz140_2 hfz140_3
      try clear hcz147_0 hcz147_1 hcz147_2 hcz147_3 hfz147_0 hfz147_1 hfz147_2 hfz147_3
      try clear hcz154_0 hcz154_1 hcz154_2 hcz154_3 hfz154_0 hfz154_1 hfz154_2 hfz154_3
      try clear hcz17_0 hcz17_1 hcz17_2 hcz17_3 hfz17_0 hfz17_1 hfz17_2 hfz17_3
      try clear hcz18_0 hcz18_1 hfz18_0 hfz18_1
      try clear hcz23_0 hcz23_1 hcz23_2 hcz23_3 hfz23_0 hfz23_1 hfz23_2 hfz23_3
      try clear hcz24_0 hcz24_1 hfz24_0 hfz24_1
      try clear hcz30_0 hcz30_1 hcz30_2 hcz30_3 hfz30_0 hfz30_1 hfz30_2 hfz30_3
      try clear hcz31_0 hcz31_1 hfz31_0 hfz31_1
      try clear hcz38_0 hcz38_1 hcz38_2 hcz38_3 hfz38_0 hfz38_1 hfz38_2 hfz38_3
      try clear hcz45_0 hcz45_1 hcz45_2 hcz45_3 hfz45_0 hfz45_1 hfz45_2 hfz45_3
      try clear hcz49_0 hcz49_1 hcz49_2 hcz49_3 hfz49_0 hfz49_1 hfz49_2 hfz49_3
      try clear hcz55_0 hcz55_1 hcz55_2 hcz55_3 hfz55_0 hfz55_1 hfz55_2 hfz55_3
      try clear hcz59_0 hcz59_1 hcz59_2 hcz59_3 hfz59_0 hfz59_1 hfz59_2 hfz59_3
      try clear hcz65_0 hcz65_1 hcz65_2 hcz65_3 hfz65_0 hfz65_1 hfz65_2 hfz65_3
      try clear hcz69_0 hcz69_1 hcz69_2 hcz69_3 hfz69_0 hfz69_1 hfz69_2 hfz69_3
      try clear hcz72_0 hcz72_1 hcz72_2 hcz72_3 hfz72_0 hfz72_1 hfz72_2 hfz72_3
      try clear hcz74_0 hcz74_1 hcz74_2 hcz74_3 hfz74_0 hfz74_1 hfz74_2 hfz74_3
      try clear hcz79_0 hcz79_1 hcz79_2 hcz79_3 hfz79_0 hfz79_1 hfz79_2 hfz79_3
      try clear hcz83_0 hcz83_1 hcz83_2 hcz83_3 hfz83_0 hfz83_1 hfz83_2 hfz83_3
      try clear hcz86_0 hcz86_1 hcz86_2 hcz86_3 hfz86_0 hfz86_1 hfz86_2 hfz86_3
      try clear hcz88_0 hcz88_1 hcz88_2 hcz88_3 hfz88_0 hfz88_1 hfz88_2 hfz88_3
      try clear hcz96_0 hcz96_1 hfz96_0 hfz96_1
      try clear hx549_0 hx549_1 hx549_2 hx549_3
      try clear p549 q549
      obtain ⟨kq,x120_108,rfl,HA,HJ108,HO_16,HO_94,HO_518000,HO_518001,BK517,BK523,BK529,BK536,BK543,BK548,BK550,HB⟩:=hcut
      cases kq with
      |zero=>exact absurd HA.out (by simp [laws_FnFound.j2])
      |succ kj108 =>
       have H:=HA.out
       clear HA
       simp only [laws_FnFound.j2] at H
       by_cases c155:x120_108=true
       rotate_left
       · replace c155:=Bool.eq_false_iff.mpr c155
         subst c155
         replace H:=iN H
         have H':=AsZ.mk H
         clear H
         go_wp2
         go_roundg kj108
         case measure=>have:=HJ7.out;have:=HK2.out;have:=HJ108.out;omega
         case rel=>exact ⟨(x19_2),(wrap64 (x96_2 + 1)),(x549000_2),(x549001_2),(x549002_2),(x549003_2),rs,rs,H',⟨by have:=HJ7.out;have:=HK2.out;have:=HJ108.out;omega⟩,⟨by (with_reducible repeat (first|apply Kd.R_alloc|apply Kd.R_drewN|apply Kd.R_drew));exact Kd.R_mono HO_16.out (fun _ hk=>⟨hk.1,⟨hk.2.1,⟨hk.2.2.1,⟨hk.2.2.2.1,hk.2.2.2.2.1⟩⟩⟩⟩)⟩,⟨by (with_reducible repeat (first|apply Kd.R_alloc|apply Kd.R_drewN|apply Kd.R_drew));exact Kd.R_mono HO_94.out (fun _ hk=>⟨hk.1,⟨hk.2.1,⟨hk.2.2.1,⟨hk.2.2.2.1,hk.2.2.2.2.1⟩⟩⟩⟩)⟩,⟨kQ HO_518000⟩,⟨kS HO_518001⟩,⟨bk BK517⟩,⟨bk BK523⟩,⟨bk BK529⟩,⟨bk BK536⟩,⟨bk BK543⟩,⟨bk BK548⟩,⟨bel⟩⟩
       subst c155
       replace H:=iP H
       have H':=AsZ.mk H
       clear H
       have hnb156:=NB550_517.out
       have hnc156:=NB517_550.out
       have hnb157:=NB550_523.out
       have hnc157:=NB523_550.out
       have hnb158:=NB550_529.out
       have hnc158:=NB529_550.out
       have hnb159:=NB550_536.out
       have hnc159:=NB536_550.out
       have hnb160:=NB550_543.out
       have hnc160:=NB543_550.out
       have hnb161:=NB550_548.out
       have hnc161:=NB548_550.out
       obtain ⟨hcz162_0,hcz162_1,hcz162_2,hcz162_3,hfz162_0,hfz162_1,hfz162_2,hfz162_3⟩:=bx4 BK550
       have hnb163:=NB548_517.out
       have hnc163:=NB517_548.out
       have hnb164:=NB548_523.out
       have hnc164:=NB523_548.out
       have hnb165:=NB548_529.out
       have hnc165:=NB529_548.out
       have hnb166:=NB548_536.out
       have hnc166:=NB536_548.out
       have hnb167:=NB548_543.out
       have hnc167:=NB543_548.out
       obtain ⟨hcz168_0,hcz168_1,hcz168_2,hcz168_3,hfz168_0,hfz168_1,hfz168_2,hfz168_3⟩:=bx4 BK548
       go_wp2
       go_roundg kj108
       case measure=>have:=HJ7.out;have:=HK2.out;have:=HJ108.out;omega
       case rel=>exact ⟨(true),(wrap64 (x96_2 + 1)),(((rd_T28 t544 x96_2).f0)),(((rd_T28 t544 x96_2).f1)),(((rd_T28 t544 x96_2).f2)),(((rd_T28 t544 x96_2).f3)),rs,rs,H',⟨by have:=HJ7.out;have:=HK2.out;have:=HJ108.out;omega⟩,⟨by (with_reducible repeat (first|apply Kd.R_alloc|apply Kd.R_drewN|apply Kd.R_drew));exact Kd.R_mono (fR (fR (fR (fR (Kd.R_mono HO_16.out (fun k_ hk=>(⟨hk,hk.2.2.2.2.1⟩:_∧k_ ≠ gb548))))))) (fun _ hk=>⟨hk.1.1,⟨hk.1.2.1,⟨hk.1.2.2.1,⟨hk.1.2.2.2.1,hk.1.2.2.2.2.1⟩⟩⟩⟩)⟩,⟨by (with_reducible repeat (first|apply Kd.R_alloc|apply Kd.R_drewN|apply Kd.R_drew));exact Kd.R_mono (fR (fR (fR (fR (Kd.R_mono HO_94.out (fun k_ hk=>(⟨hk,hk.2.2.2.2.1⟩:_∧k_ ≠ gb548))))))) (fun _ hk=>⟨hk.1.1,⟨hk.1.2.1,⟨hk.1.2.2.1,⟨hk.1.2.2.2.1,hk.1.2.2.2.2.1⟩⟩⟩⟩)⟩,⟨by (with_reducible repeat (first|apply Kd.Q_alloc|apply Kd.Q_drewN|apply Kd.Q_drew));exact Kd.Q_mono (fQ (fQ (fQ (fQ (Kd.Q_types HO_518000.out BK548.out (by decide)))))) (fun _ hk=>trivial)⟩,⟨by (with_reducible repeat (first|apply Kd.S_alloc|apply Kd.S_drewN|apply Kd.S_drew));exact Kd.S_mono (fS (fS (fS (fS (Kd.S_types HO_518001.out BK548.out (by decide)))))) (fun _ hk=>hk.1)⟩,⟨bq BK517⟩,⟨bq BK523⟩,⟨bq BK529⟩,⟨bq BK536⟩,⟨bq BK543⟩,⟨bq BK548⟩,⟨bel⟩⟩
/-- THE ONE PURE STATEMENT of laws_FnFound: yours. -/
def laws_FnFound.Pure:Prop := ∀ (l0:List Int),l0.length≤maxLen→l0.length * 1≤140737488351232→(∀ x ∈ l0,(Lit.int .u8 x).wf=true) → ∃ k,laws_FnFound.f k l0=some true
theorem laws_FnFound.walk (P:laws_FnFound.Pure) (a0:Option Addr) (len0 cap0:Nat) (z0:List Int) (w:World) (hT:Tab w) (w0:(a0=none∧len0=0∧cap0=0∧z0=[]) ∨ ∃ x,a0=some x∧len0≤cap0∧cap0≤maxLen∧z0.length=cap0∧(∀ i,i < z0.length→w.cell? (x.add i)=some (.int .u8 (z0.getD i 0))) ∧ ∀ n ∈ z0,(Lit.int .u8 n).wf=true) (y0:len0 * 1≤140737488351232) :
    Calls Tryd.prog 9 #[.slice a0 len0 cap0] w fun e w'=>e = .returned (.bool true)∧Below w.heap.size w w':=by
  obtain ⟨l0,rfl,hr0,hm0,hw0,hc0⟩:=ReadsInt.ofRowC w0
  obtain ⟨k,h⟩:=P l0 hm0 y0 hw0
  refine (laws_FnFound.calls k _ _ l0 true w (Kd.C_of_reads (d:=(0:Int)) (h1:=fun _=>rfl) hr0) hc0 hT h).mono ?_
  rintro e w' ⟨rfl,hd⟩
  exact ⟨rfl,hd⟩
end Go.Proofs.YtffjlpphcjfdgaaDoor.MFnFound
