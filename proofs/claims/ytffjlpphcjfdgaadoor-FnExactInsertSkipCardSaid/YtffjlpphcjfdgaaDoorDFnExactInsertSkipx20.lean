-- Written by a program of this session out of the translation. Not trusted: Lean checks it.
import Derived.Test.YtffjlpphcjfdgaaDoorMFnExactInsertSkipx0
import Derived.Test.YtffjlpphcjfdgaaDoorMFnExactInsertSkipx7
import Derived.Test.YtffjlpphcjfdgaaDoorMFnExactInsertSkipx14
import Derived.Test.YtffjlpphcjfdgaaDoorMFnExactInsertSkipx15
import Derived.Test.YtffjlpphcjfdgaaDoorMFnExactInsertSkipx16
import Derived.Test.YtffjlpphcjfdgaaDoorMFnExactInsertSkipx17
import Derived.Test.YtffjlpphcjfdgaaDoorMFnExactInsertSkipx19
namespace Go.Proofs.YtffjlpphcjfdgaaDoor.MFnExactInsertSkip
-- joined
-- short
-- TAB
-- RD
open Go.Proofs.YtffjlpphcjfdgaaDoor Go.RowKit Go.Proofs.YtffjlpphcjfdgaaDoorW.PrintWords Go.Proofs.YtffjlpphcjfdgaaDoorW.PrintLast Go.Proofs.YtffjlpphcjfdgaaDoorW.PrintMore Go.Proofs.YtffjlpphcjfdgaaDoorX
attribute [local go_sem] max2_int min2_int max_two min_two max_three min_three max_four min_four str_gtr str_leq str_geq cell_twice
set_option linter.unusedVariables false
set_option linter.unusedSimpArgs false
/-! ### laws_FnExactInsertSkip: function 5 -/
mutual
def laws_FnExactInsertSkip.j0:Nat→Bool→Bool→Bool→List Int→List (S113)→ByteArray→Int→Int→ByteArray→List Int→List (S77)→List Int→List (S77)→List Int→List (S77)→Option (Bool)
  |0,_,_,_,_,_,_,_,_,_,_,_,_,_,_,_=>none
  |k + 1,x7,x10,x51,x435000,x435001,x436000,x436001,x436002,x436003,x456000,x456001,x463000,x463001,x475000,x475001=>if x51=true then (some false) else ((laws_toSkip.f k x435000 x435001).bind fun bt476=>((laws_eqSkip.f k x463000 x463001 bt476.1 bt476.2).bind fun t482=>(if t482=true then ((laws_markSkip.f k x463000 x463001 1).bind fun t483=>(if t483 < 0 then (laws_FnExactInsertSkip.j1 k x7 true x435000 x435001 x436000 x436001 x436002 x436003 x456000 x456001 x475000 x475001) else ((laws_eqSkip.f k x475000 x475001 x456000 x456001).bind fun t484=>(if t484=true then (laws_FnExactInsertSkip.j1 k x7 (x10 != x7) x435000 x435001 x436000 x436001 x436002 x436003 x456000 x456001 x475000 x475001) else (laws_FnExactInsertSkip.j1 k x7 true x435000 x435001 x436000 x436001 x436002 x436003 x456000 x456001 x475000 x475001))))) else (some false))))
def laws_FnExactInsertSkip.j1:Nat→Bool→Bool→List Int→List (S113)→ByteArray→Int→Int→ByteArray→List Int→List (S77)→List Int→List (S77)→Option (Bool)
  |0,_,_,_,_,_,_,_,_,_,_,_,_=>none
  |k + 1,x7,x72,x435000,x435001,x436000,x436001,x436002,x436003,x456000,x456001,x475000,x475001=>if x72=true then (some false) else ((laws_markSkip.f2 k x475000 x475001 1).bind fun bt485=>((laws_heldSkip.f k bt485.2.1 bt485.2.2 1).bind fun t486=>(if t486 < 0 then (some false) else (if t486=bt485.1 then ((laws_toSkip.f k x435000 x435001).bind fun bt487=>((laws_toItem.f x436000 x436001 x436002 x436003).bind fun bt493=>((impl_InsertSkip.f k bt487.1 bt487.2 bt493.1 bt493.2.1 bt493.2.2.1 bt493.2.2.2).bind fun bt497=>((laws_eqSkip.f k bt497.1 bt497.2.1 x456000 x456001).bind fun t505=>(if t505=true then (laws_FnExactInsertSkip.j2 k bt485.1 (bt497.2.2 != x7) bt485.2.1 bt485.2.2) else (laws_FnExactInsertSkip.j2 k bt485.1 true bt485.2.1 bt485.2.2)))))) else (some false)))))
def laws_FnExactInsertSkip.j2:Nat→Int→Bool→List Int→List (S77)→Option (Bool)
  |0,_,_,_,_=>none
  |k + 1,x12,x100,x475000,x475001=>if x100=true then (some false) else ((laws_heldSkip.f k x475000 x475001 1).bind fun t506=>(if t506 < 0 then (some false) else (if t506=x12 then (some true) else (some false))))
end
def laws_FnExactInsertSkip.f (k:Nat) (l0_0:List Int) (l0_1:List (S113)) (a1_0:ByteArray) (a1_1:Int) (a1_2:Int) (a1_3:ByteArray):Option (Bool):=(laws_szSkip.f k l0_0 l0_1 1048576).bind fun t436=>(if t436 < 0 then (some true) else ((laws_szItem.f a1_0 a1_1 a1_2 a1_3 t436).bind fun t437=>(if t437 < 0 then (some true) else ((laws_toSkip.f k l0_0 l0_1).bind fun bt438=>((laws_toItem.f a1_0 a1_1 a1_2 a1_3).bind fun bt444=>((spec_InsertSkip.f k bt438.1 bt438.2 bt444.1 bt444.2.1 bt444.2.2.1 bt444.2.2.2).bind fun bt448=>((laws_toSkip.f k l0_0 l0_1).bind fun bt456=>((laws_toItem.f a1_0 a1_1 a1_2 a1_3).bind fun bt463=>((impl_InsertSkip.f k bt456.1 bt456.2 bt463.1 bt463.2.1 bt463.2.2.1 bt463.2.2.2).bind fun bt467=>((laws_eqSkip.f k bt467.1 bt467.2.1 bt448.1 bt448.2.1).bind fun t475=>(if t475=true then (laws_FnExactInsertSkip.j0 k bt448.2.2 bt467.2.2 (bt467.2.2 != bt448.2.2) l0_0 l0_1 a1_0 a1_1 a1_2 a1_3 bt448.1 bt448.2.1 bt456.1 bt456.2 bt467.1 bt467.2.1) else (laws_FnExactInsertSkip.j0 k bt448.2.2 bt467.2.2 true l0_0 l0_1 a1_0 a1_1 a1_2 a1_3 bt448.1 bt448.2.1 bt456.1 bt456.2 bt467.1 bt467.2.1))))))))))))
theorem laws_FnExactInsertSkip.mono_l:∀ k,(∀ y0 y1 y2 y3 y4 y5 y6 y7 y8 y9 y10 y11 y12 y13 y14,LeO (laws_FnExactInsertSkip.j0 k y0 y1 y2 y3 y4 y5 y6 y7 y8 y9 y10 y11 y12 y13 y14) (laws_FnExactInsertSkip.j0 (k + 1) y0 y1 y2 y3 y4 y5 y6 y7 y8 y9 y10 y11 y12 y13 y14))∧(∀ y0 y1 y2 y3 y4 y5 y6 y7 y8 y9 y10 y11,LeO (laws_FnExactInsertSkip.j1 k y0 y1 y2 y3 y4 y5 y6 y7 y8 y9 y10 y11) (laws_FnExactInsertSkip.j1 (k + 1) y0 y1 y2 y3 y4 y5 y6 y7 y8 y9 y10 y11))∧(∀ y0 y1 y2 y3,LeO (laws_FnExactInsertSkip.j2 k y0 y1 y2 y3) (laws_FnExactInsertSkip.j2 (k + 1) y0 y1 y2 y3))
  |0=>⟨fun _ _ _ _ _ _ _ _ _ _ _ _ _ _ _ r h=>by simp [laws_FnExactInsertSkip.j0] at h,fun _ _ _ _ _ _ _ _ _ _ _ _ r h=>by simp [laws_FnExactInsertSkip.j1] at h,fun _ _ _ _ r h=>by simp [laws_FnExactInsertSkip.j2] at h⟩
  |k + 1=>by
    obtain ⟨ih0,ih1,ih2⟩:=laws_FnExactInsertSkip.mono_l k;refine ⟨?_,?_,?_⟩
    · intro y0 y1 y2 y3 y4 y5 y6 y7 y8 y9 y10 y11 y12 y13 y14
      unfold laws_FnExactInsertSkip.j0
      repeat' first
      |(with_reducible exact ih0 _ _ _ _ _ _ _ _ _ _ _ _ _ _ _)
      |(with_reducible exact ih1 _ _ _ _ _ _ _ _ _ _ _ _)
      |(with_reducible exact ih2 _ _ _ _)
      |(with_reducible exact impl_InsertSkip.mono _ _ _ _ _ _ _)
      |(with_reducible exact laws_eqSkip.mono _ _ _ _ _)
      |(with_reducible exact laws_heldSkip.mono _ _ _ _)
      |(with_reducible exact laws_markSkip.mono _ _ _ _)
      |(with_reducible exact laws_markSkip.mono2 _ _ _ _)
      |(with_reducible exact laws_szSkip.mono _ _ _ _)
      |(with_reducible exact laws_toSkip.mono _ _ _)
      |(with_reducible exact spec_InsertSkip.mono _ _ _ _ _ _ _)
      |(with_reducible exact LeO.refl _)
      |(with_reducible exact LeO.none _)
      |(with_reducible refine LeO.ite ?_ ?_)
      |(with_reducible refine LeO.bind ?_ (fun _=>?_))
      |exact ih0 _ _ _ _ _ _ _ _ _ _ _ _ _ _ _
      |exact ih1 _ _ _ _ _ _ _ _ _ _ _ _
      |exact ih2 _ _ _ _
      |exact impl_InsertSkip.mono _ _ _ _ _ _ _
      |exact laws_eqSkip.mono _ _ _ _ _
      |exact laws_heldSkip.mono _ _ _ _
      |exact laws_markSkip.mono _ _ _ _
      |exact laws_markSkip.mono2 _ _ _ _
      |exact laws_szSkip.mono _ _ _ _
      |exact laws_toSkip.mono _ _ _
      |exact spec_InsertSkip.mono _ _ _ _ _ _ _
      |exact LeO.none _
      |refine LeO.ite ?_ ?_
      |refine LeO.bind ?_ (fun _=>?_)
    · intro y0 y1 y2 y3 y4 y5 y6 y7 y8 y9 y10 y11
      unfold laws_FnExactInsertSkip.j1
      repeat' first
      |(with_reducible exact ih0 _ _ _ _ _ _ _ _ _ _ _ _ _ _ _)
      |(with_reducible exact ih1 _ _ _ _ _ _ _ _ _ _ _ _)
      |(with_reducible exact ih2 _ _ _ _)
      |(with_reducible exact impl_InsertSkip.mono _ _ _ _ _ _ _)
      |(with_reducible exact laws_eqSkip.mono _ _ _ _ _)
      |(with_reducible exact laws_heldSkip.mono _ _ _ _)
      |(with_reducible exact laws_markSkip.mono _ _ _ _)
      |(with_reducible exact laws_markSkip.mono2 _ _ _ _)
      |(with_reducible exact laws_szSkip.mono _ _ _ _)
      |(with_reducible exact laws_toSkip.mono _ _ _)
      |(with_reducible exact spec_InsertSkip.mono _ _ _ _ _ _ _)
      |(with_reducible exact LeO.refl _)
      |(with_reducible exact LeO.none _)
      |(with_reducible refine LeO.ite ?_ ?_)
      |(with_reducible refine LeO.bind ?_ (fun _=>?_))
      |exact ih0 _ _ _ _ _ _ _ _ _ _ _ _ _ _ _
      |exact ih1 _ _ _ _ _ _ _ _ _ _ _ _
      |exact ih2 _ _ _ _
      |exact impl_InsertSkip.mono _ _ _ _ _ _ _
      |exact laws_eqSkip.mono _ _ _ _ _
      |exact laws_heldSkip.mono _ _ _ _
      |exact laws_markSkip.mono _ _ _ _
      |exact laws_markSkip.mono2 _ _ _ _
      |exact laws_szSkip.mono _ _ _ _
      |exact laws_toSkip.mono _ _ _
      |exact spec_InsertSkip.mono _ _ _ _ _ _ _
      |exact LeO.none _
      |refine LeO.ite ?_ ?_
      |refine LeO.bind ?_ (fun _=>?_)
    · intro y0 y1 y2 y3
      unfold laws_FnExactInsertSkip.j2
      repeat' first
      |(with_reducible exact ih0 _ _ _ _ _ _ _ _ _ _ _ _ _ _ _)
      |(with_reducible exact ih1 _ _ _ _ _ _ _ _ _ _ _ _)
      |(with_reducible exact ih2 _ _ _ _)
      |(with_reducible exact impl_InsertSkip.mono _ _ _ _ _ _ _)
      |(with_reducible exact laws_eqSkip.mono _ _ _ _ _)
      |(with_reducible exact laws_heldSkip.mono _ _ _ _)
      |(with_reducible exact laws_markSkip.mono _ _ _ _)
      |(with_reducible exact laws_markSkip.mono2 _ _ _ _)
      |(with_reducible exact laws_szSkip.mono _ _ _ _)
      |(with_reducible exact laws_toSkip.mono _ _ _)
      |(with_reducible exact spec_InsertSkip.mono _ _ _ _ _ _ _)
      |(with_reducible exact LeO.refl _)
      |(with_reducible exact LeO.none _)
      |(with_reducible refine LeO.ite ?_ ?_)
      |(with_reducible refine LeO.bind ?_ (fun _=>?_))
      |exact ih0 _ _ _ _ _ _ _ _ _ _ _ _ _ _ _
      |exact ih1 _ _ _ _ _ _ _ _ _ _ _ _
      |exact ih2 _ _ _ _
      |exact impl_InsertSkip.mono _ _ _ _ _ _ _
      |exact laws_eqSkip.mono _ _ _ _ _
      |exact laws_heldSkip.mono _ _ _ _
      |exact laws_markSkip.mono _ _ _ _
      |exact laws_markSkip.mono2 _ _ _ _
      |exact laws_szSkip.mono _ _ _ _
      |exact laws_toSkip.mono _ _ _
      |exact spec_InsertSkip.mono _ _ _ _ _ _ _
      |exact LeO.none _
      |refine LeO.ite ?_ ?_
      |refine LeO.bind ?_ (fun _=>?_)
theorem laws_FnExactInsertSkip.mono:∀ a0 a1 a2 a3 a4 a5 k,LeO (laws_FnExactInsertSkip.f k a0 a1 a2 a3 a4 a5) (laws_FnExactInsertSkip.f (k + 1) a0 a1 a2 a3 a4 a5):=by
  intro a0 a1 a2 a3 a4 a5 k;obtain ⟨ih0,ih1,ih2⟩:=laws_FnExactInsertSkip.mono_l k;unfold laws_FnExactInsertSkip.f
  repeat' first
      |(with_reducible exact ih0 _ _ _ _ _ _ _ _ _ _ _ _ _ _ _)
      |(with_reducible exact ih1 _ _ _ _ _ _ _ _ _ _ _ _)
      |(with_reducible exact ih2 _ _ _ _)
      |(with_reducible exact impl_InsertSkip.mono _ _ _ _ _ _ _)
      |(with_reducible exact laws_eqSkip.mono _ _ _ _ _)
      |(with_reducible exact laws_heldSkip.mono _ _ _ _)
      |(with_reducible exact laws_markSkip.mono _ _ _ _)
      |(with_reducible exact laws_markSkip.mono2 _ _ _ _)
      |(with_reducible exact laws_szSkip.mono _ _ _ _)
      |(with_reducible exact laws_toSkip.mono _ _ _)
      |(with_reducible exact spec_InsertSkip.mono _ _ _ _ _ _ _)
      |(with_reducible exact LeO.refl _)
      |(with_reducible exact LeO.none _)
      |(with_reducible refine LeO.ite ?_ ?_)
      |(with_reducible refine LeO.bind ?_ (fun _=>?_))
      |exact ih0 _ _ _ _ _ _ _ _ _ _ _ _ _ _ _
      |exact ih1 _ _ _ _ _ _ _ _ _ _ _ _
      |exact ih2 _ _ _ _
      |exact impl_InsertSkip.mono _ _ _ _ _ _ _
      |exact laws_eqSkip.mono _ _ _ _ _
      |exact laws_heldSkip.mono _ _ _ _
      |exact laws_markSkip.mono _ _ _ _
      |exact laws_markSkip.mono2 _ _ _ _
      |exact laws_szSkip.mono _ _ _ _
      |exact laws_toSkip.mono _ _ _
      |exact spec_InsertSkip.mono _ _ _ _ _ _ _
      |exact LeO.none _
      |refine LeO.ite ?_ ?_
      |refine LeO.bind ?_ (fun _=>?_)
def laws_FnExactInsertSkip.T8:Bool × List (List Nat × List Nat):=(true,[([],[]),([0],[0]),([],[]),([2,1],[2]),([1,3,3],[1,3]),([4],[4]),([5],[5]),([5],[5]),([],[]),([8,6,4,0,1,2,3,4,5,6,8],[6,8]),([7,9,0,1,2,3,4,5,6,7,8,9],[7])])
def laws_FnExactInsertSkip.B8:List Nat:=[0,1,0,7,15,31,63,63,0,383,1023]
theorem laws_FnExactInsertSkip.tab8:rtab .any (opsOf Tryd.f5 8)=laws_FnExactInsertSkip.T8:=by kernel_rfl
theorem laws_FnExactInsertSkip.bits8:waitsOk laws_FnExactInsertSkip.T8.2 laws_FnExactInsertSkip.B8=true:=by kernel_rfl
def laws_FnExactInsertSkip.T10:Bool × List (List Nat × List Nat):=(true,[([],[]),([],[]),([1],[1]),([0,2,2],[0,2]),([3],[3]),([4],[4]),([4],[4]),([],[]),([7,5,3,0,1,2,3,4,5,7],[5,7]),([6,8,0,1,2,3,4,5,6,7,8],[6])])
def laws_FnExactInsertSkip.B10:List Nat:=[0,0,2,7,15,31,31,0,191,511]
theorem laws_FnExactInsertSkip.tab10:rtab .any (opsOf Tryd.f5 10)=laws_FnExactInsertSkip.T10:=by kernel_rfl
theorem laws_FnExactInsertSkip.bits10:waitsOk laws_FnExactInsertSkip.T10.2 laws_FnExactInsertSkip.B10=true:=by kernel_rfl
def laws_FnExactInsertSkip.T27:Bool × List (List Nat × List Nat):=(true,[([],[]),([0],[0]),([],[]),([2,1],[2]),([1,3,3],[1,3]),([4],[4]),([5],[5]),([5],[5]),([],[]),([8,6,4,0,1,2,3,4,5,6,8],[6,8]),([7,9,0,1,2,3,4,5,6,7,8,9],[7])])
def laws_FnExactInsertSkip.B27:List Nat:=[0,1,0,7,15,31,63,63,0,383,1023]
theorem laws_FnExactInsertSkip.tab27:rtab .any (opsOf Tryd.f5 27)=laws_FnExactInsertSkip.T27:=by kernel_rfl
theorem laws_FnExactInsertSkip.bits27:waitsOk laws_FnExactInsertSkip.T27.2 laws_FnExactInsertSkip.B27=true:=by kernel_rfl
end Go.Proofs.YtffjlpphcjfdgaaDoor.MFnExactInsertSkip
