-- Written by a program of this session out of the translation. Not trusted: Lean checks it.
import Derived.Test.YtffjlpphcjfdgaaDoorMFnSkipx0
import Derived.Test.YtffjlpphcjfdgaaDoorMFnSkipx1
import Derived.Test.YtffjlpphcjfdgaaDoorMFnSkipx8
import Derived.Test.YtffjlpphcjfdgaaDoorMFnSkipx12
import Derived.Test.YtffjlpphcjfdgaaDoorMFnSkipx15
import Derived.Test.YtffjlpphcjfdgaaDoorMFnSkipx18
import Derived.Test.YtffjlpphcjfdgaaDoorMFnSkipx19
namespace Go.Proofs.YtffjlpphcjfdgaaDoor.MFnSkip
-- joined
-- short
-- TAB
-- RD
open Go.Proofs.YtffjlpphcjfdgaaDoor Go.RowKit Go.Proofs.YtffjlpphcjfdgaaDoorW.PrintWords Go.Proofs.YtffjlpphcjfdgaaDoorW.PrintLast Go.Proofs.YtffjlpphcjfdgaaDoorW.PrintMore Go.Proofs.YtffjlpphcjfdgaaDoorX
attribute [local go_sem] max2_int min2_int max_two min_two max_three min_three max_four min_four str_gtr str_leq str_geq cell_twice
set_option linter.unusedVariables false
set_option linter.unusedSimpArgs false
attribute [local go_sem high] eqA28
/-! ### laws_FnSkip: function 3 -/
mutual
def laws_FnSkip.j0:Nat→List (S28)→List (S28)→Bool→ByteArray→Int→Int→ByteArray→List Int→List (S77)→Option (Bool)
  |0,_,_,_,_,_,_,_,_,_=>none
  |k + 1,x9,x11,x85,x539000,x539001,x539002,x539003,x547000,x547001=>if x85=true then (some false) else (laws_FnSkip.l0 k x9 x11 0 x11 (x11.length:Int) 0 x539000 x539001 x539002 x539003 x547000 x547001)
def laws_FnSkip.l0:Nat→List (S28)→List (S28)→Int→List (S28)→Int→Int→ByteArray→Int→Int→ByteArray→List Int→List (S77)→Option (Bool)
  |0,_,_,_,_,_,_,_,_,_,_,_,_=>none
  |k + 1,x9,x11,x13,x86,x87,x88,x539000,x539001,x539002,x539003,x547000,x547001=>if x88 < x87 then (if 0≤x88 then (if x88 < (x86.length:Int) then (if x88 > 0 then (if 0≤(wrap64 (x88 - 1)) then (if (wrap64 (x88 - 1)) < (x11.length:Int) then ((spec_CompareItem.f k ((rd_T28 x11 (wrap64 (x88 - 1))).f0) ((rd_T28 x11 (wrap64 (x88 - 1))).f1) ((rd_T28 x11 (wrap64 (x88 - 1))).f2) ((rd_T28 x11 (wrap64 (x88 - 1))).f3) ((rd_T28 x86 x88).f0) ((rd_T28 x86 x88).f1) ((rd_T28 x86 x88).f2) ((rd_T28 x86 x88).f3)).bind fun bt567=>(if bt567.2=true then (laws_FnSkip.j2 k x9 x11 x13 x86 x87 x88 (bt567.1 != (-1)) x539000 x539001 x539002 x539003 x547000 x547001 ((rd_T28 x86 x88).f0) ((rd_T28 x86 x88).f1) ((rd_T28 x86 x88).f2) ((rd_T28 x86 x88).f3)) else (laws_FnSkip.j2 k x9 x11 x13 x86 x87 x88 true x539000 x539001 x539002 x539003 x547000 x547001 ((rd_T28 x86 x88).f0) ((rd_T28 x86 x88).f1) ((rd_T28 x86 x88).f2) ((rd_T28 x86 x88).f3)))) else (none)) else (none)) else (laws_FnSkip.j3 k x9 x11 x13 x86 x87 x88 x539000 x539001 x539002 x539003 x547000 x547001 ((rd_T28 x86 x88).f0) ((rd_T28 x86 x88).f1) ((rd_T28 x86 x88).f2) ((rd_T28 x86 x88).f3))) else (none)) else (none)) else (laws_FnSkip.l1 k 1 x547000 x547001)
def laws_FnSkip.j3:Nat→List (S28)→List (S28)→Int→List (S28)→Int→Int→ByteArray→Int→Int→ByteArray→List Int→List (S77)→ByteArray→Int→Int→ByteArray→Option (Bool)
  |0,_,_,_,_,_,_,_,_,_,_,_,_,_,_,_,_=>none
  |k + 1,x9,x11,x13,x86,x87,x88,x539000,x539001,x539002,x539003,x547000,x547001,x566000,x566001,x566002,x566003=>if (x566000.toList == x539000.toList && (x566001 == x539001 && (x566002 == x539002 && (x566003.toList == x539003.toList))))=true then (laws_FnSkip.l0 k x9 x11 x13 x86 x87 (wrap64 (x88 + 1)) x539000 x539001 x539002 x539003 x547000 x547001) else (if x13 ≥ (x9.length:Int) then (laws_FnSkip.j4 k x9 x11 x13 x86 x87 x88 true x539000 x539001 x539002 x539003 x547000 x547001) else (if 0≤x13 then (if x13 < (x9.length:Int) then (laws_FnSkip.j4 k x9 x11 x13 x86 x87 x88 (!((((rd_T28 x9 x13).f0).toList) == x566000.toList) || (!(((rd_T28 x9 x13).f1) == x566001) || (!(((rd_T28 x9 x13).f2) == x566002) || (!((((rd_T28 x9 x13).f3).toList) == x566003.toList))))) x539000 x539001 x539002 x539003 x547000 x547001) else (none)) else (none)))
def laws_FnSkip.j4:Nat→List (S28)→List (S28)→Int→List (S28)→Int→Int→Bool→ByteArray→Int→Int→ByteArray→List Int→List (S77)→Option (Bool)
  |0,_,_,_,_,_,_,_,_,_,_,_,_,_=>none
  |k + 1,x9,x11,x13,x86,x87,x88,x125,x539000,x539001,x539002,x539003,x547000,x547001=>if x125=true then (some false) else (laws_FnSkip.l0 k x9 x11 (wrap64 (x13 + 1)) x86 x87 (wrap64 (x88 + 1)) x539000 x539001 x539002 x539003 x547000 x547001)
def laws_FnSkip.j2:Nat→List (S28)→List (S28)→Int→List (S28)→Int→Int→Bool→ByteArray→Int→Int→ByteArray→List Int→List (S77)→ByteArray→Int→Int→ByteArray→Option (Bool)
  |0,_,_,_,_,_,_,_,_,_,_,_,_,_,_,_,_,_=>none
  |k + 1,x9,x11,x13,x86,x87,x88,x110,x539000,x539001,x539002,x539003,x547000,x547001,x566000,x566001,x566002,x566003=>if x110=true then (some false) else (laws_FnSkip.j3 k x9 x11 x13 x86 x87 x88 x539000 x539001 x539002 x539003 x547000 x547001 x566000 x566001 x566002 x566003)
def laws_FnSkip.l1:Nat→Int→List Int→List (S77)→Option (Bool)
  |0,_,_,_=>none
  |k + 1,x18,x547000,x547001=>if x18 < 5 then ((impl_ListSkip.f k x547000 x547001 x18).bind fun bt570=>((impl_ListSkip.f k x547000 x547001 (wrap64 (x18 - 1))).bind fun bt574=>(laws_FnSkip.l2 k x18 bt570.2 bt574.1 bt574.2 0 bt570.1 (bt570.1.length:Int) 0 x547000 x547001))) else (some true)
def laws_FnSkip.l2:Nat→Int→Bool→List (S28)→Bool→Int→List (S28)→Int→Int→List Int→List (S77)→Option (Bool)
  |0,_,_,_,_,_,_,_,_,_,_=>none
  |k + 1,x18,x20,x21,x22,x23,x146,x147,x148,x547000,x547001=>if x148 < x147 then (if 0≤x148 then (if x148 < (x146.length:Int) then (laws_FnSkip.l3 k x18 x20 x21 x22 x23 x146 x147 x148 x547000 x547001 ((rd_T28 x146 x148).f0) ((rd_T28 x146 x148).f1) ((rd_T28 x146 x148).f2) ((rd_T28 x146 x148).f3)) else (none)) else (none)) else (if x20=true then (laws_FnSkip.j10 k x18 (!x22) x547000 x547001) else (laws_FnSkip.j10 k x18 true x547000 x547001))
def laws_FnSkip.l3:Nat→Int→Bool→List (S28)→Bool→Int→List (S28)→Int→Int→List Int→List (S77)→ByteArray→Int→Int→ByteArray→Option (Bool)
  |0,_,_,_,_,_,_,_,_,_,_,_,_,_,_=>none
  |k + 1,x18,x20,x21,x22,x23,x146,x147,x148,x547000,x547001,x580000,x580001,x580002,x580003=>if x23 < (x21.length:Int) then (if 0≤x23 then (laws_FnSkip.j8 k x18 x20 x21 x22 x23 x146 x147 x148 (!((((rd_T28 x21 x23).f0).toList) == x580000.toList) || (!(((rd_T28 x21 x23).f1) == x580001) || (!(((rd_T28 x21 x23).f2) == x580002) || (!((((rd_T28 x21 x23).f3).toList) == x580003.toList))))) x547000 x547001 x580000 x580001 x580002 x580003) else (none)) else (laws_FnSkip.j8 k x18 x20 x21 x22 x23 x146 x147 x148 false x547000 x547001 x580000 x580001 x580002 x580003)
def laws_FnSkip.j8:Nat→Int→Bool→List (S28)→Bool→Int→List (S28)→Int→Int→Bool→List Int→List (S77)→ByteArray→Int→Int→ByteArray→Option (Bool)
  |0,_,_,_,_,_,_,_,_,_,_,_,_,_,_,_=>none
  |k + 1,x18,x20,x21,x22,x23,x146,x147,x148,x163,x547000,x547001,x580000,x580001,x580002,x580003=>if x163=true then (laws_FnSkip.l3 k x18 x20 x21 x22 (wrap64 (x23 + 1)) x146 x147 x148 x547000 x547001 x580000 x580001 x580002 x580003) else ((spec_TowerOf.f k x580000 x580001).bind fun bt581=>(if x23=(x21.length:Int) then (laws_FnSkip.j9 k x18 x20 x21 x22 x23 x146 x147 x148 true x547000 x547001) else (if bt581.2=true then (laws_FnSkip.j9 k x18 x20 x21 x22 x23 x146 x147 x148 (decide (bt581.1≤x18)) x547000 x547001) else (laws_FnSkip.j9 k x18 x20 x21 x22 x23 x146 x147 x148 true x547000 x547001))))
def laws_FnSkip.j9:Nat→Int→Bool→List (S28)→Bool→Int→List (S28)→Int→Int→Bool→List Int→List (S77)→Option (Bool)
  |0,_,_,_,_,_,_,_,_,_,_,_=>none
  |k + 1,x18,x20,x21,x22,x23,x146,x147,x148,x186,x547000,x547001=>if x186=true then (some false) else (laws_FnSkip.l2 k x18 x20 x21 x22 x23 x146 x147 (wrap64 (x148 + 1)) x547000 x547001)
def laws_FnSkip.j10:Nat→Int→Bool→List Int→List (S77)→Option (Bool)
  |0,_,_,_,_=>none
  |k + 1,x18,x193,x547000,x547001=>if x193=true then (some false) else (laws_FnSkip.l1 k (wrap64 (x18 + 1)) x547000 x547001)
end
def laws_FnSkip.f (k:Nat) (l0:List Int):Option (Bool):=if (l0.length:Int) > 1048576 then (some true) else ((spec_DrawInsertSkip.f k l0).bind fun bt527=>((impl_InsertSkip.f k bt527.1 bt527.2.1 bt527.2.2.1 bt527.2.2.2.1 bt527.2.2.2.2.1 bt527.2.2.2.2.2).bind fun bt539=>((spec_InsertSkip.f k bt527.1 bt527.2.1 bt527.2.2.1 bt527.2.2.2.1 bt527.2.2.2.2.1 bt527.2.2.2.2.2).bind fun bt547=>(if (bt539.2.2 != bt547.2.2)=true then (some false) else (if bt539.2.2=true then ((impl_ListSkip.f k bt527.1 bt527.2.1 0).bind fun bt555=>((impl_ListSkip.f k bt539.1 bt539.2.1 0).bind fun bt559=>(if bt555.2=true then (if bt559.2=true then (if (bt559.1.length:Int)=(wrap64 ((bt555.1.length:Int) + 1)) then ((impl_GoodSkip.f k bt539.1 bt539.2.1).bind fun t563=>(laws_FnSkip.j0 k bt555.1 bt559.1 (!t563) bt527.2.2.1 bt527.2.2.2.1 bt527.2.2.2.2.1 bt527.2.2.2.2.2 bt539.1 bt539.2.1)) else (laws_FnSkip.j0 k bt555.1 bt559.1 true bt527.2.2.1 bt527.2.2.2.1 bt527.2.2.2.2.1 bt527.2.2.2.2.2 bt539.1 bt539.2.1)) else (laws_FnSkip.j0 k bt555.1 bt559.1 true bt527.2.2.1 bt527.2.2.2.1 bt527.2.2.2.2.1 bt527.2.2.2.2.2 bt539.1 bt539.2.1)) else (laws_FnSkip.j0 k bt555.1 bt559.1 true bt527.2.2.1 bt527.2.2.2.1 bt527.2.2.2.2.1 bt527.2.2.2.2.2 bt539.1 bt539.2.1)))) else (some ((bt539.2.1.length:Int) == 0)))))))
theorem laws_FnSkip.mono_l:∀ k,(∀ y0 y1 y2 y3 y4 y5 y6 y7 y8,LeO (laws_FnSkip.j0 k y0 y1 y2 y3 y4 y5 y6 y7 y8) (laws_FnSkip.j0 (k + 1) y0 y1 y2 y3 y4 y5 y6 y7 y8))∧(∀ y0 y1 y2 y3 y4 y5 y6 y7 y8 y9 y10 y11,LeO (laws_FnSkip.l0 k y0 y1 y2 y3 y4 y5 y6 y7 y8 y9 y10 y11) (laws_FnSkip.l0 (k + 1) y0 y1 y2 y3 y4 y5 y6 y7 y8 y9 y10 y11))∧(∀ y0 y1 y2 y3 y4 y5 y6 y7 y8 y9 y10 y11 y12 y13 y14 y15,LeO (laws_FnSkip.j3 k y0 y1 y2 y3 y4 y5 y6 y7 y8 y9 y10 y11 y12 y13 y14 y15) (laws_FnSkip.j3 (k + 1) y0 y1 y2 y3 y4 y5 y6 y7 y8 y9 y10 y11 y12 y13 y14 y15))∧(∀ y0 y1 y2 y3 y4 y5 y6 y7 y8 y9 y10 y11 y12,LeO (laws_FnSkip.j4 k y0 y1 y2 y3 y4 y5 y6 y7 y8 y9 y10 y11 y12) (laws_FnSkip.j4 (k + 1) y0 y1 y2 y3 y4 y5 y6 y7 y8 y9 y10 y11 y12))∧(∀ y0 y1 y2 y3 y4 y5 y6 y7 y8 y9 y10 y11 y12 y13 y14 y15 y16,LeO (laws_FnSkip.j2 k y0 y1 y2 y3 y4 y5 y6 y7 y8 y9 y10 y11 y12 y13 y14 y15 y16) (laws_FnSkip.j2 (k + 1) y0 y1 y2 y3 y4 y5 y6 y7 y8 y9 y10 y11 y12 y13 y14 y15 y16))∧(∀ y0 y1 y2,LeO (laws_FnSkip.l1 k y0 y1 y2) (laws_FnSkip.l1 (k + 1) y0 y1 y2))∧(∀ y0 y1 y2 y3 y4 y5 y6 y7 y8 y9,LeO (laws_FnSkip.l2 k y0 y1 y2 y3 y4 y5 y6 y7 y8 y9) (laws_FnSkip.l2 (k + 1) y0 y1 y2 y3 y4 y5 y6 y7 y8 y9))∧(∀ y0 y1 y2 y3 y4 y5 y6 y7 y8 y9 y10 y11 y12 y13,LeO (laws_FnSkip.l3 k y0 y1 y2 y3 y4 y5 y6 y7 y8 y9 y10 y11 y12 y13) (laws_FnSkip.l3 (k + 1) y0 y1 y2 y3 y4 y5 y6 y7 y8 y9 y10 y11 y12 y13))∧(∀ y0 y1 y2 y3 y4 y5 y6 y7 y8 y9 y10 y11 y12 y13 y14,LeO (laws_FnSkip.j8 k y0 y1 y2 y3 y4 y5 y6 y7 y8 y9 y10 y11 y12 y13 y14) (laws_FnSkip.j8 (k + 1) y0 y1 y2 y3 y4 y5 y6 y7 y8 y9 y10 y11 y12 y13 y14))∧(∀ y0 y1 y2 y3 y4 y5 y6 y7 y8 y9 y10,LeO (laws_FnSkip.j9 k y0 y1 y2 y3 y4 y5 y6 y7 y8 y9 y10) (laws_FnSkip.j9 (k + 1) y0 y1 y2 y3 y4 y5 y6 y7 y8 y9 y10))∧(∀ y0 y1 y2 y3,LeO (laws_FnSkip.j10 k y0 y1 y2 y3) (laws_FnSkip.j10 (k + 1) y0 y1 y2 y3))
  |0=>⟨fun _ _ _ _ _ _ _ _ _ r h=>by simp [laws_FnSkip.j0] at h,fun _ _ _ _ _ _ _ _ _ _ _ _ r h=>by simp [laws_FnSkip.l0] at h,fun _ _ _ _ _ _ _ _ _ _ _ _ _ _ _ _ r h=>by simp [laws_FnSkip.j3] at h,fun _ _ _ _ _ _ _ _ _ _ _ _ _ r h=>by simp [laws_FnSkip.j4] at h,fun _ _ _ _ _ _ _ _ _ _ _ _ _ _ _ _ _ r h=>by simp [laws_FnSkip.j2] at h,fun _ _ _ r h=>by simp [laws_FnSkip.l1] at h,fun _ _ _ _ _ _ _ _ _ _ r h=>by simp [laws_FnSkip.l2] at h,fun _ _ _ _ _ _ _ _ _ _ _ _ _ _ r h=>by simp [laws_FnSkip.l3] at h,fun _ _ _ _ _ _ _ _ _ _ _ _ _ _ _ r h=>by simp [laws_FnSkip.j8] at h,fun _ _ _ _ _ _ _ _ _ _ _ r h=>by simp [laws_FnSkip.j9] at h,fun _ _ _ _ r h=>by simp [laws_FnSkip.j10] at h⟩
  |k + 1=>by
    obtain ⟨ih0,ih1,ih2,ih3,ih4,ih5,ih6,ih7,ih8,ih9,ih10⟩:=laws_FnSkip.mono_l k;refine ⟨?_,?_,?_,?_,?_,?_,?_,?_,?_,?_,?_⟩
    · intro y0 y1 y2 y3 y4 y5 y6 y7 y8
      unfold laws_FnSkip.j0
      repeat' first
      |(with_reducible exact ih0 _ _ _ _ _ _ _ _ _)
      |(with_reducible exact ih1 _ _ _ _ _ _ _ _ _ _ _ _)
      |(with_reducible exact ih2 _ _ _ _ _ _ _ _ _ _ _ _ _ _ _ _)
      |(with_reducible exact ih3 _ _ _ _ _ _ _ _ _ _ _ _ _)
      |(with_reducible exact ih4 _ _ _ _ _ _ _ _ _ _ _ _ _ _ _ _ _)
      |(with_reducible exact ih5 _ _ _)
      |(with_reducible exact ih6 _ _ _ _ _ _ _ _ _ _)
      |(with_reducible exact ih7 _ _ _ _ _ _ _ _ _ _ _ _ _ _)
      |(with_reducible exact ih8 _ _ _ _ _ _ _ _ _ _ _ _ _ _ _)
      |(with_reducible exact ih9 _ _ _ _ _ _ _ _ _ _ _)
      |(with_reducible exact ih10 _ _ _ _)
      |(with_reducible exact impl_GoodSkip.mono _ _ _)
      |(with_reducible exact impl_InsertSkip.mono _ _ _ _ _ _ _)
      |(with_reducible exact impl_ListSkip.mono _ _ _ _)
      |(with_reducible exact spec_CompareItem.mono _ _ _ _ _ _ _ _ _)
      |(with_reducible exact spec_DrawInsertSkip.mono _ _)
      |(with_reducible exact spec_InsertSkip.mono _ _ _ _ _ _ _)
      |(with_reducible exact spec_TowerOf.mono _ _ _)
      |(with_reducible exact LeO.refl _)
      |(with_reducible exact LeO.none _)
      |(with_reducible refine LeO.ite ?_ ?_)
      |(with_reducible refine LeO.bind ?_ (fun _=>?_))
      |exact ih0 _ _ _ _ _ _ _ _ _
      |exact ih1 _ _ _ _ _ _ _ _ _ _ _ _
      |exact ih2 _ _ _ _ _ _ _ _ _ _ _ _ _ _ _ _
      |exact ih3 _ _ _ _ _ _ _ _ _ _ _ _ _
      |exact ih4 _ _ _ _ _ _ _ _ _ _ _ _ _ _ _ _ _
      |exact ih5 _ _ _
      |exact ih6 _ _ _ _ _ _ _ _ _ _
      |exact ih7 _ _ _ _ _ _ _ _ _ _ _ _ _ _
      |exact ih8 _ _ _ _ _ _ _ _ _ _ _ _ _ _ _
      |exact ih9 _ _ _ _ _ _ _ _ _ _ _
      |exact ih10 _ _ _ _
      |exact impl_GoodSkip.mono _ _ _
      |exact impl_InsertSkip.mono _ _ _ _ _ _ _
      |exact impl_ListSkip.mono _ _ _ _
      |exact spec_CompareItem.mono _ _ _ _ _ _ _ _ _
      |exact spec_DrawInsertSkip.mono _ _
      |exact spec_InsertSkip.mono _ _ _ _ _ _ _
      |exact spec_TowerOf.mono _ _ _
      |exact LeO.none _
      |refine LeO.ite ?_ ?_
      |refine LeO.bind ?_ (fun _=>?_)
    · intro y0 y1 y2 y3 y4 y5 y6 y7 y8 y9 y10 y11
      unfold laws_FnSkip.l0
      repeat' first
      |(with_reducible exact ih0 _ _ _ _ _ _ _ _ _)
      |(with_reducible exact ih1 _ _ _ _ _ _ _ _ _ _ _ _)
      |(with_reducible exact ih2 _ _ _ _ _ _ _ _ _ _ _ _ _ _ _ _)
      |(with_reducible exact ih3 _ _ _ _ _ _ _ _ _ _ _ _ _)
      |(with_reducible exact ih4 _ _ _ _ _ _ _ _ _ _ _ _ _ _ _ _ _)
      |(with_reducible exact ih5 _ _ _)
      |(with_reducible exact ih6 _ _ _ _ _ _ _ _ _ _)
      |(with_reducible exact ih7 _ _ _ _ _ _ _ _ _ _ _ _ _ _)
      |(with_reducible exact ih8 _ _ _ _ _ _ _ _ _ _ _ _ _ _ _)
      |(with_reducible exact ih9 _ _ _ _ _ _ _ _ _ _ _)
      |(with_reducible exact ih10 _ _ _ _)
      |(with_reducible exact impl_GoodSkip.mono _ _ _)
      |(with_reducible exact impl_InsertSkip.mono _ _ _ _ _ _ _)
      |(with_reducible exact impl_ListSkip.mono _ _ _ _)
      |(with_reducible exact spec_CompareItem.mono _ _ _ _ _ _ _ _ _)
      |(with_reducible exact spec_DrawInsertSkip.mono _ _)
      |(with_reducible exact spec_InsertSkip.mono _ _ _ _ _ _ _)
      |(with_reducible exact spec_TowerOf.mono _ _ _)
      |(with_reducible exact LeO.refl _)
      |(with_reducible exact LeO.none _)
      |(with_reducible refine LeO.ite ?_ ?_)
      |(with_reducible refine LeO.bind ?_ (fun _=>?_))
      |exact ih0 _ _ _ _ _ _ _ _ _
      |exact ih1 _ _ _ _ _ _ _ _ _ _ _ _
      |exact ih2 _ _ _ _ _ _ _ _ _ _ _ _ _ _ _ _
      |exact ih3 _ _ _ _ _ _ _ _ _ _ _ _ _
      |exact ih4 _ _ _ _ _ _ _ _ _ _ _ _ _ _ _ _ _
      |exact ih5 _ _ _
      |exact ih6 _ _ _ _ _ _ _ _ _ _
      |exact ih7 _ _ _ _ _ _ _ _ _ _ _ _ _ _
      |exact ih8 _ _ _ _ _ _ _ _ _ _ _ _ _ _ _
      |exact ih9 _ _ _ _ _ _ _ _ _ _ _
      |exact ih10 _ _ _ _
      |exact impl_GoodSkip.mono _ _ _
      |exact impl_InsertSkip.mono _ _ _ _ _ _ _
      |exact impl_ListSkip.mono _ _ _ _
      |exact spec_CompareItem.mono _ _ _ _ _ _ _ _ _
      |exact spec_DrawInsertSkip.mono _ _
      |exact spec_InsertSkip.mono _ _ _ _ _ _ _
      |exact spec_TowerOf.mono _ _ _
      |exact LeO.none _
      |refine LeO.ite ?_ ?_
      |refine LeO.bind ?_ (fun _=>?_)
    · intro y0 y1 y2 y3 y4 y5 y6 y7 y8 y9 y10 y11 y12 y13 y14 y15
      unfold laws_FnSkip.j3
      repeat' first
      |(with_reducible exact ih0 _ _ _ _ _ _ _ _ _)
      |(with_reducible exact ih1 _ _ _ _ _ _ _ _ _ _ _ _)
      |(with_reducible exact ih2 _ _ _ _ _ _ _ _ _ _ _ _ _ _ _ _)
      |(with_reducible exact ih3 _ _ _ _ _ _ _ _ _ _ _ _ _)
      |(with_reducible exact ih4 _ _ _ _ _ _ _ _ _ _ _ _ _ _ _ _ _)
      |(with_reducible exact ih5 _ _ _)
      |(with_reducible exact ih6 _ _ _ _ _ _ _ _ _ _)
      |(with_reducible exact ih7 _ _ _ _ _ _ _ _ _ _ _ _ _ _)
      |(with_reducible exact ih8 _ _ _ _ _ _ _ _ _ _ _ _ _ _ _)
      |(with_reducible exact ih9 _ _ _ _ _ _ _ _ _ _ _)
      |(with_reducible exact ih10 _ _ _ _)
      |(with_reducible exact impl_GoodSkip.mono _ _ _)
      |(with_reducible exact impl_InsertSkip.mono _ _ _ _ _ _ _)
      |(with_reducible exact impl_ListSkip.mono _ _ _ _)
      |(with_reducible exact spec_CompareItem.mono _ _ _ _ _ _ _ _ _)
      |(with_reducible exact spec_DrawInsertSkip.mono _ _)
      |(with_reducible exact spec_InsertSkip.mono _ _ _ _ _ _ _)
      |(with_reducible exact spec_TowerOf.mono _ _ _)
      |(with_reducible exact LeO.refl _)
      |(with_reducible exact LeO.none _)
      |(with_reducible refine LeO.ite ?_ ?_)
      |(with_reducible refine LeO.bind ?_ (fun _=>?_))
      |exact ih0 _ _ _ _ _ _ _ _ _
      |exact ih1 _ _ _ _ _ _ _ _ _ _ _ _
      |exact ih2 _ _ _ _ _ _ _ _ _ _ _ _ _ _ _ _
      |exact ih3 _ _ _ _ _ _ _ _ _ _ _ _ _
      |exact ih4 _ _ _ _ _ _ _ _ _ _ _ _ _ _ _ _ _
      |exact ih5 _ _ _
      |exact ih6 _ _ _ _ _ _ _ _ _ _
      |exact ih7 _ _ _ _ _ _ _ _ _ _ _ _ _ _
      |exact ih8 _ _ _ _ _ _ _ _ _ _ _ _ _ _ _
      |exact ih9 _ _ _ _ _ _ _ _ _ _ _
      |exact ih10 _ _ _ _
      |exact impl_GoodSkip.mono _ _ _
      |exact impl_InsertSkip.mono _ _ _ _ _ _ _
      |exact impl_ListSkip.mono _ _ _ _
      |exact spec_CompareItem.mono _ _ _ _ _ _ _ _ _
      |exact spec_DrawInsertSkip.mono _ _
      |exact spec_InsertSkip.mono _ _ _ _ _ _ _
      |exact spec_TowerOf.mono _ _ _
      |exact LeO.none _
      |refine LeO.ite ?_ ?_
      |refine LeO.bind ?_ (fun _=>?_)
    · intro y0 y1 y2 y3 y4 y5 y6 y7 y8 y9 y10 y11 y12
      unfold laws_FnSkip.j4
      repeat' first
      |(with_reducible exact ih0 _ _ _ _ _ _ _ _ _)
      |(with_reducible exact ih1 _ _ _ _ _ _ _ _ _ _ _ _)
      |(with_reducible exact ih2 _ _ _ _ _ _ _ _ _ _ _ _ _ _ _ _)
      |(with_reducible exact ih3 _ _ _ _ _ _ _ _ _ _ _ _ _)
      |(with_reducible exact ih4 _ _ _ _ _ _ _ _ _ _ _ _ _ _ _ _ _)
      |(with_reducible exact ih5 _ _ _)
      |(with_reducible exact ih6 _ _ _ _ _ _ _ _ _ _)
      |(with_reducible exact ih7 _ _ _ _ _ _ _ _ _ _ _ _ _ _)
      |(with_reducible exact ih8 _ _ _ _ _ _ _ _ _ _ _ _ _ _ _)
      |(with_reducible exact ih9 _ _ _ _ _ _ _ _ _ _ _)
      |(with_reducible exact ih10 _ _ _ _)
      |(with_reducible exact impl_GoodSkip.mono _ _ _)
      |(with_reducible exact impl_InsertSkip.mono _ _ _ _ _ _ _)
      |(with_reducible exact impl_ListSkip.mono _ _ _ _)
      |(with_reducible exact spec_CompareItem.mono _ _ _ _ _ _ _ _ _)
      |(with_reducible exact spec_DrawInsertSkip.mono _ _)
      |(with_reducible exact spec_InsertSkip.mono _ _ _ _ _ _ _)
      |(with_reducible exact spec_TowerOf.mono _ _ _)
      |(with_reducible exact LeO.refl _)
      |(with_reducible exact LeO.none _)
      |(with_reducible refine LeO.ite ?_ ?_)
      |(with_reducible refine LeO.bind ?_ (fun _=>?_))
      |exact ih0 _ _ _ _ _ _ _ _ _
      |exact ih1 _ _ _ _ _ _ _ _ _ _ _ _
      |exact ih2 _ _ _ _ _ _ _ _ _ _ _ _ _ _ _ _
      |exact ih3 _ _ _ _ _ _ _ _ _ _ _ _ _
      |exact ih4 _ _ _ _ _ _ _ _ _ _ _ _ _ _ _ _ _
      |exact ih5 _ _ _
      |exact ih6 _ _ _ _ _ _ _ _ _ _
      |exact ih7 _ _ _ _ _ _ _ _ _ _ _ _ _ _
      |exact ih8 _ _ _ _ _ _ _ _ _ _ _ _ _ _ _
      |exact ih9 _ _ _ _ _ _ _ _ _ _ _
      |exact ih10 _ _ _ _
      |exact impl_GoodSkip.mono _ _ _
      |exact impl_InsertSkip.mono _ _ _ _ _ _ _
      |exact impl_ListSkip.mono _ _ _ _
      |exact spec_CompareItem.mono _ _ _ _ _ _ _ _ _
      |exact spec_DrawInsertSkip.mono _ _
      |exact spec_InsertSkip.mono _ _ _ _ _ _ _
      |exact spec_TowerOf.mono _ _ _
      |exact LeO.none _
      |refine LeO.ite ?_ ?_
      |refine LeO.bind ?_ (fun _=>?_)
    · intro y0 y1 y2 y3 y4 y5 y6 y7 y8 y9 y10 y11 y12 y13 y14 y15 y16
      unfold laws_FnSkip.j2
      repeat' first
      |(with_reducible exact ih0 _ _ _ _ _ _ _ _ _)
      |(with_reducible exact ih1 _ _ _ _ _ _ _ _ _ _ _ _)
      |(with_reducible exact ih2 _ _ _ _ _ _ _ _ _ _ _ _ _ _ _ _)
      |(with_reducible exact ih3 _ _ _ _ _ _ _ _ _ _ _ _ _)
      |(with_reducible exact ih4 _ _ _ _ _ _ _ _ _ _ _ _ _ _ _ _ _)
      |(with_reducible exact ih5 _ _ _)
      |(with_reducible exact ih6 _ _ _ _ _ _ _ _ _ _)
      |(with_reducible exact ih7 _ _ _ _ _ _ _ _ _ _ _ _ _ _)
      |(with_reducible exact ih8 _ _ _ _ _ _ _ _ _ _ _ _ _ _ _)
      |(with_reducible exact ih9 _ _ _ _ _ _ _ _ _ _ _)
      |(with_reducible exact ih10 _ _ _ _)
      |(with_reducible exact impl_GoodSkip.mono _ _ _)
      |(with_reducible exact impl_InsertSkip.mono _ _ _ _ _ _ _)
      |(with_reducible exact impl_ListSkip.mono _ _ _ _)
      |(with_reducible exact spec_CompareItem.mono _ _ _ _ _ _ _ _ _)
      |(with_reducible exact spec_DrawInsertSkip.mono _ _)
      |(with_reducible exact spec_InsertSkip.mono _ _ _ _ _ _ _)
      |(with_reducible exact spec_TowerOf.mono _ _ _)
      |(with_reducible exact LeO.refl _)
      |(with_reducible exact LeO.none _)
      |(with_reducible refine LeO.ite ?_ ?_)
      |(with_reducible refine LeO.bind ?_ (fun _=>?_))
      |exact ih0 _ _ _ _ _ _ _ _ _
      |exact ih1 _ _ _ _ _ _ _ _ _ _ _ _
      |exact ih2 _ _ _ _ _ _ _ _ _ _ _ _ _ _ _ _
      |exact ih3 _ _ _ _ _ _ _ _ _ _ _ _ _
      |exact ih4 _ _ _ _ _ _ _ _ _ _ _ _ _ _ _ _ _
      |exact ih5 _ _ _
      |exact ih6 _ _ _ _ _ _ _ _ _ _
      |exact ih7 _ _ _ _ _ _ _ _ _ _ _ _ _ _
      |exact ih8 _ _ _ _ _ _ _ _ _ _ _ _ _ _ _
      |exact ih9 _ _ _ _ _ _ _ _ _ _ _
      |exact ih10 _ _ _ _
      |exact impl_GoodSkip.mono _ _ _
      |exact impl_InsertSkip.mono _ _ _ _ _ _ _
      |exact impl_ListSkip.mono _ _ _ _
      |exact spec_CompareItem.mono _ _ _ _ _ _ _ _ _
      |exact spec_DrawInsertSkip.mono _ _
      |exact spec_InsertSkip.mono _ _ _ _ _ _ _
      |exact spec_TowerOf.mono _ _ _
      |exact LeO.none _
      |refine LeO.ite ?_ ?_
      |refine LeO.bind ?_ (fun _=>?_)
    · intro y0 y1 y2
      unfold laws_FnSkip.l1
      repeat' first
      |(with_reducible exact ih0 _ _ _ _ _ _ _ _ _)
      |(with_reducible exact ih1 _ _ _ _ _ _ _ _ _ _ _ _)
      |(with_reducible exact ih2 _ _ _ _ _ _ _ _ _ _ _ _ _ _ _ _)
      |(with_reducible exact ih3 _ _ _ _ _ _ _ _ _ _ _ _ _)
      |(with_reducible exact ih4 _ _ _ _ _ _ _ _ _ _ _ _ _ _ _ _ _)
      |(with_reducible exact ih5 _ _ _)
      |(with_reducible exact ih6 _ _ _ _ _ _ _ _ _ _)
      |(with_reducible exact ih7 _ _ _ _ _ _ _ _ _ _ _ _ _ _)
      |(with_reducible exact ih8 _ _ _ _ _ _ _ _ _ _ _ _ _ _ _)
      |(with_reducible exact ih9 _ _ _ _ _ _ _ _ _ _ _)
      |(with_reducible exact ih10 _ _ _ _)
      |(with_reducible exact impl_GoodSkip.mono _ _ _)
      |(with_reducible exact impl_InsertSkip.mono _ _ _ _ _ _ _)
      |(with_reducible exact impl_ListSkip.mono _ _ _ _)
      |(with_reducible exact spec_CompareItem.mono _ _ _ _ _ _ _ _ _)
      |(with_reducible exact spec_DrawInsertSkip.mono _ _)
      |(with_reducible exact spec_InsertSkip.mono _ _ _ _ _ _ _)
      |(with_reducible exact spec_TowerOf.mono _ _ _)
      |(with_reducible exact LeO.refl _)
      |(with_reducible exact LeO.none _)
      |(with_reducible refine LeO.ite ?_ ?_)
      |(with_reducible refine LeO.bind ?_ (fun _=>?_))
      |exact ih0 _ _ _ _ _ _ _ _ _
      |exact ih1 _ _ _ _ _ _ _ _ _ _ _ _
      |exact ih2 _ _ _ _ _ _ _ _ _ _ _ _ _ _ _ _
      |exact ih3 _ _ _ _ _ _ _ _ _ _ _ _ _
      |exact ih4 _ _ _ _ _ _ _ _ _ _ _ _ _ _ _ _ _
      |exact ih5 _ _ _
      |exact ih6 _ _ _ _ _ _ _ _ _ _
      |exact ih7 _ _ _ _ _ _ _ _ _ _ _ _ _ _
      |exact ih8 _ _ _ _ _ _ _ _ _ _ _ _ _ _ _
      |exact ih9 _ _ _ _ _ _ _ _ _ _ _
      |exact ih10 _ _ _ _
      |exact impl_GoodSkip.mono _ _ _
      |exact impl_InsertSkip.mono _ _ _ _ _ _ _
      |exact impl_ListSkip.mono _ _ _ _
      |exact spec_CompareItem.mono _ _ _ _ _ _ _ _ _
      |exact spec_DrawInsertSkip.mono _ _
      |exact spec_InsertSkip.mono _ _ _ _ _ _ _
      |exact spec_TowerOf.mono _ _ _
      |exact LeO.none _
      |refine LeO.ite ?_ ?_
      |refine LeO.bind ?_ (fun _=>?_)
    · intro y0 y1 y2 y3 y4 y5 y6 y7 y8 y9
      unfold laws_FnSkip.l2
      repeat' first
      |(with_reducible exact ih0 _ _ _ _ _ _ _ _ _)
      |(with_reducible exact ih1 _ _ _ _ _ _ _ _ _ _ _ _)
      |(with_reducible exact ih2 _ _ _ _ _ _ _ _ _ _ _ _ _ _ _ _)
      |(with_reducible exact ih3 _ _ _ _ _ _ _ _ _ _ _ _ _)
      |(with_reducible exact ih4 _ _ _ _ _ _ _ _ _ _ _ _ _ _ _ _ _)
      |(with_reducible exact ih5 _ _ _)
      |(with_reducible exact ih6 _ _ _ _ _ _ _ _ _ _)
      |(with_reducible exact ih7 _ _ _ _ _ _ _ _ _ _ _ _ _ _)
      |(with_reducible exact ih8 _ _ _ _ _ _ _ _ _ _ _ _ _ _ _)
      |(with_reducible exact ih9 _ _ _ _ _ _ _ _ _ _ _)
      |(with_reducible exact ih10 _ _ _ _)
      |(with_reducible exact impl_GoodSkip.mono _ _ _)
      |(with_reducible exact impl_InsertSkip.mono _ _ _ _ _ _ _)
      |(with_reducible exact impl_ListSkip.mono _ _ _ _)
      |(with_reducible exact spec_CompareItem.mono _ _ _ _ _ _ _ _ _)
      |(with_reducible exact spec_DrawInsertSkip.mono _ _)
      |(with_reducible exact spec_InsertSkip.mono _ _ _ _ _ _ _)
      |(with_reducible exact spec_TowerOf.mono _ _ _)
      |(with_reducible exact LeO.refl _)
      |(with_reducible exact LeO.none _)
      |(with_reducible refine LeO.ite ?_ ?_)
      |(with_reducible refine LeO.bind ?_ (fun _=>?_))
      |exact ih0 _ _ _ _ _ _ _ _ _
      |exact ih1 _ _ _ _ _ _ _ _ _ _ _ _
      |exact ih2 _ _ _ _ _ _ _ _ _ _ _ _ _ _ _ _
      |exact ih3 _ _ _ _ _ _ _ _ _ _ _ _ _
      |exact ih4 _ _ _ _ _ _ _ _ _ _ _ _ _ _ _ _ _
      |exact ih5 _ _ _
      |exact ih6 _ _ _ _ _ _ _ _ _ _
      |exact ih7 _ _ _ _ _ _ _ _ _ _ _ _ _ _
      |exact ih8 _ _ _ _ _ _ _ _ _ _ _ _ _ _ _
      |exact ih9 _ _ _ _ _ _ _ _ _ _ _
      |exact ih10 _ _ _ _
      |exact impl_GoodSkip.mono _ _ _
      |exact impl_InsertSkip.mono _ _ _ _ _ _ _
      |exact impl_ListSkip.mono _ _ _ _
      |exact spec_CompareItem.mono _ _ _ _ _ _ _ _ _
      |exact spec_DrawInsertSkip.mono _ _
      |exact spec_InsertSkip.mono _ _ _ _ _ _ _
      |exact spec_TowerOf.mono _ _ _
      |exact LeO.none _
      |refine LeO.ite ?_ ?_
      |refine LeO.bind ?_ (fun _=>?_)
    · intro y0 y1 y2 y3 y4 y5 y6 y7 y8 y9 y10 y11 y12 y13
      unfold laws_FnSkip.l3
      repeat' first
      |(with_reducible exact ih0 _ _ _ _ _ _ _ _ _)
      |(with_reducible exact ih1 _ _ _ _ _ _ _ _ _ _ _ _)
      |(with_reducible exact ih2 _ _ _ _ _ _ _ _ _ _ _ _ _ _ _ _)
      |(with_reducible exact ih3 _ _ _ _ _ _ _ _ _ _ _ _ _)
      |(with_reducible exact ih4 _ _ _ _ _ _ _ _ _ _ _ _ _ _ _ _ _)
      |(with_reducible exact ih5 _ _ _)
      |(with_reducible exact ih6 _ _ _ _ _ _ _ _ _ _)
      |(with_reducible exact ih7 _ _ _ _ _ _ _ _ _ _ _ _ _ _)
      |(with_reducible exact ih8 _ _ _ _ _ _ _ _ _ _ _ _ _ _ _)
      |(with_reducible exact ih9 _ _ _ _ _ _ _ _ _ _ _)
      |(with_reducible exact ih10 _ _ _ _)
      |(with_reducible exact impl_GoodSkip.mono _ _ _)
      |(with_reducible exact impl_InsertSkip.mono _ _ _ _ _ _ _)
      |(with_reducible exact impl_ListSkip.mono _ _ _ _)
      |(with_reducible exact spec_CompareItem.mono _ _ _ _ _ _ _ _ _)
      |(with_reducible exact spec_DrawInsertSkip.mono _ _)
      |(with_reducible exact spec_InsertSkip.mono _ _ _ _ _ _ _)
      |(with_reducible exact spec_TowerOf.mono _ _ _)
      |(with_reducible exact LeO.refl _)
      |(with_reducible exact LeO.none _)
      |(with_reducible refine LeO.ite ?_ ?_)
      |(with_reducible refine LeO.bind ?_ (fun _=>?_))
      |exact ih0 _ _ _ _ _ _ _ _ _
      |exact ih1 _ _ _ _ _ _ _ _ _ _ _ _
      |exact ih2 _ _ _ _ _ _ _ _ _ _ _ _ _ _ _ _
      |exact ih3 _ _ _ _ _ _ _ _ _ _ _ _ _
      |exact ih4 _ _ _ _ _ _ _ _ _ _ _ _ _ _ _ _ _
      |exact ih5 _ _ _
      |exact ih6 _ _ _ _ _ _ _ _ _ _
      |exact ih7 _ _ _ _ _ _ _ _ _ _ _ _ _ _
      |exact ih8 _ _ _ _ _ _ _ _ _ _ _ _ _ _ _
      |exact ih9 _ _ _ _ _ _ _ _ _ _ _
      |exact ih10 _ _ _ _
      |exact impl_GoodSkip.mono _ _ _
      |exact impl_InsertSkip.mono _ _ _ _ _ _ _
      |exact impl_ListSkip.mono _ _ _ _
      |exact spec_CompareItem.mono _ _ _ _ _ _ _ _ _
      |exact spec_DrawInsertSkip.mono _ _
      |exact spec_InsertSkip.mono _ _ _ _ _ _ _
      |exact spec_TowerOf.mono _ _ _
      |exact LeO.none _
      |refine LeO.ite ?_ ?_
      |refine LeO.bind ?_ (fun _=>?_)
    · intro y0 y1 y2 y3 y4 y5 y6 y7 y8 y9 y10 y11 y12 y13 y14
      unfold laws_FnSkip.j8
      repeat' first
      |(with_reducible exact ih0 _ _ _ _ _ _ _ _ _)
      |(with_reducible exact ih1 _ _ _ _ _ _ _ _ _ _ _ _)
      |(with_reducible exact ih2 _ _ _ _ _ _ _ _ _ _ _ _ _ _ _ _)
      |(with_reducible exact ih3 _ _ _ _ _ _ _ _ _ _ _ _ _)
      |(with_reducible exact ih4 _ _ _ _ _ _ _ _ _ _ _ _ _ _ _ _ _)
      |(with_reducible exact ih5 _ _ _)
      |(with_reducible exact ih6 _ _ _ _ _ _ _ _ _ _)
      |(with_reducible exact ih7 _ _ _ _ _ _ _ _ _ _ _ _ _ _)
      |(with_reducible exact ih8 _ _ _ _ _ _ _ _ _ _ _ _ _ _ _)
      |(with_reducible exact ih9 _ _ _ _ _ _ _ _ _ _ _)
      |(with_reducible exact ih10 _ _ _ _)
      |(with_reducible exact impl_GoodSkip.mono _ _ _)
      |(with_reducible exact impl_InsertSkip.mono _ _ _ _ _ _ _)
      |(with_reducible exact impl_ListSkip.mono _ _ _ _)
      |(with_reducible exact spec_CompareItem.mono _ _ _ _ _ _ _ _ _)
      |(with_reducible exact spec_DrawInsertSkip.mono _ _)
      |(with_reducible exact spec_InsertSkip.mono _ _ _ _ _ _ _)
      |(with_reducible exact spec_TowerOf.mono _ _ _)
      |(with_reducible exact LeO.refl _)
      |(with_reducible exact LeO.none _)
      |(with_reducible refine LeO.ite ?_ ?_)
      |(with_reducible refine LeO.bind ?_ (fun _=>?_))
      |exact ih0 _ _ _ _ _ _ _ _ _
      |exact ih1 _ _ _ _ _ _ _ _ _ _ _ _
      |exact ih2 _ _ _ _ _ _ _ _ _ _ _ _ _ _ _ _
      |exact ih3 _ _ _ _ _ _ _ _ _ _ _ _ _
      |exact ih4 _ _ _ _ _ _ _ _ _ _ _ _ _ _ _ _ _
      |exact ih5 _ _ _
      |exact ih6 _ _ _ _ _ _ _ _ _ _
      |exact ih7 _ _ _ _ _ _ _ _ _ _ _ _ _ _
      |exact ih8 _ _ _ _ _ _ _ _ _ _ _ _ _ _ _
      |exact ih9 _ _ _ _ _ _ _ _ _ _ _
      |exact ih10 _ _ _ _
      |exact impl_GoodSkip.mono _ _ _
      |exact impl_InsertSkip.mono _ _ _ _ _ _ _
      |exact impl_ListSkip.mono _ _ _ _
      |exact spec_CompareItem.mono _ _ _ _ _ _ _ _ _
      |exact spec_DrawInsertSkip.mono _ _
      |exact spec_InsertSkip.mono _ _ _ _ _ _ _
      |exact spec_TowerOf.mono _ _ _
      |exact LeO.none _
      |refine LeO.ite ?_ ?_
      |refine LeO.bind ?_ (fun _=>?_)
    · intro y0 y1 y2 y3 y4 y5 y6 y7 y8 y9 y10
      unfold laws_FnSkip.j9
      repeat' first
      |(with_reducible exact ih0 _ _ _ _ _ _ _ _ _)
      |(with_reducible exact ih1 _ _ _ _ _ _ _ _ _ _ _ _)
      |(with_reducible exact ih2 _ _ _ _ _ _ _ _ _ _ _ _ _ _ _ _)
      |(with_reducible exact ih3 _ _ _ _ _ _ _ _ _ _ _ _ _)
      |(with_reducible exact ih4 _ _ _ _ _ _ _ _ _ _ _ _ _ _ _ _ _)
      |(with_reducible exact ih5 _ _ _)
      |(with_reducible exact ih6 _ _ _ _ _ _ _ _ _ _)
      |(with_reducible exact ih7 _ _ _ _ _ _ _ _ _ _ _ _ _ _)
      |(with_reducible exact ih8 _ _ _ _ _ _ _ _ _ _ _ _ _ _ _)
      |(with_reducible exact ih9 _ _ _ _ _ _ _ _ _ _ _)
      |(with_reducible exact ih10 _ _ _ _)
      |(with_reducible exact impl_GoodSkip.mono _ _ _)
      |(with_reducible exact impl_InsertSkip.mono _ _ _ _ _ _ _)
      |(with_reducible exact impl_ListSkip.mono _ _ _ _)
      |(with_reducible exact spec_CompareItem.mono _ _ _ _ _ _ _ _ _)
      |(with_reducible exact spec_DrawInsertSkip.mono _ _)
      |(with_reducible exact spec_InsertSkip.mono _ _ _ _ _ _ _)
      |(with_reducible exact spec_TowerOf.mono _ _ _)
      |(with_reducible exact LeO.refl _)
      |(with_reducible exact LeO.none _)
      |(with_reducible refine LeO.ite ?_ ?_)
      |(with_reducible refine LeO.bind ?_ (fun _=>?_))
      |exact ih0 _ _ _ _ _ _ _ _ _
      |exact ih1 _ _ _ _ _ _ _ _ _ _ _ _
      |exact ih2 _ _ _ _ _ _ _ _ _ _ _ _ _ _ _ _
      |exact ih3 _ _ _ _ _ _ _ _ _ _ _ _ _
      |exact ih4 _ _ _ _ _ _ _ _ _ _ _ _ _ _ _ _ _
      |exact ih5 _ _ _
      |exact ih6 _ _ _ _ _ _ _ _ _ _
      |exact ih7 _ _ _ _ _ _ _ _ _ _ _ _ _ _
      |exact ih8 _ _ _ _ _ _ _ _ _ _ _ _ _ _ _
      |exact ih9 _ _ _ _ _ _ _ _ _ _ _
      |exact ih10 _ _ _ _
      |exact impl_GoodSkip.mono _ _ _
      |exact impl_InsertSkip.mono _ _ _ _ _ _ _
      |exact impl_ListSkip.mono _ _ _ _
      |exact spec_CompareItem.mono _ _ _ _ _ _ _ _ _
      |exact spec_DrawInsertSkip.mono _ _
      |exact spec_InsertSkip.mono _ _ _ _ _ _ _
      |exact spec_TowerOf.mono _ _ _
      |exact LeO.none _
      |refine LeO.ite ?_ ?_
      |refine LeO.bind ?_ (fun _=>?_)
    · intro y0 y1 y2 y3
      unfold laws_FnSkip.j10
      repeat' first
      |(with_reducible exact ih0 _ _ _ _ _ _ _ _ _)
      |(with_reducible exact ih1 _ _ _ _ _ _ _ _ _ _ _ _)
      |(with_reducible exact ih2 _ _ _ _ _ _ _ _ _ _ _ _ _ _ _ _)
      |(with_reducible exact ih3 _ _ _ _ _ _ _ _ _ _ _ _ _)
      |(with_reducible exact ih4 _ _ _ _ _ _ _ _ _ _ _ _ _ _ _ _ _)
      |(with_reducible exact ih5 _ _ _)
      |(with_reducible exact ih6 _ _ _ _ _ _ _ _ _ _)
      |(with_reducible exact ih7 _ _ _ _ _ _ _ _ _ _ _ _ _ _)
      |(with_reducible exact ih8 _ _ _ _ _ _ _ _ _ _ _ _ _ _ _)
      |(with_reducible exact ih9 _ _ _ _ _ _ _ _ _ _ _)
      |(with_reducible exact ih10 _ _ _ _)
      |(with_reducible exact impl_GoodSkip.mono _ _ _)
      |(with_reducible exact impl_InsertSkip.mono _ _ _ _ _ _ _)
      |(with_reducible exact impl_ListSkip.mono _ _ _ _)
      |(with_reducible exact spec_CompareItem.mono _ _ _ _ _ _ _ _ _)
      |(with_reducible exact spec_DrawInsertSkip.mono _ _)
      |(with_reducible exact spec_InsertSkip.mono _ _ _ _ _ _ _)
      |(with_reducible exact spec_TowerOf.mono _ _ _)
      |(with_reducible exact LeO.refl _)
      |(with_reducible exact LeO.none _)
      |(with_reducible refine LeO.ite ?_ ?_)
      |(with_reducible refine LeO.bind ?_ (fun _=>?_))
      |exact ih0 _ _ _ _ _ _ _ _ _
      |exact ih1 _ _ _ _ _ _ _ _ _ _ _ _
      |exact ih2 _ _ _ _ _ _ _ _ _ _ _ _ _ _ _ _
      |exact ih3 _ _ _ _ _ _ _ _ _ _ _ _ _
      |exact ih4 _ _ _ _ _ _ _ _ _ _ _ _ _ _ _ _ _
      |exact ih5 _ _ _
      |exact ih6 _ _ _ _ _ _ _ _ _ _
      |exact ih7 _ _ _ _ _ _ _ _ _ _ _ _ _ _
      |exact ih8 _ _ _ _ _ _ _ _ _ _ _ _ _ _ _
      |exact ih9 _ _ _ _ _ _ _ _ _ _ _
      |exact ih10 _ _ _ _
      |exact impl_GoodSkip.mono _ _ _
      |exact impl_InsertSkip.mono _ _ _ _ _ _ _
      |exact impl_ListSkip.mono _ _ _ _
      |exact spec_CompareItem.mono _ _ _ _ _ _ _ _ _
      |exact spec_DrawInsertSkip.mono _ _
      |exact spec_InsertSkip.mono _ _ _ _ _ _ _
      |exact spec_TowerOf.mono _ _ _
      |exact LeO.none _
      |refine LeO.ite ?_ ?_
      |refine LeO.bind ?_ (fun _=>?_)
theorem laws_FnSkip.mono:∀ a0 k,LeO (laws_FnSkip.f k a0) (laws_FnSkip.f (k + 1) a0):=by
  intro a0 k;obtain ⟨ih0,ih1,ih2,ih3,ih4,ih5,ih6,ih7,ih8,ih9,ih10⟩:=laws_FnSkip.mono_l k;unfold laws_FnSkip.f
  repeat' first
      |(with_reducible exact ih0 _ _ _ _ _ _ _ _ _)
      |(with_reducible exact ih1 _ _ _ _ _ _ _ _ _ _ _ _)
      |(with_reducible exact ih2 _ _ _ _ _ _ _ _ _ _ _ _ _ _ _ _)
      |(with_reducible exact ih3 _ _ _ _ _ _ _ _ _ _ _ _ _)
      |(with_reducible exact ih4 _ _ _ _ _ _ _ _ _ _ _ _ _ _ _ _ _)
      |(with_reducible exact ih5 _ _ _)
      |(with_reducible exact ih6 _ _ _ _ _ _ _ _ _ _)
      |(with_reducible exact ih7 _ _ _ _ _ _ _ _ _ _ _ _ _ _)
      |(with_reducible exact ih8 _ _ _ _ _ _ _ _ _ _ _ _ _ _ _)
      |(with_reducible exact ih9 _ _ _ _ _ _ _ _ _ _ _)
      |(with_reducible exact ih10 _ _ _ _)
      |(with_reducible exact impl_GoodSkip.mono _ _ _)
      |(with_reducible exact impl_InsertSkip.mono _ _ _ _ _ _ _)
      |(with_reducible exact impl_ListSkip.mono _ _ _ _)
      |(with_reducible exact spec_CompareItem.mono _ _ _ _ _ _ _ _ _)
      |(with_reducible exact spec_DrawInsertSkip.mono _ _)
      |(with_reducible exact spec_InsertSkip.mono _ _ _ _ _ _ _)
      |(with_reducible exact spec_TowerOf.mono _ _ _)
      |(with_reducible exact LeO.refl _)
      |(with_reducible exact LeO.none _)
      |(with_reducible refine LeO.ite ?_ ?_)
      |(with_reducible refine LeO.bind ?_ (fun _=>?_))
      |exact ih0 _ _ _ _ _ _ _ _ _
      |exact ih1 _ _ _ _ _ _ _ _ _ _ _ _
      |exact ih2 _ _ _ _ _ _ _ _ _ _ _ _ _ _ _ _
      |exact ih3 _ _ _ _ _ _ _ _ _ _ _ _ _
      |exact ih4 _ _ _ _ _ _ _ _ _ _ _ _ _ _ _ _ _
      |exact ih5 _ _ _
      |exact ih6 _ _ _ _ _ _ _ _ _ _
      |exact ih7 _ _ _ _ _ _ _ _ _ _ _ _ _ _
      |exact ih8 _ _ _ _ _ _ _ _ _ _ _ _ _ _ _
      |exact ih9 _ _ _ _ _ _ _ _ _ _ _
      |exact ih10 _ _ _ _
      |exact impl_GoodSkip.mono _ _ _
      |exact impl_InsertSkip.mono _ _ _ _ _ _ _
      |exact impl_ListSkip.mono _ _ _ _
      |exact spec_CompareItem.mono _ _ _ _ _ _ _ _ _
      |exact spec_DrawInsertSkip.mono _ _
      |exact spec_InsertSkip.mono _ _ _ _ _ _ _
      |exact spec_TowerOf.mono _ _ _
      |exact LeO.none _
      |refine LeO.ite ?_ ?_
      |refine LeO.bind ?_ (fun _=>?_)
def laws_FnSkip.T19:Bool × List (List Nat × List Nat):=(true,[([],[]),([],[]),([1],[1]),([0,2],[0,2]),([3],[3]),([],[]),([4,5],[4,5]),([6],[6]),([7],[7]),([7],[7]),([8,6,0,1,2,3,4,5,6,7,8],[8]),([9,10,0,1,2,3,4,5,6,7,8,9,10],[9])])
def laws_FnSkip.B19:List Nat:=[0,0,2,7,15,0,63,127,255,255,511,2047]
theorem laws_FnSkip.tab19:rtab .any (opsOf Tryd.f3 19)=laws_FnSkip.T19:=by kernel_rfl
theorem laws_FnSkip.bits19:waitsOk laws_FnSkip.T19.2 laws_FnSkip.B19=true:=by kernel_rfl
def laws_FnSkip.T23:Bool × List (List Nat × List Nat):=(true,[([],[]),([],[]),([1],[1]),([0,2],[0,2]),([3],[3]),([4],[4]),([4],[4]),([5,6,4],[4,5,6]),([7,4],[4,7]),([4],[4]),([8,9,4],[4,8,9]),([4,10],[4,10])])
def laws_FnSkip.B23:List Nat:=[0,0,2,7,15,31,31,127,255,31,1023,2047]
theorem laws_FnSkip.tab23:rtab .any (opsOf Tryd.f3 23)=laws_FnSkip.T23:=by kernel_rfl
theorem laws_FnSkip.bits23:waitsOk laws_FnSkip.T23.2 laws_FnSkip.B23=true:=by kernel_rfl
def laws_FnSkip.T36:Bool × List (List Nat × List Nat):=(true,[([],[]),([],[]),([1],[1]),([0,2],[0,2]),([3],[3]),([4],[4]),([4],[4]),([5,6,4],[4,5,6]),([7,4],[4,7]),([4],[4]),([8,9,4],[4,8,9]),([4,10],[4,10])])
def laws_FnSkip.B36:List Nat:=[0,0,2,7,15,31,31,127,255,31,1023,2047]
theorem laws_FnSkip.tab36:rtab .any (opsOf Tryd.f3 36)=laws_FnSkip.T36:=by kernel_rfl
theorem laws_FnSkip.bits36:waitsOk laws_FnSkip.T36.2 laws_FnSkip.B36=true:=by kernel_rfl
end Go.Proofs.YtffjlpphcjfdgaaDoor.MFnSkip
