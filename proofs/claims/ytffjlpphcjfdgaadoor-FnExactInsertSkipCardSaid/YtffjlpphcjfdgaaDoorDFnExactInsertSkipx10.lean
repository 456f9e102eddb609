-- Written by a program of this session out of the translation. Not trusted: Lean checks it.
import Derived.Test.YtffjlpphcjfdgaaDoorMFnExactInsertSkipx0
import Derived.Test.YtffjlpphcjfdgaaDoorMFnExactInsertSkipx8
import Derived.Test.YtffjlpphcjfdgaaDoorMFnExactInsertSkipx9
namespace Go.Proofs.YtffjlpphcjfdgaaDoor.MFnExactInsertSkip
-- joined
-- short
-- TAB
-- RD
open Go.Proofs.YtffjlpphcjfdgaaDoor Go.RowKit Go.Proofs.YtffjlpphcjfdgaaDoorW.PrintWords Go.Proofs.YtffjlpphcjfdgaaDoorW.PrintLast Go.Proofs.YtffjlpphcjfdgaaDoorW.PrintMore Go.Proofs.YtffjlpphcjfdgaaDoorX
attribute [local go_sem] max2_int min2_int max_two min_two max_three min_three max_four min_four str_gtr str_leq str_geq cell_twice
set_option linter.unusedVariables false
set_option linter.unusedSimpArgs false
/-! ### spec_GoodSkip: function 30 -/
mutual
def spec_GoodSkip.j0:Nat→Bool→List Int→List (S77)→Option (Bool)
  |0,_,_,_=>none
  |k + 1,x23,x240000,x240001=>if x23=true then (some false) else ((spec_l2Table.f k).bind fun t240=>(if 5≤35184372088832 then (spec_GoodSkip.l0 k t240 (List.replicate 5 0) x240001 (x240001.length:Int) 0 x240000 x240001) else (none)))
def spec_GoodSkip.l0:Nat→List Int→List Int→List (S77)→Int→Int→List Int→List (S77)→Option (Bool)
  |0,_,_,_,_,_,_,_=>none
  |k + 1,x3,x4,x27,x28,x29,x240000,x240001=>if x29 < x28 then (if 0≤x29 then (if x29 < (x27.length:Int) then ((spec_GoodItem.f ((rd_T77 x27 x29).f0.f0) ((rd_T77 x27 x29).f0.f1) ((rd_T77 x27 x29).f0.f2) ((rd_T77 x27 x29).f0.f3)).bind fun t248=>(if t248=true then ((spec_l4Tower.f k x3 ((rd_T77 x27 x29).f0.f0) ((rd_T77 x27 x29).f0.f1)).bind fun t249=>(spec_GoodSkip.j2 k x3 x4 x29 x27 x28 x29 ((((rd_T77 x27 x29).f1).length:Int) != t249) x240000 x240001 ((rd_T77 x27 x29).f0.f0) ((rd_T77 x27 x29).f0.f1) ((rd_T77 x27 x29).f0.f2) ((rd_T77 x27 x29).f0.f3) ((rd_T77 x27 x29).f1))) else (spec_GoodSkip.j2 k x3 x4 x29 x27 x28 x29 true x240000 x240001 ((rd_T77 x27 x29).f0.f0) ((rd_T77 x27 x29).f0.f1) ((rd_T77 x27 x29).f0.f2) ((rd_T77 x27 x29).f0.f3) ((rd_T77 x27 x29).f1)))) else (none)) else (none)) else (spec_GoodSkip.l3 k x4 (x4.length:Int) 0 x240000 x240001)
def spec_GoodSkip.j2:Nat→List Int→List Int→Int→List (S77)→Int→Int→Bool→List Int→List (S77)→ByteArray→Int→Int→ByteArray→List Int→Option (Bool)
  |0,_,_,_,_,_,_,_,_,_,_,_,_,_,_=>none
  |k + 1,x3,x4,x5,x27,x28,x29,x51,x240000,x240001,x248000,x248001,x248002,x248003,x248004=>if x51=true then (some false) else (if 0≤x5 then (if x5≤(x240001.length:Int) then ((some (x240001.take (x5:Int).toNat:List (S77))).bind fun y250=>(spec_GoodSkip.l1 k x3 x4 x27 x28 x29 y250 (y250.length:Int) 0 x240000 x240001 x248000 x248001 x248002 x248003 x248004)) else (none)) else (none))
def spec_GoodSkip.l1:Nat→List Int→List Int→List (S77)→Int→Int→List (S77)→Int→Int→List Int→List (S77)→ByteArray→Int→Int→ByteArray→List Int→Option (Bool)
  |0,_,_,_,_,_,_,_,_,_,_,_,_,_,_,_=>none
  |k + 1,x3,x4,x27,x28,x29,x55,x56,x57,x240000,x240001,x248000,x248001,x248002,x248003,x248004=>if x57 < x56 then (if 0≤x57 then (if x57 < (x55.length:Int) then ((spec_l4Compare.f k ((rd_T77 x55 x57).f0.f0) ((rd_T77 x55 x57).f0.f1) ((rd_T77 x55 x57).f0.f2) ((rd_T77 x55 x57).f0.f3) x248000 x248001 x248002 x248003).bind fun t256=>(if t256=0 then (some false) else (spec_GoodSkip.l1 k x3 x4 x27 x28 x29 x55 x56 (wrap64 (x57 + 1)) x240000 x240001 x248000 x248001 x248002 x248003 x248004))) else (none)) else (none)) else (spec_GoodSkip.l2 k x3 x4 x27 x28 x29 (x248004.length:Int) 0 x240000 x240001 x248000 x248001 x248002 x248003 x248004)
def spec_GoodSkip.l2:Nat→List Int→List Int→List (S77)→Int→Int→Int→Int→List Int→List (S77)→ByteArray→Int→Int→ByteArray→List Int→Option (Bool)
  |0,_,_,_,_,_,_,_,_,_,_,_,_,_,_=>none
  |k + 1,x3,x4,x27,x28,x29,x70,x71,x240000,x240001,x248000,x248001,x248002,x248003,x248004=>if x71 < x70 then (if 0≤x71 then (if x71 < (x4.length:Int) then (if x71 < (x248004.length:Int) then ((spec_l1In.f (rd x248004 x71) (-1) (wrap64 ((x240001.length:Int) - 1))).bind fun t260=>(if t260=true then (spec_GoodSkip.l2 k x3 (x4.set (x71:Int).toNat (wrap64 ((rd x4 x71) + 1))) x27 x28 x29 x70 (wrap64 (x71 + 1)) x240000 x240001 x248000 x248001 x248002 x248003 x248004) else (some false))) else (none)) else (none)) else (none)) else (spec_GoodSkip.l0 k x3 x4 x27 x28 (wrap64 (x29 + 1)) x240000 x240001)
def spec_GoodSkip.l3:Nat→List Int→Int→Int→List Int→List (S77)→Option (Bool)
  |0,_,_,_,_,_=>none
  |k + 1,x93,x94,x95,x240000,x240001=>if x95 < x94 then (if 0≤x95 then (if x95 < (x93.length:Int) then (if x95 < (x240000.length:Int) then ((spec_l1In.f (rd x240000 x95) (-1) (wrap64 ((x240001.length:Int) - 1))).bind fun t263=>(if t263=true then (spec_GoodSkip.l4 k x95 (rd x93 x95) (-1) x93 x94 x95 x240000 x240001) else (some false))) else (none)) else (none)) else (none)) else (some true)
def spec_GoodSkip.l4:Nat→Int→Int→Int→List Int→Int→Int→List Int→List (S77)→Option (Bool)
  |0,_,_,_,_,_,_,_,_=>none
  |k + 1,x10,x11,x12,x93,x94,x95,x240000,x240001=>if x11 > 0 then ((spec_l4Next.f x240000 x240001 x12 x10).bind fun t264=>(if t264 < 0 then (spec_GoodSkip.j7 k x10 x11 t264 x93 x94 x95 true x240000 x240001) else (if 0≤t264 then (if t264 < (x240001.length:Int) then (if (((rd_T77 x240001 t264).f1).length:Int)≤x10 then (spec_GoodSkip.j7 k x10 x11 t264 x93 x94 x95 true x240000 x240001) else (if x12 ≥ 0 then (if 0≤x12 then (if x12 < (x240001.length:Int) then ((spec_l4Compare.f k ((rd_T77 x240001 x12).f0.f0) ((rd_T77 x240001 x12).f0.f1) ((rd_T77 x240001 x12).f0.f2) ((rd_T77 x240001 x12).f0.f3) ((rd_T77 x240001 t264).f0.f0) ((rd_T77 x240001 t264).f0.f1) ((rd_T77 x240001 t264).f0.f2) ((rd_T77 x240001 t264).f0.f3)).bind fun t268=>(spec_GoodSkip.j7 k x10 x11 t264 x93 x94 x95 (decide (t268 ≥ 0)) x240000 x240001)) else (none)) else (none)) else (spec_GoodSkip.j7 k x10 x11 t264 x93 x94 x95 false x240000 x240001))) else (none)) else (none)))) else ((spec_l4Next.f x240000 x240001 x12 x10).bind fun t269=>(if t269=(-1) then (spec_GoodSkip.l3 k x93 x94 (wrap64 (x95 + 1)) x240000 x240001) else (some false)))
def spec_GoodSkip.j7:Nat→Int→Int→Int→List Int→Int→Int→Bool→List Int→List (S77)→Option (Bool)
  |0,_,_,_,_,_,_,_,_,_=>none
  |k + 1,x10,x11,x13,x93,x94,x95,x151,x240000,x240001=>if x151=true then (some false) else (spec_GoodSkip.l4 k x10 (wrap64 (x11 - 1)) x13 x93 x94 x95 x240000 x240001)
end
def spec_GoodSkip.f (k:Nat) (l0_0:List Int) (l0_1:List (S77)):Option (Bool):=if (l0_0.length:Int)=5 then (spec_GoodSkip.j0 k (decide ((l0_1.length:Int) > 60)) l0_0 l0_1) else (spec_GoodSkip.j0 k true l0_0 l0_1)
theorem spec_GoodSkip.mono_l:∀ k,(∀ y0 y1 y2,LeO (spec_GoodSkip.j0 k y0 y1 y2) (spec_GoodSkip.j0 (k + 1) y0 y1 y2))∧(∀ y0 y1 y2 y3 y4 y5 y6,LeO (spec_GoodSkip.l0 k y0 y1 y2 y3 y4 y5 y6) (spec_GoodSkip.l0 (k + 1) y0 y1 y2 y3 y4 y5 y6))∧(∀ y0 y1 y2 y3 y4 y5 y6 y7 y8 y9 y10 y11 y12 y13,LeO (spec_GoodSkip.j2 k y0 y1 y2 y3 y4 y5 y6 y7 y8 y9 y10 y11 y12 y13) (spec_GoodSkip.j2 (k + 1) y0 y1 y2 y3 y4 y5 y6 y7 y8 y9 y10 y11 y12 y13))∧(∀ y0 y1 y2 y3 y4 y5 y6 y7 y8 y9 y10 y11 y12 y13 y14,LeO (spec_GoodSkip.l1 k y0 y1 y2 y3 y4 y5 y6 y7 y8 y9 y10 y11 y12 y13 y14) (spec_GoodSkip.l1 (k + 1) y0 y1 y2 y3 y4 y5 y6 y7 y8 y9 y10 y11 y12 y13 y14))∧(∀ y0 y1 y2 y3 y4 y5 y6 y7 y8 y9 y10 y11 y12 y13,LeO (spec_GoodSkip.l2 k y0 y1 y2 y3 y4 y5 y6 y7 y8 y9 y10 y11 y12 y13) (spec_GoodSkip.l2 (k + 1) y0 y1 y2 y3 y4 y5 y6 y7 y8 y9 y10 y11 y12 y13))∧(∀ y0 y1 y2 y3 y4,LeO (spec_GoodSkip.l3 k y0 y1 y2 y3 y4) (spec_GoodSkip.l3 (k + 1) y0 y1 y2 y3 y4))∧(∀ y0 y1 y2 y3 y4 y5 y6 y7,LeO (spec_GoodSkip.l4 k y0 y1 y2 y3 y4 y5 y6 y7) (spec_GoodSkip.l4 (k + 1) y0 y1 y2 y3 y4 y5 y6 y7))∧(∀ y0 y1 y2 y3 y4 y5 y6 y7 y8,LeO (spec_GoodSkip.j7 k y0 y1 y2 y3 y4 y5 y6 y7 y8) (spec_GoodSkip.j7 (k + 1) y0 y1 y2 y3 y4 y5 y6 y7 y8))
  |0=>⟨fun _ _ _ r h=>by simp [spec_GoodSkip.j0] at h,fun _ _ _ _ _ _ _ r h=>by simp [spec_GoodSkip.l0] at h,fun _ _ _ _ _ _ _ _ _ _ _ _ _ _ r h=>by simp [spec_GoodSkip.j2] at h,fun _ _ _ _ _ _ _ _ _ _ _ _ _ _ _ r h=>by simp [spec_GoodSkip.l1] at h,fun _ _ _ _ _ _ _ _ _ _ _ _ _ _ r h=>by simp [spec_GoodSkip.l2] at h,fun _ _ _ _ _ r h=>by simp [spec_GoodSkip.l3] at h,fun _ _ _ _ _ _ _ _ r h=>by simp [spec_GoodSkip.l4] at h,fun _ _ _ _ _ _ _ _ _ r h=>by simp [spec_GoodSkip.j7] at h⟩
  |k + 1=>by
    obtain ⟨ih0,ih1,ih2,ih3,ih4,ih5,ih6,ih7⟩:=spec_GoodSkip.mono_l k;refine ⟨?_,?_,?_,?_,?_,?_,?_,?_⟩
    · intro y0 y1 y2
      unfold spec_GoodSkip.j0
      repeat' first
      |(with_reducible exact ih0 _ _ _)
      |(with_reducible exact ih1 _ _ _ _ _ _ _)
      |(with_reducible exact ih2 _ _ _ _ _ _ _ _ _ _ _ _ _ _)
      |(with_reducible exact ih3 _ _ _ _ _ _ _ _ _ _ _ _ _ _ _)
      |(with_reducible exact ih4 _ _ _ _ _ _ _ _ _ _ _ _ _ _)
      |(with_reducible exact ih5 _ _ _ _ _)
      |(with_reducible exact ih6 _ _ _ _ _ _ _ _)
      |(with_reducible exact ih7 _ _ _ _ _ _ _ _ _)
      |(with_reducible exact spec_l2Table.mono _)
      |(with_reducible exact spec_l4Compare.mono _ _ _ _ _ _ _ _ _)
      |(with_reducible exact spec_l4Tower.mono _ _ _ _)
      |(with_reducible exact LeO.refl _)
      |(with_reducible exact LeO.none _)
      |(with_reducible refine LeO.ite ?_ ?_)
      |(with_reducible refine LeO.bind ?_ (fun _=>?_))
      |exact ih0 _ _ _
      |exact ih1 _ _ _ _ _ _ _
      |exact ih2 _ _ _ _ _ _ _ _ _ _ _ _ _ _
      |exact ih3 _ _ _ _ _ _ _ _ _ _ _ _ _ _ _
      |exact ih4 _ _ _ _ _ _ _ _ _ _ _ _ _ _
      |exact ih5 _ _ _ _ _
      |exact ih6 _ _ _ _ _ _ _ _
      |exact ih7 _ _ _ _ _ _ _ _ _
      |exact spec_l2Table.mono _
      |exact spec_l4Compare.mono _ _ _ _ _ _ _ _ _
      |exact spec_l4Tower.mono _ _ _ _
      |exact LeO.none _
      |refine LeO.ite ?_ ?_
      |refine LeO.bind ?_ (fun _=>?_)
    · intro y0 y1 y2 y3 y4 y5 y6
      unfold spec_GoodSkip.l0
      repeat' first
      |(with_reducible exact ih0 _ _ _)
      |(with_reducible exact ih1 _ _ _ _ _ _ _)
      |(with_reducible exact ih2 _ _ _ _ _ _ _ _ _ _ _ _ _ _)
      |(with_reducible exact ih3 _ _ _ _ _ _ _ _ _ _ _ _ _ _ _)
      |(with_reducible exact ih4 _ _ _ _ _ _ _ _ _ _ _ _ _ _)
      |(with_reducible exact ih5 _ _ _ _ _)
      |(with_reducible exact ih6 _ _ _ _ _ _ _ _)
      |(with_reducible exact ih7 _ _ _ _ _ _ _ _ _)
      |(with_reducible exact spec_l2Table.mono _)
      |(with_reducible exact spec_l4Compare.mono _ _ _ _ _ _ _ _ _)
      |(with_reducible exact spec_l4Tower.mono _ _ _ _)
      |(with_reducible exact LeO.refl _)
      |(with_reducible exact LeO.none _)
      |(with_reducible refine LeO.ite ?_ ?_)
      |(with_reducible refine LeO.bind ?_ (fun _=>?_))
      |exact ih0 _ _ _
      |exact ih1 _ _ _ _ _ _ _
      |exact ih2 _ _ _ _ _ _ _ _ _ _ _ _ _ _
      |exact ih3 _ _ _ _ _ _ _ _ _ _ _ _ _ _ _
      |exact ih4 _ _ _ _ _ _ _ _ _ _ _ _ _ _
      |exact ih5 _ _ _ _ _
      |exact ih6 _ _ _ _ _ _ _ _
      |exact ih7 _ _ _ _ _ _ _ _ _
      |exact spec_l2Table.mono _
      |exact spec_l4Compare.mono _ _ _ _ _ _ _ _ _
      |exact spec_l4Tower.mono _ _ _ _
      |exact LeO.none _
      |refine LeO.ite ?_ ?_
      |refine LeO.bind ?_ (fun _=>?_)
    · intro y0 y1 y2 y3 y4 y5 y6 y7 y8 y9 y10 y11 y12 y13
      unfold spec_GoodSkip.j2
      repeat' first
      |(with_reducible exact ih0 _ _ _)
      |(with_reducible exact ih1 _ _ _ _ _ _ _)
      |(with_reducible exact ih2 _ _ _ _ _ _ _ _ _ _ _ _ _ _)
      |(with_reducible exact ih3 _ _ _ _ _ _ _ _ _ _ _ _ _ _ _)
      |(with_reducible exact ih4 _ _ _ _ _ _ _ _ _ _ _ _ _ _)
      |(with_reducible exact ih5 _ _ _ _ _)
      |(with_reducible exact ih6 _ _ _ _ _ _ _ _)
      |(with_reducible exact ih7 _ _ _ _ _ _ _ _ _)
      |(with_reducible exact spec_l2Table.mono _)
      |(with_reducible exact spec_l4Compare.mono _ _ _ _ _ _ _ _ _)
      |(with_reducible exact spec_l4Tower.mono _ _ _ _)
      |(with_reducible exact LeO.refl _)
      |(with_reducible exact LeO.none _)
      |(with_reducible refine LeO.ite ?_ ?_)
      |(with_reducible refine LeO.bind ?_ (fun _=>?_))
      |exact ih0 _ _ _
      |exact ih1 _ _ _ _ _ _ _
      |exact ih2 _ _ _ _ _ _ _ _ _ _ _ _ _ _
      |exact ih3 _ _ _ _ _ _ _ _ _ _ _ _ _ _ _
      |exact ih4 _ _ _ _ _ _ _ _ _ _ _ _ _ _
      |exact ih5 _ _ _ _ _
      |exact ih6 _ _ _ _ _ _ _ _
      |exact ih7 _ _ _ _ _ _ _ _ _
      |exact spec_l2Table.mono _
      |exact spec_l4Compare.mono _ _ _ _ _ _ _ _ _
      |exact spec_l4Tower.mono _ _ _ _
      |exact LeO.none _
      |refine LeO.ite ?_ ?_
      |refine LeO.bind ?_ (fun _=>?_)
    · intro y0 y1 y2 y3 y4 y5 y6 y7 y8 y9 y10 y11 y12 y13 y14
      unfold spec_GoodSkip.l1
      repeat' first
      |(with_reducible exact ih0 _ _ _)
      |(with_reducible exact ih1 _ _ _ _ _ _ _)
      |(with_reducible exact ih2 _ _ _ _ _ _ _ _ _ _ _ _ _ _)
      |(with_reducible exact ih3 _ _ _ _ _ _ _ _ _ _ _ _ _ _ _)
      |(with_reducible exact ih4 _ _ _ _ _ _ _ _ _ _ _ _ _ _)
      |(with_reducible exact ih5 _ _ _ _ _)
      |(with_reducible exact ih6 _ _ _ _ _ _ _ _)
      |(with_reducible exact ih7 _ _ _ _ _ _ _ _ _)
      |(with_reducible exact spec_l2Table.mono _)
      |(with_reducible exact spec_l4Compare.mono _ _ _ _ _ _ _ _ _)
      |(with_reducible exact spec_l4Tower.mono _ _ _ _)
      |(with_reducible exact LeO.refl _)
      |(with_reducible exact LeO.none _)
      |(with_reducible refine LeO.ite ?_ ?_)
      |(with_reducible refine LeO.bind ?_ (fun _=>?_))
      |exact ih0 _ _ _
      |exact ih1 _ _ _ _ _ _ _
      |exact ih2 _ _ _ _ _ _ _ _ _ _ _ _ _ _
      |exact ih3 _ _ _ _ _ _ _ _ _ _ _ _ _ _ _
      |exact ih4 _ _ _ _ _ _ _ _ _ _ _ _ _ _
      |exact ih5 _ _ _ _ _
      |exact ih6 _ _ _ _ _ _ _ _
      |exact ih7 _ _ _ _ _ _ _ _ _
      |exact spec_l2Table.mono _
      |exact spec_l4Compare.mono _ _ _ _ _ _ _ _ _
      |exact spec_l4Tower.mono _ _ _ _
      |exact LeO.none _
      |refine LeO.ite ?_ ?_
      |refine LeO.bind ?_ (fun _=>?_)
    · intro y0 y1 y2 y3 y4 y5 y6 y7 y8 y9 y10 y11 y12 y13
      unfold spec_GoodSkip.l2
      repeat' first
      |(with_reducible exact ih0 _ _ _)
      |(with_reducible exact ih1 _ _ _ _ _ _ _)
      |(with_reducible exact ih2 _ _ _ _ _ _ _ _ _ _ _ _ _ _)
      |(with_reducible exact ih3 _ _ _ _ _ _ _ _ _ _ _ _ _ _ _)
      |(with_reducible exact ih4 _ _ _ _ _ _ _ _ _ _ _ _ _ _)
      |(with_reducible exact ih5 _ _ _ _ _)
      |(with_reducible exact ih6 _ _ _ _ _ _ _ _)
      |(with_reducible exact ih7 _ _ _ _ _ _ _ _ _)
      |(with_reducible exact spec_l2Table.mono _)
      |(with_reducible exact spec_l4Compare.mono _ _ _ _ _ _ _ _ _)
      |(with_reducible exact spec_l4Tower.mono _ _ _ _)
      |(with_reducible exact LeO.refl _)
      |(with_reducible exact LeO.none _)
      |(with_reducible refine LeO.ite ?_ ?_)
      |(with_reducible refine LeO.bind ?_ (fun _=>?_))
      |exact ih0 _ _ _
      |exact ih1 _ _ _ _ _ _ _
      |exact ih2 _ _ _ _ _ _ _ _ _ _ _ _ _ _
      |exact ih3 _ _ _ _ _ _ _ _ _ _ _ _ _ _ _
      |exact ih4 _ _ _ _ _ _ _ _ _ _ _ _ _ _
      |exact ih5 _ _ _ _ _
      |exact ih6 _ _ _ _ _ _ _ _
      |exact ih7 _ _ _ _ _ _ _ _ _
      |exact spec_l2Table.mono _
      |exact spec_l4Compare.mono _ _ _ _ _ _ _ _ _
      |exact spec_l4Tower.mono _ _ _ _
      |exact LeO.none _
      |refine LeO.ite ?_ ?_
      |refine LeO.bind ?_ (fun _=>?_)
    · intro y0 y1 y2 y3 y4
      unfold spec_GoodSkip.l3
      repeat' first
      |(with_reducible exact ih0 _ _ _)
      |(with_reducible exact ih1 _ _ _ _ _ _ _)
      |(with_reducible exact ih2 _ _ _ _ _ _ _ _ _ _ _ _ _ _)
      |(with_reducible exact ih3 _ _ _ _ _ _ _ _ _ _ _ _ _ _ _)
      |(with_reducible exact ih4 _ _ _ _ _ _ _ _ _ _ _ _ _ _)
      |(with_reducible exact ih5 _ _ _ _ _)
      |(with_reducible exact ih6 _ _ _ _ _ _ _ _)
      |(with_reducible exact ih7 _ _ _ _ _ _ _ _ _)
      |(with_reducible exact spec_l2Table.mono _)
      |(with_reducible exact spec_l4Compare.mono _ _ _ _ _ _ _ _ _)
      |(with_reducible exact spec_l4Tower.mono _ _ _ _)
      |(with_reducible exact LeO.refl _)
      |(with_reducible exact LeO.none _)
      |(with_reducible refine LeO.ite ?_ ?_)
      |(with_reducible refine LeO.bind ?_ (fun _=>?_))
      |exact ih0 _ _ _
      |exact ih1 _ _ _ _ _ _ _
      |exact ih2 _ _ _ _ _ _ _ _ _ _ _ _ _ _
      |exact ih3 _ _ _ _ _ _ _ _ _ _ _ _ _ _ _
      |exact ih4 _ _ _ _ _ _ _ _ _ _ _ _ _ _
      |exact ih5 _ _ _ _ _
      |exact ih6 _ _ _ _ _ _ _ _
      |exact ih7 _ _ _ _ _ _ _ _ _
      |exact spec_l2Table.mono _
      |exact spec_l4Compare.mono _ _ _ _ _ _ _ _ _
      |exact spec_l4Tower.mono _ _ _ _
      |exact LeO.none _
      |refine LeO.ite ?_ ?_
      |refine LeO.bind ?_ (fun _=>?_)
    · intro y0 y1 y2 y3 y4 y5 y6 y7
      unfold spec_GoodSkip.l4
      repeat' first
      |(with_reducible exact ih0 _ _ _)
      |(with_reducible exact ih1 _ _ _ _ _ _ _)
      |(with_reducible exact ih2 _ _ _ _ _ _ _ _ _ _ _ _ _ _)
      |(with_reducible exact ih3 _ _ _ _ _ _ _ _ _ _ _ _ _ _ _)
      |(with_reducible exact ih4 _ _ _ _ _ _ _ _ _ _ _ _ _ _)
      |(with_reducible exact ih5 _ _ _ _ _)
      |(with_reducible exact ih6 _ _ _ _ _ _ _ _)
      |(with_reducible exact ih7 _ _ _ _ _ _ _ _ _)
      |(with_reducible exact spec_l2Table.mono _)
      |(with_reducible exact spec_l4Compare.mono _ _ _ _ _ _ _ _ _)
      |(with_reducible exact spec_l4Tower.mono _ _ _ _)
      |(with_reducible exact LeO.refl _)
      |(with_reducible exact LeO.none _)
      |(with_reducible refine LeO.ite ?_ ?_)
      |(with_reducible refine LeO.bind ?_ (fun _=>?_))
      |exact ih0 _ _ _
      |exact ih1 _ _ _ _ _ _ _
      |exact ih2 _ _ _ _ _ _ _ _ _ _ _ _ _ _
      |exact ih3 _ _ _ _ _ _ _ _ _ _ _ _ _ _ _
      |exact ih4 _ _ _ _ _ _ _ _ _ _ _ _ _ _
      |exact ih5 _ _ _ _ _
      |exact ih6 _ _ _ _ _ _ _ _
      |exact ih7 _ _ _ _ _ _ _ _ _
      |exact spec_l2Table.mono _
      |exact spec_l4Compare.mono _ _ _ _ _ _ _ _ _
      |exact spec_l4Tower.mono _ _ _ _
      |exact LeO.none _
      |refine LeO.ite ?_ ?_
      |refine LeO.bind ?_ (fun _=>?_)
    · intro y0 y1 y2 y3 y4 y5 y6 y7 y8
      unfold spec_GoodSkip.j7
      repeat' first
      |(with_reducible exact ih0 _ _ _)
      |(with_reducible exact ih1 _ _ _ _ _ _ _)
      |(with_reducible exact ih2 _ _ _ _ _ _ _ _ _ _ _ _ _ _)
      |(with_reducible exact ih3 _ _ _ _ _ _ _ _ _ _ _ _ _ _ _)
      |(with_reducible exact ih4 _ _ _ _ _ _ _ _ _ _ _ _ _ _)
      |(with_reducible exact ih5 _ _ _ _ _)
      |(with_reducible exact ih6 _ _ _ _ _ _ _ _)
      |(with_reducible exact ih7 _ _ _ _ _ _ _ _ _)
      |(with_reducible exact spec_l2Table.mono _)
      |(with_reducible exact spec_l4Compare.mono _ _ _ _ _ _ _ _ _)
      |(with_reducible exact spec_l4Tower.mono _ _ _ _)
      |(with_reducible exact LeO.refl _)
      |(with_reducible exact LeO.none _)
      |(with_reducible refine LeO.ite ?_ ?_)
      |(with_reducible refine LeO.bind ?_ (fun _=>?_))
      |exact ih0 _ _ _
      |exact ih1 _ _ _ _ _ _ _
      |exact ih2 _ _ _ _ _ _ _ _ _ _ _ _ _ _
      |exact ih3 _ _ _ _ _ _ _ _ _ _ _ _ _ _ _
      |exact ih4 _ _ _ _ _ _ _ _ _ _ _ _ _ _
      |exact ih5 _ _ _ _ _
      |exact ih6 _ _ _ _ _ _ _ _
      |exact ih7 _ _ _ _ _ _ _ _ _
      |exact spec_l2Table.mono _
      |exact spec_l4Compare.mono _ _ _ _ _ _ _ _ _
      |exact spec_l4Tower.mono _ _ _ _
      |exact LeO.none _
      |refine LeO.ite ?_ ?_
      |refine LeO.bind ?_ (fun _=>?_)
theorem spec_GoodSkip.mono:∀ a0 a1 k,LeO (spec_GoodSkip.f k a0 a1) (spec_GoodSkip.f (k + 1) a0 a1):=by
  intro a0 a1 k;obtain ⟨ih0,ih1,ih2,ih3,ih4,ih5,ih6,ih7⟩:=spec_GoodSkip.mono_l k;unfold spec_GoodSkip.f
  repeat' first
      |(with_reducible exact ih0 _ _ _)
      |(with_reducible exact ih1 _ _ _ _ _ _ _)
      |(with_reducible exact ih2 _ _ _ _ _ _ _ _ _ _ _ _ _ _)
      |(with_reducible exact ih3 _ _ _ _ _ _ _ _ _ _ _ _ _ _ _)
      |(with_reducible exact ih4 _ _ _ _ _ _ _ _ _ _ _ _ _ _)
      |(with_reducible exact ih5 _ _ _ _ _)
      |(with_reducible exact ih6 _ _ _ _ _ _ _ _)
      |(with_reducible exact ih7 _ _ _ _ _ _ _ _ _)
      |(with_reducible exact spec_l2Table.mono _)
      |(with_reducible exact spec_l4Compare.mono _ _ _ _ _ _ _ _ _)
      |(with_reducible exact spec_l4Tower.mono _ _ _ _)
      |(with_reducible exact LeO.refl _)
      |(with_reducible exact LeO.none _)
      |(with_reducible refine LeO.ite ?_ ?_)
      |(with_reducible refine LeO.bind ?_ (fun _=>?_))
      |exact ih0 _ _ _
      |exact ih1 _ _ _ _ _ _ _
      |exact ih2 _ _ _ _ _ _ _ _ _ _ _ _ _ _
      |exact ih3 _ _ _ _ _ _ _ _ _ _ _ _ _ _ _
      |exact ih4 _ _ _ _ _ _ _ _ _ _ _ _ _ _
      |exact ih5 _ _ _ _ _
      |exact ih6 _ _ _ _ _ _ _ _
      |exact ih7 _ _ _ _ _ _ _ _ _
      |exact spec_l2Table.mono _
      |exact spec_l4Compare.mono _ _ _ _ _ _ _ _ _
      |exact spec_l4Tower.mono _ _ _ _
      |exact LeO.none _
      |refine LeO.ite ?_ ?_
      |refine LeO.bind ?_ (fun _=>?_)
def spec_GoodSkip.T8:Bool × List (List Nat × List Nat):=(true,[([],[]),([0],[0]),([1],[1]),([2],[2]),([3,2],[3]),([4],[4]),([5,4],[4,5]),([6,4],[4,6]),([4],[4]),([4],[4]),([9,4],[4,9]),([10,4],[4,10]),([4],[4]),([12,4],[4,12]),([13,4],[4,13]),([8,11,14,4,4],[4,8,11,14]),([7,15,4],[4,7,15]),([4,16],[4,16])])
def spec_GoodSkip.B8:List Nat:=[0,1,3,7,15,31,63,127,31,31,543,1567,31,4127,12319,32543,65535,131071]
theorem spec_GoodSkip.tab8:rtab .any (opsOf Tryd.f30 8)=spec_GoodSkip.T8:=by kernel_rfl
theorem spec_GoodSkip.bits8:waitsOk spec_GoodSkip.T8.2 spec_GoodSkip.B8=true:=by kernel_rfl
def spec_GoodSkip.T20:Bool × List (List Nat × List Nat):=(true,[([],[]),([0],[0]),([],[]),([1,2],[1,2]),([3],[3]),([],[]),([5],[5]),([6],[6]),([7],[7]),([4,8],[4,8]),([9],[9])])
def spec_GoodSkip.B20:List Nat:=[0,1,0,7,15,0,32,96,224,511,1023]
theorem spec_GoodSkip.tab20:rtab .any (opsOf Tryd.f30 20)=spec_GoodSkip.T20:=by kernel_rfl
theorem spec_GoodSkip.bits20:waitsOk spec_GoodSkip.T20.2 spec_GoodSkip.B20=true:=by kernel_rfl
def spec_GoodSkip.T28:Bool × List (List Nat × List Nat):=(true,[([],[]),([0],[0]),([],[]),([1,2],[1,2]),([3],[3]),([],[]),([5],[5]),([6],[6]),([7],[7]),([4,8],[4,8]),([9],[9])])
def spec_GoodSkip.B28:List Nat:=[0,1,0,7,15,0,32,96,224,511,1023]
theorem spec_GoodSkip.tab28:rtab .any (opsOf Tryd.f30 28)=spec_GoodSkip.T28:=by kernel_rfl
theorem spec_GoodSkip.bits28:waitsOk spec_GoodSkip.T28.2 spec_GoodSkip.B28=true:=by kernel_rfl
def spec_GoodSkip.T33:Bool × List (List Nat × List Nat):=(true,[([],[]),([0],[0]),([1],[1]),([2],[2]),([3,2],[2,3]),([2],[2]),([4,5,2],[2,4,5]),([6,2],[2,6]),([7,2],[2,7]),([8,2],[2,8]),([2],[2]),([9,10,2],[2,9,10]),([2,11],[2,11]),([12,2],[12]),([13],[13]),([14,13],[13,14]),([15,13,13],[13,15]),([16],[16]),([17,16],[16,17]),([16],[16]),([18,19,16],[16,18,19]),([20,16],[16,20]),([21,16],[16,21]),([16],[16]),([23,16],[16,23]),([16],[16]),([24,25,16],[16,24,25]),([26,16],[16,26]),([27,16],[16,27]),([22,28,16,16],[16,22,28]),([29,16],[16,29]),([16,30,13],[13,16,30]),([13,31],[13,31])])
def spec_GoodSkip.B33:List Nat:=[0,1,3,7,15,7,63,127,255,511,7,2047,4095,8191,16383,32767,65535,131071,262143,131071,1048575,2097151,4194303,131071,8519679,131071,58851327,125960191,260177919,536870911,1073741823,2147483647,4294967295]
theorem spec_GoodSkip.tab33:rtab .any (opsOf Tryd.f30 33)=spec_GoodSkip.T33:=by kernel_rfl
theorem spec_GoodSkip.bits33:waitsOk spec_GoodSkip.T33.2 spec_GoodSkip.B33=true:=by kernel_rfl
end Go.Proofs.YtffjlpphcjfdgaaDoor.MFnExactInsertSkip
