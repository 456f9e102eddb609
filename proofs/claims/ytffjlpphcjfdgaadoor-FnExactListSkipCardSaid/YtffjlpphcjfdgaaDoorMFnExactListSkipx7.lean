-- Written by a program of this session out of the translation. Not trusted: Lean checks it.
import Derived.Test.YtffjlpphcjfdgaaDoorMFnExactListSkipx0
import Derived.Test.YtffjlpphcjfdgaaDoorMFnExactListSkipx6
namespace Go.Proofs.YtffjlpphcjfdgaaDoor.MFnExactListSkip
-- short
-- shrunk
-- TAB
-- RD
open Go.Proofs.YtffjlpphcjfdgaaDoor Go.RowKit Go.Proofs.YtffjlpphcjfdgaaDoorW.PrintWords Go.Proofs.YtffjlpphcjfdgaaDoorW.PrintLast Go.Proofs.YtffjlpphcjfdgaaDoorW.PrintMore Go.Proofs.YtffjlpphcjfdgaaDoorX
attribute [local go_sem] max2_int min2_int max_two min_two max_three min_three max_four min_four str_gtr str_leq str_geq cell_twice
set_option linter.unusedVariables false
set_option linter.unusedSimpArgs false
/-! ### spec_l4Tower: function 55 -/
mutual
def spec_l4Tower.l0:Nat→Int→Int→Option (Int)
  |0,_,_=>none
  |k + 1,x7,x8=>if x8 < 5 then (spec_l4Tower.j1 k x7 x8 ((Go.bits .and .u32 x7 3) == 0)) else (spec_l4Tower.j1 k x7 x8 false)
def spec_l4Tower.j1:Nat→Int→Int→Bool→Option (Int)
  |0,_,_,_=>none
  |k + 1,x7,x8,x22=>if x22=true then (spec_l4Tower.l0 k (x7 / 4) (wrap64 (x8 + 1))) else (some x8)
end
def spec_l4Tower.f (k:Nat) (l0:List Int) (a1:ByteArray) (a2:Int):Option (Int):=(spec_l1Num.f k a2).bind fun t191=>(if a1.size + t191.size≤9223372036854775807 then ((spec_l2On.f k l0 4294967295 (a1 ++ t191)).bind fun t192=>(spec_l4Tower.l0 k (Go.bits .xor .u32 4294967295 t192) 1)) else (none))
theorem spec_l4Tower.mono_l:∀ k,(∀ y0 y1,LeO (spec_l4Tower.l0 k y0 y1) (spec_l4Tower.l0 (k + 1) y0 y1))∧(∀ y0 y1 y2,LeO (spec_l4Tower.j1 k y0 y1 y2) (spec_l4Tower.j1 (k + 1) y0 y1 y2))
  |0=>⟨fun _ _ r h=>by simp [spec_l4Tower.l0] at h,fun _ _ _ r h=>by simp [spec_l4Tower.j1] at h⟩
  |k + 1=>by
    obtain ⟨ih0,ih1⟩:=spec_l4Tower.mono_l k
    refine ⟨?_,?_⟩
    · intro y0 y1
      unfold spec_l4Tower.l0
      repeat' first
      |(with_reducible exact ih0 _ _)
      |(with_reducible exact ih1 _ _ _)
      |(with_reducible exact spec_l1Num.mono _ _)
      |(with_reducible exact spec_l2On.mono _ _ _ _)
      |(with_reducible exact LeO.refl _)
      |(with_reducible exact LeO.none _)
      |(with_reducible refine LeO.ite ?_ ?_)
      |(with_reducible refine LeO.bind ?_ (fun _=>?_))
      |exact ih0 _ _
      |exact ih1 _ _ _
      |exact spec_l1Num.mono _ _
      |exact spec_l2On.mono _ _ _ _
      |exact LeO.none _
      |refine LeO.ite ?_ ?_
      |refine LeO.bind ?_ (fun _=>?_)
    · intro y0 y1 y2
      unfold spec_l4Tower.j1
      repeat' first
      |(with_reducible exact ih0 _ _)
      |(with_reducible exact ih1 _ _ _)
      |(with_reducible exact spec_l1Num.mono _ _)
      |(with_reducible exact spec_l2On.mono _ _ _ _)
      |(with_reducible exact LeO.refl _)
      |(with_reducible exact LeO.none _)
      |(with_reducible refine LeO.ite ?_ ?_)
      |(with_reducible refine LeO.bind ?_ (fun _=>?_))
      |exact ih0 _ _
      |exact ih1 _ _ _
      |exact spec_l1Num.mono _ _
      |exact spec_l2On.mono _ _ _ _
      |exact LeO.none _
      |refine LeO.ite ?_ ?_
      |refine LeO.bind ?_ (fun _=>?_)
theorem spec_l4Tower.mono:∀ a0 a1 a2 k,LeO (spec_l4Tower.f k a0 a1 a2) (spec_l4Tower.f (k + 1) a0 a1 a2):=by
  intro a0 a1 a2 k
  obtain ⟨ih0,ih1⟩:=spec_l4Tower.mono_l k
  unfold spec_l4Tower.f
  repeat' first
      |(with_reducible exact ih0 _ _)
      |(with_reducible exact ih1 _ _ _)
      |(with_reducible exact spec_l1Num.mono _ _)
      |(with_reducible exact spec_l2On.mono _ _ _ _)
      |(with_reducible exact LeO.refl _)
      |(with_reducible exact LeO.none _)
      |(with_reducible refine LeO.ite ?_ ?_)
      |(with_reducible refine LeO.bind ?_ (fun _=>?_))
      |exact ih0 _ _
      |exact ih1 _ _ _
      |exact spec_l1Num.mono _ _
      |exact spec_l2On.mono _ _ _ _
      |exact LeO.none _
      |refine LeO.ite ?_ ?_
      |refine LeO.bind ?_ (fun _=>?_)
set_option maxHeartbeats 8000000 in
set_option maxRecDepth 100000 in
theorem spec_l4Tower.calls (k:Nat) (A0:Option Addr) (c0:Nat) (l0:List Int) (a1:ByteArray) (a2:Int) (r:Int) (w:World) (hr0:Kd.C (Kd.int .u32) w A0 l0.length l0) (hc0:l0.length≤c0) (h:spec_l4Tower.f k l0 a1 a2=some r) :
    Calls Tryd.prog 55 #[.slice A0 l0.length c0,.string a1,.int .i64 a2] w fun e w'=>e = .returned (.int .i64 r)∧Below w.heap.size w w':=by
 have HR0:=AsZ.mk hr0
 have HC0:=AsZ.mk hc0
 clear hr0 hc0
 have HB:=AsZ.mk (Below.refl w.heap.size w)
 have H:((spec_l1Num.f k a2).bind fun t191=>(if a1.size + t191.size≤9223372036854775807 then ((spec_l2On.f k l0 4294967295 (a1 ++ t191)).bind fun t192=>(spec_l4Tower.l0 k (Go.bits .xor .u32 4294967295 t192) 1)) else (none)))=some r:=h
 clear h
 replace H:=Option.bind_eq_some_iff.mp H
 obtain ⟨t191,A40,H⟩:=H
 replace H:(if a1.size + t191.size≤9223372036854775807 then ((spec_l2On.f k l0 4294967295 (a1 ++ t191)).bind fun t192=>(spec_l4Tower.l0 k (Go.bits .xor .u32 4294967295 t192) 1)) else (none))=some r:=H
 have A4:=AsZ.mk A40
 clear A40
 by_cases c5:a1.size + t191.size≤9223372036854775807
 rotate_left
 · rw [if_neg c5] at H
   exact absurd H (by simp)
 rw [if_pos c5] at H
 have c5b0:=eq_true c5
 have c5b1:decide (a1.size + t191.size≤9223372036854775807)=true:=zE c5
 try have c5b2:(9223372036854775807 < a1.size + t191.size)=False:=eq_false (Nat.not_lt.2 c5)
 replace H:=Option.bind_eq_some_iff.mp H
 obtain ⟨t192,A60,H⟩:=H
 replace H:(spec_l4Tower.l0 k (Go.bits .xor .u32 4294967295 t192) 1)=some r:=H
 have A6:=AsZ.mk A60
 clear A60
 have H':=AsZ.mk H
 clear H
 go_enter Tryd.func55,Tryd.ntmps55
 go_wp2_with (first|((with_reducible refine gcl (f:=89) rfl ?_);refine goesL_ (some 12) rfl rfl Tryd.func89 (by kernel_rfl) rfl #[.int .i64 a2] rfl (by (try simp only [zA,zC,zN]);first|done|rfl|(simp only [zM,zL];rfl)) ?_;(with_reducible refine (spec_l1Num.calls k a2 t191 _ A4.out).mono ?_);rintro e w7 ⟨rfl,hb⟩;refine ⟨_,rfl,?_⟩;have n0_:=AsZ.mk (bwp (by repeat (first|(with_reducible first|exact HB.out|apply bwa|apply pbN|apply bw1)|exact HB.out)) hb);clear HB;have HB:=n0_;clear n0_;(try clear hb);(try clear hb2);(try clear hk);(try clear hi))|((with_reducible refine gcl (f:=88) rfl ?_);refine goesL_ (some 14) rfl rfl Tryd.func88 (by kernel_rfl) rfl #[.slice A0 l0.length c0,.int .u32 4294967295,.string (a1 ++ t191)] rfl (by (try simp only [zA,zC,zN]);first|done|rfl|(simp only [zM,zL];rfl)) ?_;(with_reducible refine (spec_l2On.calls k _ _ l0 4294967295 (a1 ++ t191) t192 _ ?side1 ?side2 A6.out).mono ?_);(case side1=>repeat (first|exact (Kd.C_below HR0.out HB.out)|(with_reducible refine Kd.C_alloc ?_ _)|(with_reducible refine Kd.C_drewN ?_ _)|(with_reducible refine Kd.C_drew ?_)));(case side2=>exact HC0.out);rintro e w' ⟨rfl,⟨nd,rfl⟩⟩;refine ⟨_,rfl,?_⟩))
 go_loopg [7,8] k (fun kq v7 v8 w' => ∃ (x7_1:Int) (x8_1:Int),v7 = .int .u32 x7_1∧v8 = .int .i64 x8_1∧AsZ (spec_l4Tower.l0 kq x7_1 x8_1=some r)∧AsZ (kq≤k)∧AsZ (Below w.heap.size w w'))
 case atStart=>exact ⟨(Go.bits .xor .u32 4294967295 t192),(1),(by first|rfl|(simp;done)|(simp [*];done)),(by first|rfl|(simp;done)|(simp [*];done)),H',⟨Nat.le_refl _⟩,⟨by repeat (first|(with_reducible first|exact HB.out|apply bwa|apply pbN|apply bw1)|exact HB.out)⟩⟩
 case round =>
  clear H'
  try clear p2
  try clear c5
  try clear c5b0
  try clear c5b1
  try clear c5b2
  obtain ⟨x7_1,x8_1,rfl,rfl,HA,HK1,HB⟩:=hrel
  cases gk with
  |zero=>exact absurd HA.out (by simp [spec_l4Tower.l0])
  |succ k1 =>
   have H:=HA.out
   clear HA
   simp only [spec_l4Tower.l0] at H
   have HC8:=AsZ.mk H
   clear H
   go_upto_region 3 with (fail)
   go_cut [22] (fun v22 wc => ∃ (kq:Nat) (x22_7:Bool),v22 = .bool x22_7∧AsZ (spec_l4Tower.j1 kq x7_1 x8_1 x22_7=some r)∧AsZ (kq≤k1)∧AsZ (Below w.heap.size w wc))
   case first =>
    have H:=HC8.out
    clear HC8
    by_cases c9:x8_1 < 5
    rotate_left
    · rw [if_neg c9] at H
      have c9b0:decide (x8_1 < 5)=false:=decide_eq_false c9
      clear c9
      (first|rw [c9b0]|(simp only [i64_w,i32_w];rw [c9b0])|rw [c9b1]|skip)
      have H':=AsZ.mk H
      clear H
      go_wp2
      go_meet
      case rel=>exact ⟨_,(false),(by first|rfl|(simp;done)|(simp [*];done)),H',⟨by have:=HK1.out;first|omega|exact Nat.le_refl _⟩,⟨by repeat (first|(with_reducible first|exact HB.out|apply bwa|apply pbN|apply bw1)|exact HB.out)⟩⟩
    rw [if_pos c9] at H
    have c9b0:decide (x8_1 < 5)=true:=zE c9
    clear c9
    (first|rw [c9b0]|(simp only [i64_w,i32_w];rw [c9b0])|rw [c9b1]|skip)
    have H':=AsZ.mk H
    clear H
    go_wp2
    go_meet
    case rel=>exact ⟨_,(((Go.bits .and .u32 x7_1 3) == 0)),(by first|rfl|(simp;done)|(simp [*];done)),H',⟨by have:=HK1.out;first|omega|exact Nat.le_refl _⟩,⟨by repeat (first|(with_reducible first|exact HB.out|apply bwa|apply pbN|apply bw1)|exact HB.out)⟩⟩
   case rest =>
    clear HC8
    try clear p2
    try clear c5
    try clear c5b0
    try clear c5b1
    try clear c5b2
    try clear c8
    try clear c9
    try clear c9b0
    try clear c9b1
    try clear p2
    obtain ⟨kq,x22_7,rfl,HA,HJ7,HB⟩:=hcut
    cases kq with
    |zero=>exact absurd HA.out (by simp [spec_l4Tower.j1])
    |succ kj7 =>
     have H:=HA.out
     clear HA
     simp only [spec_l4Tower.j1] at H
     by_cases c10:x22_7=true
     rotate_left
     · replace c10:=Bool.eq_false_iff.mpr c10
       subst c10
       have H1:(some x8_1)=some r:=by rw [if_neg (show ¬ (false=true) by decide)] at H;exact H
       clear H
       have H:=H1
       clear H1
       obtain rfl:=zI H
       go_wp2
       go_ret
       exact ⟨by first|rfl|(simp [errW_none,errW_some]<;>rfl)|(simp [*,errW_none,errW_some]<;>rfl),by repeat (first|(with_reducible first|exact HB.out|apply bwa|apply pbN|apply bw1)|exact HB.out)⟩
     subst c10
     have H1:(spec_l4Tower.l0 kj7 (x7_1 / 4) (wrap64 (x8_1 + 1)))=some r:=by rw [if_pos rfl] at H;exact H
     clear H
     have H:=H1
     clear H1
     have H':=AsZ.mk H
     clear H
     go_wp2
     go_roundg kj7
     case measure=>have:=HK1.out;have:=HJ7.out;omega
     case rel=>exact ⟨(x7_1 / 4),(wrap64 (x8_1 + 1)),(by first|rfl|(simp;done)|(simp [*];done)),(by first|rfl|(simp;done)|(simp [*];done)),H',⟨by have:=HK1.out;have:=HJ7.out;omega⟩,⟨by repeat (first|(with_reducible first|exact HB.out|apply bwa|apply pbN|apply bw1)|exact HB.out)⟩⟩
/-! ### spec_l2Table: function 56 -/
mutual
def spec_l2Table.l0:Nat→List Int→Int→Int→Option (List Int)
  |0,_,_,_=>none
  |k + 1,x1,x8,x9=>if x9 < x8 then (spec_l2Table.l1 k x1 x9 ((x9) % 4294967296) 0 x8 x9) else (some x1)
def spec_l2Table.l1:Nat→List Int→Int→Int→Int→Int→Int→Option (List Int)
  |0,_,_,_,_,_,_=>none
  |k + 1,x1,x2,x3,x4,x8,x9=>if x4 < 8 then (if (Go.bits .and .u32 x3 1)=1 then (spec_l2Table.l1 k x1 x2 (Go.bits .xor .u32 (x3 / 2) 2197175160) (wrap64 (x4 + 1)) x8 x9) else (spec_l2Table.l1 k x1 x2 (x3 / 2) (wrap64 (x4 + 1)) x8 x9)) else (if 0≤x2 then (if x2 < (x1.length:Int) then (spec_l2Table.l0 k (x1.set (x2:Int).toNat x3) x8 (wrap64 (x9 + 1))) else (none)) else (none))
end
def spec_l2Table.f (k:Nat)  : Option (List Int):=if 256≤70368744177664 then ((some (List.replicate 256 0:List Int)).bind fun y193=>(spec_l2Table.l0 k y193 (y193.length:Int) 0)) else (none)
theorem spec_l2Table.mono_l:∀ k,(∀ y0 y1 y2,LeO (spec_l2Table.l0 k y0 y1 y2) (spec_l2Table.l0 (k + 1) y0 y1 y2))∧(∀ y0 y1 y2 y3 y4 y5,LeO (spec_l2Table.l1 k y0 y1 y2 y3 y4 y5) (spec_l2Table.l1 (k + 1) y0 y1 y2 y3 y4 y5))
  |0=>⟨fun _ _ _ r h=>by simp [spec_l2Table.l0] at h,fun _ _ _ _ _ _ r h=>by simp [spec_l2Table.l1] at h⟩
  |k + 1=>by
    obtain ⟨ih0,ih1⟩:=spec_l2Table.mono_l k
    refine ⟨?_,?_⟩
    · intro y0 y1 y2
      unfold spec_l2Table.l0
      repeat' first
      |(with_reducible exact ih0 _ _ _)
      |(with_reducible exact ih1 _ _ _ _ _ _)
      |(with_reducible exact LeO.refl _)
      |(with_reducible exact LeO.none _)
      |(with_reducible refine LeO.ite ?_ ?_)
      |(with_reducible refine LeO.bind ?_ (fun _=>?_))
      |exact ih0 _ _ _
      |exact ih1 _ _ _ _ _ _
      |exact LeO.none _
      |refine LeO.ite ?_ ?_
      |refine LeO.bind ?_ (fun _=>?_)
    · intro y0 y1 y2 y3 y4 y5
      unfold spec_l2Table.l1
      repeat' first
      |(with_reducible exact ih0 _ _ _)
      |(with_reducible exact ih1 _ _ _ _ _ _)
      |(with_reducible exact LeO.refl _)
      |(with_reducible exact LeO.none _)
      |(with_reducible refine LeO.ite ?_ ?_)
      |(with_reducible refine LeO.bind ?_ (fun _=>?_))
      |exact ih0 _ _ _
      |exact ih1 _ _ _ _ _ _
      |exact LeO.none _
      |refine LeO.ite ?_ ?_
      |refine LeO.bind ?_ (fun _=>?_)
theorem spec_l2Table.mono:∀ k,LeO (spec_l2Table.f k ) (spec_l2Table.f (k + 1) ):=by
  intro  k
  obtain ⟨ih0,ih1⟩:=spec_l2Table.mono_l k
  unfold spec_l2Table.f
  repeat' first
      |(with_reducible exact ih0 _ _ _)
      |(with_reducible exact ih1 _ _ _ _ _ _)
      |(with_reducible exact LeO.refl _)
      |(with_reducible exact LeO.none _)
      |(with_reducible refine LeO.ite ?_ ?_)
      |(with_reducible refine LeO.bind ?_ (fun _=>?_))
      |exact ih0 _ _ _
      |exact ih1 _ _ _ _ _ _
      |exact LeO.none _
      |refine LeO.ite ?_ ?_
      |refine LeO.bind ?_ (fun _=>?_)
set_option maxHeartbeats 8000000 in
set_option maxRecDepth 100000 in
theorem spec_l2Table.calls (k:Nat)  (r:List Int) (w:World) (h:spec_l2Table.f k  = some r) :
    Calls Tryd.prog 56 #[] w fun e w' => ∃ v0_:Value,e = .returned (v0_)∧Kd.R (Kd.int .u32) 106 w' w.heap.size (fun _=>True) v0_ r∧Below w.heap.size w w':=by
 have HB:=AsZ.mk (Below.refl w.heap.size w)
 have H:(if 256≤70368744177664 then ((some (List.replicate 256 0:List Int)).bind fun y193=>(spec_l2Table.l0 k y193 (y193.length:Int) 0)) else (none))=some r:=h
 clear h
 by_cases c1:256≤70368744177664
 rotate_left
 · rw [if_neg c1] at H
   exact absurd H (by simp)
 rw [if_pos c1] at H
 have c1b0:=eq_true c1
 have c1b1:decide (256≤70368744177664)=true:=zE c1
 clear c1
 obtain ⟨y193,hy193⟩:∃ y_:List Int,y_=(List.replicate 256 0):=⟨_,rfl⟩
 replace H:(spec_l2Table.l0 k y193 (y193.length:Int) 0)=some r:=by first|(rw [hy193];with_reducible exact H)|(have H2_:=(Option.bind_some _ _).symm.trans H;rw [hy193];with_reducible exact H2_)|(have H2_:=(Option.bind_some _ _).symm.trans H;with_reducible exact H2_)|with_reducible exact H|(rw [hy193];exact H)|exact H
 have Ny193:=AsZ.mk hy193
 clear hy193
 have H':=AsZ.mk H
 clear H
 go_enter Tryd.func56,Tryd.ntmps56
 go_wp2_with (first|((with_reducible refine gate_dst (N:=6) rfl ?_);refine Kd.R_make (Kd.int .u32) _ 106 rfl (N:=6) rfl 88 _ _ rfl 256 rfl rfl Tryd.underlying88 (.int .u32 0) 4 info106 rfl (by decide) (by omega) 0 (ok:=fun _=>True) (okp:=fun _=>True) rfl (fun _ hk=>hk) trivial (by omega) (by omega) (Below.refl _ _) (Nat.le_refl _) ?_;intro v194 w2 ho3 hb hg_ hnew_;clear hg_ hnew_;(first|rw [← Ny193.out] at ho3|(simp only [Int.reduceToNat] at ho3;rw [← Ny193.out] at ho3));have n0_:=AsZ.mk (Kd.R_lower ho3 (bwz (by repeat (first|(with_reducible first|exact HB.out|apply bwa|apply pbN|apply bw1)|exact HB.out))));have n1_:=AsZ.mk (bwp (by repeat (first|(with_reducible first|exact HB.out|apply bwa|apply pbN|apply bw1)|exact HB.out)) hb);clear HB;have HO195:=n0_;have HB:=n1_;clear n0_ n1_;clear hb ho3;obtain ⟨Ao4,co4,eo4⟩:=Kd.R_slice HO195.out;subst eo4))
 go_loopg [9] k (fun kq v9 w' => ∃ (x1_1:List Int) (x9_1:Int),v9 = .int .i64 x9_1∧AsZ (spec_l2Table.l0 kq x1_1 (y193.length:Int) x9_1=some r)∧AsZ (kq≤k)∧AsZ (Kd.R (Kd.int .u32) 106 w' w.heap.size (fun _=>True) (.slice Ao4 y193.length co4) x1_1)∧AsZ (Below w.heap.size w w'))
 case atStart=>exact ⟨(y193),(0),(by first|rfl|(simp;done)|(simp [*];done)),H',⟨Nat.le_refl _⟩,⟨by (with_reducible repeat (first|apply Kd.R_alloc|apply Kd.R_drewN|apply Kd.R_drew));exact HO195.out⟩,⟨by repeat (first|(with_reducible first|exact HB.out|apply bwa|apply pbN|apply bw1)|exact HB.out)⟩⟩
 case round =>
  clear H'
  try clear c1
  try clear c1b0
  try clear c1b1
  try clear p2
  obtain ⟨x1_1,x9_1,rfl,HA,HK1,HO_1,HB⟩:=hrel
  have hl1_1:=(Kd.R_reads' HO_1.out).1
  rw [hl1_1] at HO_1
  (try simp only [hl1_1])
  cases gk with
  |zero=>exact absurd HA.out (by simp [spec_l2Table.l0])
  |succ k1 =>
   have H:=HA.out
   clear HA
   simp only [spec_l2Table.l0] at H
   by_cases c5:x9_1 < (y193.length:Int)
   rotate_left
   · rw [if_neg c5] at H
     have c5b0:decide (x9_1 < (y193.length:Int))=false:=decide_eq_false c5
     (try (have c5b0h:=c5b0;simp only [hl1_1] at c5b0h))
     clear c5
     obtain rfl:=zI H
     go_wp2
     go_ret
     exact ⟨_,by first|rfl|(simp [errW_none,errW_some]<;>rfl)|(simp [*,errW_none,errW_some]<;>rfl),by (with_reducible repeat (first|apply Kd.R_alloc|apply Kd.R_drewN|apply Kd.R_drew));exact HO_1.out,by repeat (first|(with_reducible first|exact HB.out|apply bwa|apply pbN|apply bw1)|exact HB.out)⟩
   rw [if_pos c5] at H
   have c5b0:decide (x9_1 < (y193.length:Int))=true:=zE c5
   (try (have c5b0h:=c5b0;simp only [hl1_1] at c5b0h))
   clear c5
   have H':=AsZ.mk H
   clear H
   go_wp2
   go_loopg [3,4] k1 (fun kq v3 v4 w' => ∃ (x3_2:Int) (x4_2:Int),v3 = .int .u32 x3_2∧v4 = .int .i64 x4_2∧AsZ (spec_l2Table.l1 kq x1_1 x9_1 x3_2 x4_2 (y193.length:Int) x9_1=some r)∧AsZ (kq≤k1)∧AsZ (Kd.R (Kd.int .u32) 106 w' w.heap.size (fun _=>True) (.slice Ao4 x1_1.length co4) x1_1)∧AsZ (Below w.heap.size w w'))
   case atStart=>exact ⟨((x9_1) % 4294967296),(0),(by first|rfl|(simp;done)|(simp [*];done)),(by first|rfl|(simp;done)|(simp [*];done)),H',⟨Nat.le_refl _⟩,⟨by (try simp only [hl1_1]);(with_reducible repeat (first|apply Kd.R_alloc|apply Kd.R_drewN|apply Kd.R_drew));exact HO_1.out⟩,⟨by repeat (first|(with_reducible first|exact HB.out|apply bwa|apply pbN|apply bw1)|exact HB.out)⟩⟩
   case round =>
    clear H'
    try clear c1
    try clear c1b0
    try clear c1b1
    try clear p2
    try clear c5
    try clear c5b0
    try clear p2
    obtain ⟨x3_2,x4_2,rfl,rfl,HA,HK2,HO_1,HB⟩:=hrel
    cases gk with
    |zero=>exact absurd HA.out (by simp [spec_l2Table.l1])
    |succ k2 =>
     have H:=HA.out
     clear HA
     simp only [spec_l2Table.l1] at H
     by_cases c6:x4_2 < 8
     · rw [if_pos c6] at H
       have c6b0:decide (x4_2 < 8)=true:=zE c6
       clear c6
       by_cases c7:(Go.bits .and .u32 x3_2 1)=1
       rotate_left
       · rw [if_neg c7] at H
         have c7b0:((Go.bits .and .u32 x3_2 1) == 1)=false:=beq_eq_false_iff_ne.mpr c7
         have c7b1:((Go.bits .and .u32 x3_2 1) != 1)=true:=bne_iff_ne.mpr c7
         have H':=AsZ.mk H
         clear H
         go_wp2
         go_roundg k2
         case measure=>have:=HK1.out;have:=HK2.out;omega
         case rel=>exact ⟨(x3_2 / 2),(wrap64 (x4_2 + 1)),(by first|rfl|(simp;done)|(simp [*];done)),(by first|rfl|(simp;done)|(simp [*];done)),H',⟨by have:=HK1.out;have:=HK2.out;omega⟩,⟨by (try simp only [hl1_1]);(with_reducible repeat (first|apply Kd.R_alloc|apply Kd.R_drewN|apply Kd.R_drew));exact HO_1.out⟩,⟨by repeat (first|(with_reducible first|exact HB.out|apply bwa|apply pbN|apply bw1)|exact HB.out)⟩⟩
       rw [if_pos c7] at H
       have c7b0:((Go.bits .and .u32 x3_2 1) == 1)=true:=beq_iff_eq.mpr c7
       have c7b1:((Go.bits .and .u32 x3_2 1) != 1)=false:=bne_eq_false_iff_eq.mpr c7
       clear c7
       have H':=AsZ.mk H
       clear H
       go_wp2
       go_roundg k2
       case measure=>have:=HK1.out;have:=HK2.out;omega
       case rel=>exact ⟨(Go.bits .xor .u32 (x3_2 / 2) 2197175160),(wrap64 (x4_2 + 1)),(by first|rfl|(simp;done)|(simp [*];done)),(by first|rfl|(simp;done)|(simp [*];done)),H',⟨by have:=HK1.out;have:=HK2.out;omega⟩,⟨by (try simp only [hl1_1]);(with_reducible repeat (first|apply Kd.R_alloc|apply Kd.R_drewN|apply Kd.R_drew));exact HO_1.out⟩,⟨by repeat (first|(with_reducible first|exact HB.out|apply bwa|apply pbN|apply bw1)|exact HB.out)⟩⟩
     rw [if_neg c6] at H
     have c6b0:decide (x4_2 < 8)=false:=decide_eq_false c6
     clear c6
     by_cases c8:0≤x9_1
     rotate_left
     · rw [if_neg c8] at H
       exact absurd H (by simp)
     rw [if_pos c8] at H
     have c8b0:decide (0≤x9_1)=true:=zE c8
     clear c8
     by_cases c9:x9_1 < (x1_1.length:Int)
     rotate_left
     · rw [if_neg c9] at H
       exact absurd H (by simp)
     rw [if_pos c9] at H
     have c9b0:decide (x9_1 < (x1_1.length:Int))=true:=zE c9
     (try (have c9b0h:=c9b0;simp only [hl1_1] at c9b0h))
     clear c9
     obtain ⟨y196,hy196⟩:∃ y_:List Int,y_=(x1_1.set (x9_1:Int).toNat x3_2):=⟨_,rfl⟩
     replace H:(spec_l2Table.l0 k2 y196 (y193.length:Int) (wrap64 (x9_1 + 1)))=some r:=by first|(rw [hy196];with_reducible exact H)|(have H2_:=(Option.bind_some _ _).symm.trans H;rw [hy196];with_reducible exact H2_)|(have H2_:=(Option.bind_some _ _).symm.trans H;with_reducible exact H2_)|with_reducible exact H|(rw [hy196];exact H)|exact H
     have Ny196:=AsZ.mk hy196
     clear hy196
     have H':=AsZ.mk H
     clear H
     have p10:0≤(x9_1:Int):=zD (by first|(with_reducible assumption)|assumption)
     have q10:(x9_1:Int) < ((x1_1.length:Int):Int):=zD (by first|(with_reducible assumption)|assumption)
     obtain ⟨go10,co10,eo10,gb10,gl10,cl10,HG10⟩:=Kd.R_form HO_1.out (by omega)
     (first|cases eo10|(injection eo10 with ea_ en_ ec_;(first|subst ea_|(injection ea_ with ea_;subst ea_));subst ec_;clear en_))
     have GB10:=AsZ.mk gb10
     have GG10:=AsZ.mk HG10
     clear gb10 gl10 HG10
     obtain ⟨hx10_0,hf10_0⟩:=Kd.R_celln 0 HO_1.out (x9_1:Int) p10 q10
     replace p10:=eq_true p10
     replace q10:=eq_true q10
     have HP11:=Kd.R_putg HO_1.out (x9_1:Int) x3_2
     go_wp2_with (first|((with_reducible refine gate_store (t:=106) (p:=29) rfl ?_);refine store_event (t:=106) (p:=29) (v:=?vo_w12) (w1:=(wr.setCell ⟨go10,(x9_1:Int).toNat,none⟩ (.int .u32 x3_2))) ?hg ?ho ?hn ?hr ?_;(case ho=>rfl);(case hg=>rfl);(case hn=>rfl);(case hr=>first|(go_simp;done)|(go_simp;rfl));intro w12 hw;have hg:wr.grownBy w12 (some go10):=(by rw [hw];exact HP11.2);have hp_:Kd.R (Kd.int .u32) 106 w12 w.heap.size (fun _=>True) (.slice (some ⟨go10,0,none⟩) x1_1.length co4) y196:=(by rw [hw,Ny196.out];exact HP11.1);clear HP11;have n0_:=AsZ.mk (hp_);have n1_:=AsZ.mk ((by rw [hw];exact bws (HB.out) GB10.out:Below w.heap.size w w12));clear HO_1;clear HB;have HO_1:=n0_;have HB:=n1_;clear n0_ n1_;clear hg hw hp_))
     (try simp only [← hl1_1])
     go_roundg k2
     case measure=>have:=HK1.out;have:=HK2.out;omega
     case rel=>exact ⟨(y196),(wrap64 (x9_1 + 1)),(by first|rfl|(simp;done)|(simp [*];done)),H',⟨by have:=HK1.out;have:=HK2.out;omega⟩,⟨by (try simp only [hl1_1]);(with_reducible repeat (first|apply Kd.R_alloc|apply Kd.R_drewN|apply Kd.R_drew));exact HO_1.out⟩,⟨by repeat (first|(with_reducible first|exact HB.out|apply bwa|apply pbN|apply bw1)|exact HB.out)⟩⟩
/-! ### spec_l4Next: function 72 -/
def spec_l4Next.f (l0_0:List Int) (l0_1:List (S77)) (a1:Int) (a2:Int):Option (Int):=if a1 < 0 then (if 0≤a2 then (if a2 < (l0_0.length:Int) then (some (rd l0_0 a2)) else (none)) else (none)) else (if 0≤a1 then (if a1 < (l0_1.length:Int) then (if 0≤a2 then (if a2 < (((rd_T77 l0_1 a1).f1).length:Int) then (some (rd ((rd_T77 l0_1 a1).f1) a2)) else (none)) else (none)) else (none)) else (none))
set_option maxHeartbeats 8000000 in
set_option maxRecDepth 100000 in
theorem spec_l4Next.calls (A0_0:Option Addr) (c0_0:Nat) (l0_0:List Int) (A0_1:Option Addr) (c0_1:Nat) (l0_1:List (S77)) (a1:Int) (a2:Int) (r:Int) (w:World) (hr0_0:Kd.C (Kd.int .i64) w A0_0 l0_0.length l0_0) (hc0_0:l0_0.length≤c0_0) (hr0_1:Kd.C k77 w A0_1 l0_1.length l0_1) (hc0_1:l0_1.length≤c0_1) (h:spec_l4Next.f l0_0 l0_1 a1 a2=some r) :
    Calls Tryd.prog 72 #[.agg #[.slice A0_0 l0_0.length c0_0,.slice A0_1 l0_1.length c0_1],.int .i64 a1,.int .i64 a2] w fun e w'=>e = .returned (.int .i64 r)∧Below w.heap.size w w':=by
 have hu26:=Tryd.underlying26
 have HR0_0:=AsZ.mk hr0_0
 have HC0_0:=AsZ.mk hc0_0
 clear hr0_0 hc0_0
 have HR0_1:=AsZ.mk hr0_1
 have HC0_1:=AsZ.mk hc0_1
 clear hr0_1 hc0_1
 have HB:=AsZ.mk (Below.refl w.heap.size w)
 have H:(if a1 < 0 then (if 0≤a2 then (if a2 < (l0_0.length:Int) then (some (rd l0_0 a2)) else (none)) else (none)) else (if 0≤a1 then (if a1 < (l0_1.length:Int) then (if 0≤a2 then (if a2 < (((rd_T77 l0_1 a1).f1).length:Int) then (some (rd ((rd_T77 l0_1 a1).f1) a2)) else (none)) else (none)) else (none)) else (none)))=some r:=h
 clear h
 by_cases c4:a1 < 0
 · rw [if_pos c4] at H
   have c4b0:decide (a1 < 0)=true:=zE c4
   clear c4
   by_cases c5:0≤a2
   rotate_left
   · rw [if_neg c5] at H
     exact absurd H (by simp)
   rw [if_pos c5] at H
   have c5b0:decide (0≤a2)=true:=zE c5
   clear c5
   by_cases c6:a2 < (l0_0.length:Int)
   rotate_left
   · rw [if_neg c6] at H
     exact absurd H (by simp)
   rw [if_pos c6] at H
   have c6b0:decide (a2 < (l0_0.length:Int))=true:=zE c6
   clear c6
   obtain rfl:=zI H
   go_enter Tryd.func72,Tryd.ntmps72
   go_wp2_with (first|((with_reducible refine gate_dst (N:=3) rfl ?_);refine box_event ?hg (N:=3) ?hd (cs:=#[.slice A0_0 l0_0.length c0_0,.slice A0_1 l0_1.length c0_1]) (t:=26) ?hr ?_;(case hd=>rfl);(case hg=>rfl);(case hr=>first|(go_simp;done)|(go_simp;rfl));intro gb197 hg w7 hbox hb;have n0_:=AsZ.mk (bwp (by repeat (first|(with_reducible first|exact HB.out|apply bwa|apply pbN|apply bw1)|exact HB.out)) hb);have n1_:=AsZ.mk (hbox);have n2_:=AsZ.mk ((by rw [hg];exact (bwz (by repeat (first|(with_reducible first|exact HB.out|apply bwa|apply pbN|apply bw1)|exact HB.out))):w.heap.size≤gb197));have n3_:=AsZ.mk ((by rw [hg];exact (bwz (by repeat (first|(with_reducible first|exact HB.out|apply bwa|apply pbN|apply bw1)|exact HB.out))):w.heap.size≤gb197));clear HB;have HB:=n0_;have BK197:=n1_;have GW197:=n2_;have GE197:=n3_;clear n0_ n1_ n2_ n3_;clear hb hbox hg;have hcz8_0:w7.cell? ⟨gb197,0,none⟩=some (.slice A0_0 l0_0.length c0_0):=(kc BK197.out 0).trans rfl;have hcz8_1:w7.cell? ⟨gb197,1,none⟩=some (.slice A0_1 l0_1.length c0_1):=(kc BK197.out 1).trans rfl;have hfz8_0:=kf BK197.out 0;have hfz8_1:=kf BK197.out 1;have p198:0≤(a2:Int):=zD (by first|(with_reducible assumption)|assumption);have q198:a2 < (l0_0.length:Int):=zD (by first|(with_reducible assumption)|assumption);obtain ⟨ad198,e198,hx198_0⟩:=Kd.at_int HR0_0.out a2 p198 q198;cases e198;replace hx198_0:=(HB.out.cell (zB w _ hx198_0)).trans hx198_0;replace p198:=eq_true p198;replace q198:=eq_true q198))
   go_ret
   exact ⟨by first|rfl|(simp [errW_none,errW_some]<;>rfl)|(simp [*,errW_none,errW_some]<;>rfl),by repeat (first|(with_reducible first|exact HB.out|apply bwa|apply pbN|apply bw1|refine bws ?_ GE197.out)|exact HB.out)⟩
 rw [if_neg c4] at H
 have c4b0:decide (a1 < 0)=false:=decide_eq_false c4
 clear c4
 by_cases c9:0≤a1
 rotate_left
 · rw [if_neg c9] at H
   exact absurd H (by simp)
 rw [if_pos c9] at H
 have c9b0:decide (0≤a1)=true:=zE c9
 clear c9
 by_cases c10:a1 < (l0_1.length:Int)
 rotate_left
 · rw [if_neg c10] at H
   exact absurd H (by simp)
 rw [if_pos c10] at H
 have c10b0:decide (a1 < (l0_1.length:Int))=true:=zE c10
 clear c10
 by_cases c11:0≤a2
 rotate_left
 · rw [if_neg c11] at H
   exact absurd H (by simp)
 rw [if_pos c11] at H
 have c11b0:decide (0≤a2)=true:=zE c11
 clear c11
 by_cases c12:a2 < (((rd_T77 l0_1 a1).f1).length:Int)
 rotate_left
 · rw [if_neg c12] at H
   exact absurd H (by simp)
 rw [if_pos c12] at H
 have c12b0:decide (a2 < (((rd_T77 l0_1 a1).f1).length:Int))=true:=zE c12
 clear c12
 obtain rfl:=zI H
 go_enter Tryd.func72,Tryd.ntmps72
 go_wp2_with (first|((with_reducible refine gate_dst (N:=3) rfl ?_);refine box_event ?hg (N:=3) ?hd (cs:=#[.slice A0_0 l0_0.length c0_0,.slice A0_1 l0_1.length c0_1]) (t:=26) ?hr ?_;(case hd=>rfl);(case hg=>rfl);(case hr=>first|(go_simp;done)|(go_simp;rfl));intro gb197 hg w13 hbox hb;have n0_:=AsZ.mk (bwp (by repeat (first|(with_reducible first|exact HB.out|apply bwa|apply pbN|apply bw1)|exact HB.out)) hb);have n1_:=AsZ.mk (hbox);have n2_:=AsZ.mk ((by rw [hg];exact (bwz (by repeat (first|(with_reducible first|exact HB.out|apply bwa|apply pbN|apply bw1)|exact HB.out))):w.heap.size≤gb197));have n3_:=AsZ.mk ((by rw [hg];exact (bwz (by repeat (first|(with_reducible first|exact HB.out|apply bwa|apply pbN|apply bw1)|exact HB.out))):w.heap.size≤gb197));clear HB;have HB:=n0_;have BK197:=n1_;have GW197:=n2_;have GE197:=n3_;clear n0_ n1_ n2_ n3_;clear hb hbox hg;have hcz14_0:w13.cell? ⟨gb197,0,none⟩=some (.slice A0_0 l0_0.length c0_0):=(kc BK197.out 0).trans rfl;have hcz14_1:w13.cell? ⟨gb197,1,none⟩=some (.slice A0_1 l0_1.length c0_1):=(kc BK197.out 1).trans rfl;have hfz14_0:=kf BK197.out 0;have hfz14_1:=kf BK197.out 1;have p199:0≤(a1:Int):=zD (by first|(with_reducible assumption)|assumption);have q199:a1 < (l0_1.length:Int):=zD (by first|(with_reducible assumption)|assumption);obtain ⟨ad199,A199_4,c199_4,e199,hx199_0,hx199_1,hx199_2,hx199_3,hx199_4,hl199_4,hi199_4⟩:=at_T77 HR0_1.out a1 p199 q199;cases e199;replace hx199_0:=(HB.out.cell (zB w _ hx199_0)).trans hx199_0;replace hx199_1:=(HB.out.cell (zB w _ hx199_1)).trans hx199_1;replace hx199_2:=(HB.out.cell (zB w _ hx199_2)).trans hx199_2;replace hx199_3:=(HB.out.cell (zB w _ hx199_3)).trans hx199_3;replace hx199_4:=(HB.out.cell (zB w _ hx199_4)).trans hx199_4;have HR199_4:=AsZ.mk hi199_4;have HC199_4:=AsZ.mk hl199_4;clear hi199_4 hl199_4;replace p199:=eq_true p199;replace q199:=eq_true q199;have p200:0≤(a2:Int):=zD (by first|(with_reducible assumption)|assumption);have q200:a2 < (((rd_T77 l0_1 a1).f1).length:Int):=zD (by first|(with_reducible assumption)|assumption);obtain ⟨ad200,e200,hx200_0⟩:=Kd.at_int HR199_4.out a2 p200 q200;cases e200;replace hx200_0:=(HB.out.cell (zB w _ hx200_0)).trans hx200_0;replace p200:=eq_true p200;replace q200:=eq_true q200))
 go_ret
 exact ⟨by first|rfl|(simp [errW_none,errW_some]<;>rfl)|(simp [*,errW_none,errW_some]<;>rfl),by repeat (first|(with_reducible first|exact HB.out|apply bwa|apply pbN|apply bw1|refine bws ?_ GE197.out)|exact HB.out)⟩
end Go.Proofs.YtffjlpphcjfdgaaDoor.MFnExactListSkip
