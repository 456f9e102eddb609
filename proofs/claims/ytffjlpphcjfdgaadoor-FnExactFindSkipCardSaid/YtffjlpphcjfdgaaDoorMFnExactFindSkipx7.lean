-- Written by a program of this session out of the translation. Not trusted: Lean checks it.
import Derived.Test.YtffjlpphcjfdgaaDoorMFnExactFindSkipx0
import Derived.Test.YtffjlpphcjfdgaaDoorMFnExactFindSkipx2
import Derived.Test.YtffjlpphcjfdgaaDoorMFnExactFindSkipx3
import Derived.Test.YtffjlpphcjfdgaaDoorMFnExactFindSkipx4
import Derived.Test.YtffjlpphcjfdgaaDoorMFnExactFindSkipx6
namespace Go.Proofs.YtffjlpphcjfdgaaDoor.MFnExactFindSkip
-- short
-- shrunk
-- TAB
-- RD
open Go.Proofs.YtffjlpphcjfdgaaDoor Go.RowKit Go.Proofs.YtffjlpphcjfdgaaDoorW.PrintWords Go.Proofs.YtffjlpphcjfdgaaDoorW.PrintLast Go.Proofs.YtffjlpphcjfdgaaDoorW.PrintMore Go.Proofs.YtffjlpphcjfdgaaDoorX
attribute [local go_sem] max2_int min2_int max_two min_two max_three min_three max_four min_four str_gtr str_leq str_geq cell_twice
set_option linter.unusedVariables false
set_option linter.unusedSimpArgs false
/-! ### impl_Skip_seek: function 40 -/
mutual
def impl_Skip_seek.l0:Nat→List Int→Int→Int→Int→List Int→List (S77)→ByteArray→Int→Int→ByteArray→Option (List Int × Int)
  |0,_,_,_,_,_,_,_,_,_,_=>none
  |k + 1,x6,x7,x8,x9,x1000,x1001,x215000,x215001,x215002,x215003=>if x9 ≥ 0 then (impl_Skip_seek.l1 k x6 x7 x8 x9 x1000 x1001 x215000 x215001 x215002 x215003) else (some (x6,x8))
def impl_Skip_seek.l1:Nat→List Int→Int→Int→Int→List Int→List (S77)→ByteArray→Int→Int→ByteArray→Option (List Int × Int)
  |0,_,_,_,_,_,_,_,_,_,_=>none
  |k + 1,x6,x7,x8,x9,x1000,x1001,x215000,x215001,x215002,x215003=>(impl_Skip_next.f x1000 x1001 x7 x9).bind fun t218=>(if t218=(-1) then (if 0≤x9 then (if x9 < (x6.length:Int) then (impl_Skip_seek.l0 k (x6.set (x9:Int).toNat x7) x7 x8 (wrap64 (x9 - 1)) x1000 x1001 x215000 x215001 x215002 x215003) else (none)) else (none)) else (if 0≤t218 then (if t218 < (x1001.length:Int) then ((impl_itemOrder.f k ((rd_T77 x1001 t218).f0.f0) ((rd_T77 x1001 t218).f0.f1) ((rd_T77 x1001 t218).f0.f2) ((rd_T77 x1001 t218).f0.f3) x215000 x215001 x215002 x215003).bind fun t221=>(if t221 ≥ 0 then (if 0≤x9 then (if x9 < (x6.length:Int) then (impl_Skip_seek.l0 k (x6.set (x9:Int).toNat x7) x7 (wrap64 (x8 + 1)) (wrap64 (x9 - 1)) x1000 x1001 x215000 x215001 x215002 x215003) else (none)) else (none)) else (impl_Skip_seek.l1 k x6 t218 (wrap64 (x8 + 1)) x9 x1000 x1001 x215000 x215001 x215002 x215003))) else (none)) else (none)))
end
def impl_Skip_seek.f (k:Nat) (s0_0:List Int) (s0_1:List (S77)) (a1_0:ByteArray) (a1_1:Int) (a1_2:Int) (a1_3:ByteArray):Option (List Int × Int):=if 5≤35184372088832 then (impl_Skip_seek.l0 k (List.replicate 5 0) (-1) 0 4 s0_0 s0_1 a1_0 a1_1 a1_2 a1_3) else (none)
theorem impl_Skip_seek.mono_l:∀ k,(∀ y0 y1 y2 y3 y4 y5 y6 y7 y8 y9,LeO (impl_Skip_seek.l0 k y0 y1 y2 y3 y4 y5 y6 y7 y8 y9) (impl_Skip_seek.l0 (k + 1) y0 y1 y2 y3 y4 y5 y6 y7 y8 y9))∧(∀ y0 y1 y2 y3 y4 y5 y6 y7 y8 y9,LeO (impl_Skip_seek.l1 k y0 y1 y2 y3 y4 y5 y6 y7 y8 y9) (impl_Skip_seek.l1 (k + 1) y0 y1 y2 y3 y4 y5 y6 y7 y8 y9))
  |0=>⟨fun _ _ _ _ _ _ _ _ _ _ r h=>by simp [impl_Skip_seek.l0] at h,fun _ _ _ _ _ _ _ _ _ _ r h=>by simp [impl_Skip_seek.l1] at h⟩
  |k + 1=>by
    obtain ⟨ih0,ih1⟩:=impl_Skip_seek.mono_l k
    refine ⟨?_,?_⟩
    · intro y0 y1 y2 y3 y4 y5 y6 y7 y8 y9
      unfold impl_Skip_seek.l0
      repeat' first
      |(with_reducible exact ih0 _ _ _ _ _ _ _ _ _ _)
      |(with_reducible exact ih1 _ _ _ _ _ _ _ _ _ _)
      |(with_reducible exact impl_itemOrder.mono _ _ _ _ _ _ _ _ _)
      |(with_reducible exact LeO.refl _)
      |(with_reducible exact LeO.none _)
      |(with_reducible refine LeO.ite ?_ ?_)
      |(with_reducible refine LeO.bind ?_ (fun _=>?_))
      |exact ih0 _ _ _ _ _ _ _ _ _ _
      |exact ih1 _ _ _ _ _ _ _ _ _ _
      |exact impl_itemOrder.mono _ _ _ _ _ _ _ _ _
      |exact LeO.none _
      |refine LeO.ite ?_ ?_
      |refine LeO.bind ?_ (fun _=>?_)
    · intro y0 y1 y2 y3 y4 y5 y6 y7 y8 y9
      unfold impl_Skip_seek.l1
      repeat' first
      |(with_reducible exact ih0 _ _ _ _ _ _ _ _ _ _)
      |(with_reducible exact ih1 _ _ _ _ _ _ _ _ _ _)
      |(with_reducible exact impl_itemOrder.mono _ _ _ _ _ _ _ _ _)
      |(with_reducible exact LeO.refl _)
      |(with_reducible exact LeO.none _)
      |(with_reducible refine LeO.ite ?_ ?_)
      |(with_reducible refine LeO.bind ?_ (fun _=>?_))
      |exact ih0 _ _ _ _ _ _ _ _ _ _
      |exact ih1 _ _ _ _ _ _ _ _ _ _
      |exact impl_itemOrder.mono _ _ _ _ _ _ _ _ _
      |exact LeO.none _
      |refine LeO.ite ?_ ?_
      |refine LeO.bind ?_ (fun _=>?_)
theorem impl_Skip_seek.mono:∀ a0 a1 a2 a3 a4 a5 k,LeO (impl_Skip_seek.f k a0 a1 a2 a3 a4 a5) (impl_Skip_seek.f (k + 1) a0 a1 a2 a3 a4 a5):=by
  intro a0 a1 a2 a3 a4 a5 k
  obtain ⟨ih0,ih1⟩:=impl_Skip_seek.mono_l k
  unfold impl_Skip_seek.f
  repeat' first
      |(with_reducible exact ih0 _ _ _ _ _ _ _ _ _ _)
      |(with_reducible exact ih1 _ _ _ _ _ _ _ _ _ _)
      |(with_reducible exact impl_itemOrder.mono _ _ _ _ _ _ _ _ _)
      |(with_reducible exact LeO.refl _)
      |(with_reducible exact LeO.none _)
      |(with_reducible refine LeO.ite ?_ ?_)
      |(with_reducible refine LeO.bind ?_ (fun _=>?_))
      |exact ih0 _ _ _ _ _ _ _ _ _ _
      |exact ih1 _ _ _ _ _ _ _ _ _ _
      |exact impl_itemOrder.mono _ _ _ _ _ _ _ _ _
      |exact LeO.none _
      |refine LeO.ite ?_ ?_
      |refine LeO.bind ?_ (fun _=>?_)
def impl_Skip_seek.T8:Bool × List (List Nat × List Nat):=(true,[([],[]),([0],[0]),([1],[1]),([2],[2]),([],[]),([3,4],[3,4]),([5],[5]),([6],[6]),([],[]),([7,8],[7,8]),([9],[9])])
def impl_Skip_seek.B8:List Nat:=[0,1,3,7,0,31,63,127,0,511,1023]
theorem impl_Skip_seek.tab8:rtab .any (opsOf Tryd.f40 8)=impl_Skip_seek.T8:=by kernel_rfl
theorem impl_Skip_seek.bits8:waitsOk impl_Skip_seek.T8.2 impl_Skip_seek.B8=true:=by kernel_rfl
set_option maxHeartbeats 8000000 in
set_option maxRecDepth 100000 in
theorem impl_Skip_seek.calls (k:Nat) (g:Nat) (s0_0:List Int) (s0_1:List (S77)) (a1_0:ByteArray) (a1_1:Int) (a1_2:Int) (a1_3:ByteArray) (r1:List Int) (r2:Int) (w0 w:World) (hI:IsS26 w0 w g s0_0 s0_1) (hB:Below w0.heap.size w0 w) (h:impl_Skip_seek.f k s0_0 s0_1 a1_0 a1_1 a1_2 a1_3=some (r1,r2)) :
    Calls Tryd.prog 40 #[.pointer (some ⟨g,0,none⟩),.agg #[.string a1_0,.int .i64 a1_1,.int .i64 a1_2,.string a1_3]] w fun e w' => ∃ v0_:Value,e = .returned (.tuple #[v0_,.int .i64 r2])∧Kd.R (Kd.int .i64) 3 w' w.heap.size (fun _=>True) v0_ r1∧IsS26 w0 w' g s0_0 s0_1∧Below w0.heap.size w0 w'∧KeepF w w' g none:=by
 have hu28:=Tryd.underlying28
 have HI0:=AsZ.mk hI
 obtain ⟨A0q_,c0q_,A1q_,c1q_,HGq_,_⟩:=hI
 have HGq:=AsZ.mk HGq_
 clear HGq_
 have HK:=AsZ.mk (KeepF.refl w g none)
 have HL:=AsZ.mk hB.size
 have HW0:=AsZ.mk hB.size
 have HB:=AsZ.mk hB
 clear hB
 have H:(if 5≤35184372088832 then (impl_Skip_seek.l0 k (List.replicate 5 0) (-1) 0 4 s0_0 s0_1 a1_0 a1_1 a1_2 a1_3) else (none))=some (r1,r2):=h
 clear h
 by_cases c3:5≤35184372088832
 rotate_left
 · rw [if_neg c3] at H
   exact absurd H (by simp)
 rw [if_pos c3] at H
 have c3b0:=eq_true c3
 have c3b1:decide (5≤35184372088832)=true:=zE c3
 clear c3
 obtain ⟨y215,hy215⟩:∃ y_:List Int,y_=(List.replicate 5 0):=⟨_,rfl⟩
 replace H:(impl_Skip_seek.l0 k y215 (-1) 0 4 s0_0 s0_1 a1_0 a1_1 a1_2 a1_3)=some (r1,r2):=by first|(rw [hy215];with_reducible exact H)|(have H2_:=(Option.bind_some _ _).symm.trans H;rw [hy215];with_reducible exact H2_)|(have H2_:=(Option.bind_some _ _).symm.trans H;with_reducible exact H2_)|with_reducible exact H|(rw [hy215];exact H)|exact H
 have Ny215:=AsZ.mk hy215
 clear hy215
 have H':=AsZ.mk H
 clear H
 go_enter Tryd.func40,Tryd.ntmps40
 go_wp2_with (first|((with_reducible refine gate_dst (N:=3) rfl ?_);refine box_event ?hg (N:=3) ?hd (cs:=#[.string a1_0,.int .i64 a1_1,.int .i64 a1_2,.string a1_3]) (t:=28) ?hr ?_;(case hd=>rfl);(case hg=>rfl);(case hr=>first|(go_simp;done)|(go_simp;rfl));intro gb214 hg w4 hbox hb;have n0_:=AsZ.mk (IsS26.below (by repeat (first|(with_reducible first|exact HI0.out|apply IsS26.alloc|apply IsS26.drewN|apply IsS26.drew)|exact HI0.out)) hb);have n1_:=AsZ.mk (KeepF.trans (by repeat (first|(with_reducible first|exact HK.out|apply KeepF.keep|apply KeepF.drewN|apply KeepF.drew|apply KeepF.alloc)|exact HK.out)) (KeepF.of_below hb g none) (.inl rfl));have n2_:=AsZ.mk (bwp (by repeat (first|(with_reducible first|exact HB.out|apply bwa|apply pbN|apply bw1|refine bws ?_ (IsS26.ge HI0.out))|exact HB.out)) hb);have n3_:=AsZ.mk (hbox);have n4_:=AsZ.mk ((by rw [hg];exact (keep_size (w:=w) (g:=g) (row:=none) (by repeat (first|(with_reducible first|exact HK.out|apply KeepF.keep|apply KeepF.drewN|apply KeepF.drew|apply KeepF.alloc)|exact HK.out))):w.heap.size≤gb214));have n5_:=AsZ.mk ((Nat.le_trans HW0.out (by rw [hg];exact (keep_size (w:=w) (g:=g) (row:=none) (by repeat (first|(with_reducible first|exact HK.out|apply KeepF.keep|apply KeepF.drewN|apply KeepF.drew|apply KeepF.alloc)|exact HK.out))):w.heap.size≤gb214):w0.heap.size≤gb214));have n6_:=AsZ.mk ((by rw [hg];exact Nat.ne_of_lt (IsS26.lt (show IsS26 w0 _ g s0_0 s0_1 from by repeat (first|(with_reducible first|exact HI0.out|apply IsS26.alloc|apply IsS26.drewN|apply IsS26.drew)|exact HI0.out))):g ≠ gb214));have n7_:=AsZ.mk ((by rw [hg];exact Nat.ne_of_gt (IsS26.lt (show IsS26 w0 _ g s0_0 s0_1 from by repeat (first|(with_reducible first|exact HI0.out|apply IsS26.alloc|apply IsS26.drewN|apply IsS26.drew)|exact HI0.out))):gb214 ≠ g));clear HI0;clear HK;clear HB;have HI0:=n0_;have HK:=n1_;have HB:=n2_;have BK214:=n3_;have GW214:=n4_;have GE214:=n5_;have NB0_214:=n6_;have NB214_0:=n7_;clear n0_ n1_ n2_ n3_ n4_ n5_ n6_ n7_;clear hb hbox hg)|((with_reducible refine gate_dst (N:=11) rfl ?_);refine Kd.R_make (Kd.int .i64) _ 3 rfl (N:=11) rfl 23 _ _ rfl 5 rfl rfl Tryd.underlying23 (.int .i64 0) 8 info3 rfl (by decide) (by omega) 0 (ok:=fun _=>True) (okp:=fun _=>True) rfl (fun _ hk=>hk) trivial (by omega) (by omega) (Below.refl _ _) (Nat.le_refl _) ?_;intro v216 w5 ho6 hb hg_ hnew_;clear hg_ hnew_;(first|rw [← Ny215.out] at ho6|(simp only [Int.reduceToNat] at ho6;rw [← Ny215.out] at ho6));have n0_:=AsZ.mk (Kd.R_lower ho6 (keep_size (w:=w) (g:=g) (row:=none) (by repeat (first|(with_reducible first|exact HK.out|apply KeepF.keep|apply KeepF.drewN|apply KeepF.drew|apply KeepF.alloc|refine KeepF.far ?_ GW214.out _)|exact HK.out))));have n1_:=AsZ.mk (IsS26.below (by repeat (first|(with_reducible first|exact HI0.out|apply IsS26.alloc|apply IsS26.drewN|apply IsS26.drew|refine IsS26.far ?_ NB0_214.out _)|exact HI0.out)) hb);have n2_:=AsZ.mk (kb (g:=gb214) (o := .cells #[.string a1_0,.int .i64 a1_1,.int .i64 a1_2,.string a1_3] 28 (0,0)) (by (with_reducible repeat (first|refine kdN ?_ _|refine kd ?_|refine ka ?_ _));exact BK214.out) hb);have n3_:=AsZ.mk (KeepF.trans (by repeat (first|(with_reducible first|exact HK.out|apply KeepF.keep|apply KeepF.drewN|apply KeepF.drew|apply KeepF.alloc|refine KeepF.far ?_ GW214.out _)|exact HK.out)) (KeepF.of_below hb g none) (.inl rfl));have n4_:=AsZ.mk (bwp (by repeat (first|(with_reducible first|exact HB.out|apply bwa|apply pbN|apply bw1|refine bws ?_ (IsS26.ge HI0.out)|refine bws ?_ GE214.out)|exact HB.out)) hb);clear HI0;clear BK214;clear HK;clear HB;have HO217:=n0_;have HI0:=n1_;have BK214:=n2_;have HK:=n3_;have HB:=n4_;clear n0_ n1_ n2_ n3_ n4_;clear hb ho6))
 go_loopg [7,8,9] k (fun kq v7 v8 v9 w' => ∃ (x6_1:List Int) (x7_1:Int) (x8_1:Int) (x9_1:Int),v7 = .int .i64 x7_1∧v8 = .int .i64 x8_1∧v9 = .int .i64 x9_1∧AsZ (impl_Skip_seek.l0 kq x6_1 x7_1 x8_1 x9_1 s0_0 s0_1 a1_0 a1_1 a1_2 a1_3=some (r1,r2))∧AsZ (kq≤k)∧AsZ (Kd.R (Kd.int .i64) 3 w' w.heap.size (fun _=>True) v216 x6_1)∧AsZ (w'.heap[gb214]? = some (.cells #[.string a1_0,.int .i64 a1_1,.int .i64 a1_2,.string a1_3] 28 (0,0)))∧AsZ (IsS26 w0 w' g s0_0 s0_1)∧AsZ (KeepF w w' g none)∧AsZ (Below w0.heap.size w0 w'))
 case atStart=>exact ⟨(y215),((-1)),(0),(4),(by first|rfl|(simp;done)|(simp [*];done)),(by first|rfl|(simp;done)|(simp [*];done)),(by first|rfl|(simp;done)|(simp [*];done)),H',⟨Nat.le_refl _⟩,⟨by (with_reducible repeat (first|apply Kd.R_alloc|apply Kd.R_drewN|apply Kd.R_drew));exact HO217.out⟩,⟨by (with_reducible repeat (first|refine kdN ?_ _|refine kd ?_|refine ka ?_ _));exact BK214.out⟩,⟨by repeat (first|(with_reducible first|exact HI0.out|apply IsS26.alloc|apply IsS26.drewN|apply IsS26.drew|refine IsS26.far ?_ NB0_214.out _)|exact HI0.out)⟩,⟨by repeat (first|(with_reducible first|exact HK.out|apply KeepF.keep|apply KeepF.drewN|apply KeepF.drew|apply KeepF.alloc|refine KeepF.far ?_ GW214.out _)|exact HK.out)⟩,⟨by repeat (first|(with_reducible first|exact HB.out|apply bwa|apply pbN|apply bw1|refine bws ?_ (IsS26.ge HI0.out)|refine bws ?_ GE214.out)|exact HB.out)⟩⟩
 case round =>
  clear H'
  try clear p2
  try clear c3
  try clear c3b0
  try clear c3b1
  try clear c4
  obtain ⟨x6_1,x7_1,x8_1,x9_1,rfl,rfl,rfl,HA,HK1,HO_6,BK214,HI0,HK,HB⟩:=hrel
  cases gk with
  |zero=>exact absurd HA.out (by simp [impl_Skip_seek.l0])
  |succ k1 =>
   have H:=HA.out
   clear HA
   simp only [impl_Skip_seek.l0] at H
   by_cases c7:x9_1 ≥ 0
   rotate_left
   · rw [if_neg c7] at H
     have c7b0:decide (0≤x9_1)=false:=decide_eq_false c7
     clear c7
     simp only [Option.some.injEq,Prod.mk.injEq] at H
     obtain ⟨rfl,rfl⟩:=H
     go_wp2
     go_ret2
     exact ⟨_,by first|rfl|(simp [errW_none,errW_some]<;>rfl)|(simp [*,errW_none,errW_some]<;>rfl),by (with_reducible repeat (first|apply Kd.R_alloc|apply Kd.R_drewN|apply Kd.R_drew));exact HO_6.out,by repeat (first|(with_reducible first|exact HI0.out|apply IsS26.alloc|apply IsS26.drewN|apply IsS26.drew|refine IsS26.far ?_ NB0_214.out _)|exact HI0.out),by repeat (first|(with_reducible first|exact HB.out|apply bwa|apply pbN|apply bw1|refine bws ?_ (IsS26.ge HI0.out)|refine bws ?_ GE214.out)|exact HB.out),by repeat (first|(with_reducible first|exact HK.out|apply KeepF.keep|apply KeepF.drewN|apply KeepF.drew|apply KeepF.alloc|refine KeepF.far ?_ GW214.out _)|exact HK.out)⟩
   rw [if_pos c7] at H
   have c7b0:decide (0≤x9_1)=true:=zE c7
   clear c7
   have H':=AsZ.mk H
   clear H
   go_wp2
   go_loopg [7,8] k1 (fun kq v7 v8 w' => ∃ (x7_2:Int) (x8_2:Int),v7 = .int .i64 x7_2∧v8 = .int .i64 x8_2∧AsZ (impl_Skip_seek.l1 kq x6_1 x7_2 x8_2 x9_1 s0_0 s0_1 a1_0 a1_1 a1_2 a1_3=some (r1,r2))∧AsZ (kq≤k1)∧AsZ (Kd.R (Kd.int .i64) 3 w' w.heap.size (fun _=>True) v216 x6_1)∧AsZ (w'.heap[gb214]? = some (.cells #[.string a1_0,.int .i64 a1_1,.int .i64 a1_2,.string a1_3] 28 (0,0)))∧AsZ (IsS26 w0 w' g s0_0 s0_1)∧AsZ (KeepF w w' g none)∧AsZ (Below w0.heap.size w0 w'))
   case atStart=>exact ⟨(x7_1),(x8_1),(by first|rfl|(simp;done)|(simp [*];done)),(by first|rfl|(simp;done)|(simp [*];done)),H',⟨Nat.le_refl _⟩,⟨by (with_reducible repeat (first|apply Kd.R_alloc|apply Kd.R_drewN|apply Kd.R_drew));exact HO_6.out⟩,⟨by (with_reducible repeat (first|refine kdN ?_ _|refine kd ?_|refine ka ?_ _));exact BK214.out⟩,⟨by repeat (first|(with_reducible first|exact HI0.out|apply IsS26.alloc|apply IsS26.drewN|apply IsS26.drew|refine IsS26.far ?_ NB0_214.out _)|exact HI0.out)⟩,⟨by repeat (first|(with_reducible first|exact HK.out|apply KeepF.keep|apply KeepF.drewN|apply KeepF.drew|apply KeepF.alloc|refine KeepF.far ?_ GW214.out _)|exact HK.out)⟩,⟨by repeat (first|(with_reducible first|exact HB.out|apply bwa|apply pbN|apply bw1|refine bws ?_ (IsS26.ge HI0.out)|refine bws ?_ GE214.out)|exact HB.out)⟩⟩
   case round =>
    clear H'
    try clear p2
    try clear c3
    try clear c3b0
    try clear c3b1
    try clear c4
    try clear c7
    try clear c7b0
    try clear p2
    obtain ⟨x7_2,x8_2,rfl,rfl,HA,HK2,HO_6,BK214,HI0,HK,HB⟩:=hrel
    cases gk with
    |zero=>exact absurd HA.out (by simp [impl_Skip_seek.l1])
    |succ k2 =>
     have H:=HA.out
     clear HA
     simp only [impl_Skip_seek.l1] at H
     replace H:=Option.bind_eq_some_iff.mp H
     obtain ⟨t218,A80,H⟩:=H
     replace H:(if t218=(-1) then (if 0≤x9_1 then (if x9_1 < (x6_1.length:Int) then (impl_Skip_seek.l0 k2 (x6_1.set (x9_1:Int).toNat x7_2) x7_2 x8_2 (wrap64 (x9_1 - 1)) s0_0 s0_1 a1_0 a1_1 a1_2 a1_3) else (none)) else (none)) else (if 0≤t218 then (if t218 < (s0_1.length:Int) then ((impl_itemOrder.f k2 ((rd_T77 s0_1 t218).f0.f0) ((rd_T77 s0_1 t218).f0.f1) ((rd_T77 s0_1 t218).f0.f2) ((rd_T77 s0_1 t218).f0.f3) a1_0 a1_1 a1_2 a1_3).bind fun t221=>(if t221 ≥ 0 then (if 0≤x9_1 then (if x9_1 < (x6_1.length:Int) then (impl_Skip_seek.l0 k2 (x6_1.set (x9_1:Int).toNat x7_2) x7_2 (wrap64 (x8_2 + 1)) (wrap64 (x9_1 - 1)) s0_0 s0_1 a1_0 a1_1 a1_2 a1_3) else (none)) else (none)) else (impl_Skip_seek.l1 k2 x6_1 t218 (wrap64 (x8_2 + 1)) x9_1 s0_0 s0_1 a1_0 a1_1 a1_2 a1_3))) else (none)) else (none)))=some (r1,r2):=H
     have A8:=AsZ.mk A80
     clear A80
     by_cases c9:t218=(-1)
     · rw [if_pos c9] at H
       have c9b0:(t218 == (-1))=true:=beq_iff_eq.mpr c9
       have c9b1:(t218 != (-1))=false:=bne_eq_false_iff_eq.mpr c9
       clear c9
       by_cases c10:0≤x9_1
       rotate_left
       · rw [if_neg c10] at H
         exact absurd H (by simp)
       rw [if_pos c10] at H
       have c10b0:decide (0≤x9_1)=true:=zE c10
       clear c10
       by_cases c11:x9_1 < (x6_1.length:Int)
       rotate_left
       · rw [if_neg c11] at H
         exact absurd H (by simp)
       rw [if_pos c11] at H
       have c11b0:decide (x9_1 < (x6_1.length:Int))=true:=zE c11
       clear c11
       obtain ⟨y219,hy219⟩:∃ y_:List Int,y_=(x6_1.set (x9_1:Int).toNat x7_2):=⟨_,rfl⟩
       replace H:(impl_Skip_seek.l0 k2 y219 x7_2 x8_2 (wrap64 (x9_1 - 1)) s0_0 s0_1 a1_0 a1_1 a1_2 a1_3)=some (r1,r2):=by first|(rw [hy219];with_reducible exact H)|(have H2_:=(Option.bind_some _ _).symm.trans H;rw [hy219];with_reducible exact H2_)|(have H2_:=(Option.bind_some _ _).symm.trans H;with_reducible exact H2_)|with_reducible exact H|(rw [hy219];exact H)|exact H
       have Ny219:=AsZ.mk hy219
       clear hy219
       have H':=AsZ.mk H
       clear H
       go_wp2_with (first|((with_reducible refine gcl (f:=41) rfl ?_);refine goesL_ (some 19) rfl rfl Tryd.func41 (by kernel_rfl) rfl #[.pointer (some ⟨g,0,none⟩),.int .i64 x7_2,.int .i64 x9_1] rfl (by (try simp only [zA,zC,zN]);first|done|rfl|(simp only [zM,zL];rfl)) ?_;(with_reducible refine (impl_Skip_next.calls g s0_0 s0_1 x7_2 x9_1 t218 w0 _ ?side1 ?side2 A8.out).mono ?_);(case side1=>repeat (first|(with_reducible first|exact HI0.out|apply IsS26.alloc|apply IsS26.drewN|apply IsS26.drew|refine IsS26.far ?_ NB0_214.out _)|exact HI0.out));(case side2=>repeat (first|(with_reducible first|exact HB.out|apply bwa|apply pbN|apply bw1|refine bws ?_ (IsS26.ge HI0.out)|refine bws ?_ GE214.out)|exact HB.out));rintro e w' ⟨rfl,⟨nd,rfl⟩⟩;refine ⟨_,rfl,?_⟩;(try (rw [drewN_self wr];generalize hq_:World.drewN wr _=wr;have n0_:AsZ (Kd.R (Kd.int .i64) 3 wr w.heap.size (fun _=>True) v216 x6_1):=⟨by rw [← hq_];exact (by (with_reducible repeat (first|apply Kd.R_alloc|apply Kd.R_drewN|apply Kd.R_drew));exact HO_6.out)⟩;have n1_:AsZ (wr.heap[gb214]? = some (.cells #[.string a1_0,.int .i64 a1_1,.int .i64 a1_2,.string a1_3] 28 (0,0))):=⟨by rw [← hq_];exact (by (with_reducible repeat (first|refine kdN ?_ _|refine kd ?_|refine ka ?_ _));exact BK214.out)⟩;have n2_:AsZ (IsS26 w0 wr g s0_0 s0_1):=⟨by rw [← hq_];exact (by repeat (first|(with_reducible first|exact HI0.out|apply IsS26.alloc|apply IsS26.drewN|apply IsS26.drew|refine IsS26.far ?_ NB0_214.out _)|exact HI0.out))⟩;have n3_:AsZ (KeepF w wr g none):=⟨by rw [← hq_];exact (by repeat (first|(with_reducible first|exact HK.out|apply KeepF.keep|apply KeepF.drewN|apply KeepF.drew|apply KeepF.alloc|refine KeepF.far ?_ GW214.out _)|exact HK.out))⟩;have n4_:AsZ (Below w0.heap.size w0 wr):=⟨by rw [← hq_];exact (by repeat (first|(with_reducible first|exact HB.out|apply bwa|apply pbN|apply bw1|refine bws ?_ (IsS26.ge HI0.out)|refine bws ?_ GE214.out)|exact HB.out))⟩;clear HO_6 BK214 HI0 HK HB hq_;have HO_6:=n0_;have BK214:=n1_;have HI0:=n2_;have HK:=n3_;have HB:=n4_;clear n0_ n1_ n2_ n3_ n4_));have p12:0≤(x9_1:Int):=zD (by first|(with_reducible assumption)|assumption);have q12:(x9_1:Int) < ((x6_1.length:Int):Int):=zD (by first|(with_reducible assumption)|assumption);obtain ⟨go12,co12,eo12,gb12,gl12,cl12,HG12⟩:=Kd.R_form HO_6.out (by omega);(first|cases eo12|(injection eo12 with ea_ en_ ec_;(first|subst ea_|(injection ea_ with ea_;subst ea_));subst ec_;clear en_));have GB12:=AsZ.mk gb12;have GG12:=AsZ.mk HG12;clear gb12 gl12 HG12;obtain ⟨hx12_0,hf12_0⟩:=Kd.R_celln 0 HO_6.out (x9_1:Int) p12 q12;replace p12:=eq_true p12;replace q12:=eq_true q12;obtain ⟨hy13_,hz13_⟩:=Kd.R_celln 0 HO_6.out (x9_1:Int) (zD (by first|(with_reducible assumption)|assumption)) (zD (by first|(with_reducible assumption)|assumption));have HP13:=Kd.R_putg HO_6.out (x9_1:Int) x7_2)|((with_reducible refine gate_store (t:=3) (p:=39) rfl ?_);refine store_event (t:=3) (p:=39) (v:=?vo_w14) (w1:=(wr.setCell ⟨go12,(x9_1:Int).toNat,none⟩ (.int .i64 x7_2))) ?hg ?ho ?hn ?hr ?_;(case ho=>rfl);(case hg=>rfl);(case hn=>rfl);(case hr=>first|(go_simp;done)|(go_simp;rfl));intro w14 hw;have hg:wr.grownBy w14 (some go12):=(by rw [hw];exact HP13.2);have hp_:Kd.R (Kd.int .i64) 3 w14 w.heap.size (fun _=>True) (.slice (some ⟨go12,0,none⟩) x6_1.length co12) y219:=(by rw [hw,Ny219.out];exact HP13.1);clear HP13;have n0_:=AsZ.mk (hp_);have n1_:=AsZ.mk (blk_grown (g:=gb214) (o := .cells #[.string a1_0,.int .i64 a1_1,.int .i64 a1_2,.string a1_3] 28 (0,0)) (by (with_reducible repeat (first|refine kdN ?_ _|refine kd ?_|refine ka ?_ _));exact BK214.out) hg (Kd.R_ne HO_6.out BK214.out (by decide)));have n2_:=AsZ.mk (IsS26.grown (by repeat (first|(with_reducible first|exact HI0.out|apply IsS26.alloc|apply IsS26.drewN|apply IsS26.drew|refine IsS26.far ?_ NB0_214.out _)|exact HI0.out)) hg (IsS26.own_ne HI0.out HO_6.out (by decide)));have n3_:=AsZ.mk ((by rw [hw];exact bws (HB.out) (Nat.le_trans HL.out GB12.out):Below w0.heap.size w0 w14));have n4_:=AsZ.mk (KeepF.put (by repeat (first|(with_reducible first|exact HK.out|apply KeepF.keep|apply KeepF.drewN|apply KeepF.drew|apply KeepF.alloc|refine KeepF.far ?_ GW214.out _)|exact HK.out)) hg (Kd.R_base2 HO_6.out));clear HO_6;clear BK214;clear HI0;clear HB;clear HK;have HO_6:=n0_;have BK214:=n1_;have HI0:=n2_;have HB:=n3_;have HK:=n4_;clear n0_ n1_ n2_ n3_ n4_;clear hg hw hp_))
       go_roundg k2
       case measure=>have:=HK1.out;have:=HK2.out;omega
       case rel=>exact ⟨(y219),(x7_2),(x8_2),(wrap64 (x9_1 - 1)),(by first|rfl|(simp;done)|(simp [*];done)),(by first|rfl|(simp;done)|(simp [*];done)),(by first|rfl|(simp;done)|(simp [*];done)),H',⟨by have:=HK1.out;have:=HK2.out;omega⟩,⟨by (with_reducible repeat (first|apply Kd.R_alloc|apply Kd.R_drewN|apply Kd.R_drew));exact HO_6.out⟩,⟨by (with_reducible repeat (first|refine kdN ?_ _|refine kd ?_|refine ka ?_ _));exact BK214.out⟩,⟨by repeat (first|(with_reducible first|exact HI0.out|apply IsS26.alloc|apply IsS26.drewN|apply IsS26.drew|refine IsS26.far ?_ NB0_214.out _)|exact HI0.out)⟩,⟨by repeat (first|(with_reducible first|exact HK.out|apply KeepF.keep|apply KeepF.drewN|apply KeepF.drew|apply KeepF.alloc|refine KeepF.far ?_ GW214.out _)|exact HK.out)⟩,⟨by repeat (first|(with_reducible first|exact HB.out|apply bwa|apply pbN|apply bw1|refine bws ?_ (IsS26.ge HI0.out)|refine bws ?_ GE214.out)|exact HB.out)⟩⟩
     rw [if_neg c9] at H
     have c9b0:(t218 == (-1))=false:=beq_eq_false_iff_ne.mpr c9
     have c9b1:(t218 != (-1))=true:=bne_iff_ne.mpr c9
     by_cases c15:0≤t218
     rotate_left
     · rw [if_neg c15] at H
       exact absurd H (by simp)
     rw [if_pos c15] at H
     have c15b0:decide (0≤t218)=true:=zE c15
     clear c15
     by_cases c16:t218 < (s0_1.length:Int)
     rotate_left
     · rw [if_neg c16] at H
       exact absurd H (by simp)
     rw [if_pos c16] at H
     have c16b0:decide (t218 < (s0_1.length:Int))=true:=zE c16
     clear c16
     replace H:=Option.bind_eq_some_iff.mp H
     obtain ⟨t221,A170,H⟩:=H
     replace H:(if t221 ≥ 0 then (if 0≤x9_1 then (if x9_1 < (x6_1.length:Int) then (impl_Skip_seek.l0 k2 (x6_1.set (x9_1:Int).toNat x7_2) x7_2 (wrap64 (x8_2 + 1)) (wrap64 (x9_1 - 1)) s0_0 s0_1 a1_0 a1_1 a1_2 a1_3) else (none)) else (none)) else (impl_Skip_seek.l1 k2 x6_1 t218 (wrap64 (x8_2 + 1)) x9_1 s0_0 s0_1 a1_0 a1_1 a1_2 a1_3))=some (r1,r2):=H
     have A17:=AsZ.mk A170
     clear A170
     by_cases c18:t221 ≥ 0
     rotate_left
     · rw [if_neg c18] at H
       have c18b0:decide (0≤t221)=false:=decide_eq_false c18
       clear c18
       have H':=AsZ.mk H
       clear H
       try go_wp2_with (first|((with_reducible refine gcl (f:=41) rfl ?_);refine goesL_ (some 19) rfl rfl Tryd.func41 (by kernel_rfl) rfl #[.pointer (some ⟨g,0,none⟩),.int .i64 x7_2,.int .i64 x9_1] rfl (by (try simp only [zA,zC,zN]);first|done|rfl|(simp only [zM,zL];rfl)) ?_;(with_reducible refine (impl_Skip_next.calls g s0_0 s0_1 x7_2 x9_1 t218 w0 _ ?side1 ?side2 A8.out).mono ?_);(case side1=>repeat (first|(with_reducible first|exact HI0.out|apply IsS26.alloc|apply IsS26.drewN|apply IsS26.drew|refine IsS26.far ?_ NB0_214.out _)|exact HI0.out));(case side2=>repeat (first|(with_reducible first|exact HB.out|apply bwa|apply pbN|apply bw1|refine bws ?_ (IsS26.ge HI0.out)|refine bws ?_ GE214.out)|exact HB.out));rintro e w' ⟨rfl,⟨nd,rfl⟩⟩;refine ⟨_,rfl,?_⟩))
       (try (rw [drewN_self wr];generalize hq_:World.drewN wr _=wr;have n0_:AsZ (Kd.R (Kd.int .i64) 3 wr w.heap.size (fun _=>True) v216 x6_1):=⟨by rw [← hq_];exact (by (with_reducible repeat (first|apply Kd.R_alloc|apply Kd.R_drewN|apply Kd.R_drew));exact HO_6.out)⟩;have n1_:AsZ (wr.heap[gb214]? = some (.cells #[.string a1_0,.int .i64 a1_1,.int .i64 a1_2,.string a1_3] 28 (0,0))):=⟨by rw [← hq_];exact (by (with_reducible repeat (first|refine kdN ?_ _|refine kd ?_|refine ka ?_ _));exact BK214.out)⟩;have n2_:AsZ (IsS26 w0 wr g s0_0 s0_1):=⟨by rw [← hq_];exact (by repeat (first|(with_reducible first|exact HI0.out|apply IsS26.alloc|apply IsS26.drewN|apply IsS26.drew|refine IsS26.far ?_ NB0_214.out _)|exact HI0.out))⟩;have n3_:AsZ (KeepF w wr g none):=⟨by rw [← hq_];exact (by repeat (first|(with_reducible first|exact HK.out|apply KeepF.keep|apply KeepF.drewN|apply KeepF.drew|apply KeepF.alloc|refine KeepF.far ?_ GW214.out _)|exact HK.out))⟩;have n4_:AsZ (Below w0.heap.size w0 wr):=⟨by rw [← hq_];exact (by repeat (first|(with_reducible first|exact HB.out|apply bwa|apply pbN|apply bw1|refine bws ?_ (IsS26.ge HI0.out)|refine bws ?_ GE214.out)|exact HB.out))⟩;clear HO_6 BK214 HI0 HK HB hq_;have HO_6:=n0_;have BK214:=n1_;have HI0:=n2_;have HK:=n3_;have HB:=n4_;clear n0_ n1_ n2_ n3_ n4_))
       have n0_:=AsZ.mk (Kd.R_drew HO_6.out)
       have n1_:=AsZ.mk (kd BK214.out)
       have n2_:=AsZ.mk (IsS26.drew HI0.out)
       have n3_:=AsZ.mk (KeepF.drew HK.out)
       have n4_:=AsZ.mk (bw1 HB.out)
       clear HO_6 BK214 HI0 HK HB
       have HO_6:=n0_
       have BK214:=n1_
       have HI0:=n2_
       have HK:=n3_
       have HB:=n4_
       clear n0_ n1_ n2_ n3_ n4_
       obtain ⟨ASz28_0,cSz28_0,ASz28_1,cSz28_1,HGz28,hgz28,HSz28_0,HSCz28_0,HSz28_1,HSCz28_1⟩:=HI0.out
       obtain ⟨es0_,es1_,es2_,es3_⟩:=IsS26.same_ HGq.out HK.out HGz28
       subst es0_
       subst es1_
       subst es2_
       subst es3_
       have hcz28_0:=cellS26_0 HGz28
       have hcz28_1:=cellS26_1 HGz28
       clear HGz28 hgz28
       have p220:0≤(t218:Int):=zD (by first|(with_reducible assumption)|assumption)
       have q220:t218 < (s0_1.length:Int):=zD (by first|(with_reducible assumption)|assumption)
       obtain ⟨ad220,A220_4,c220_4,e220,hx220_0,hx220_1,hx220_2,hx220_3,hx220_4,hl220_4,hi220_4⟩:=at_T77 HSz28_1 t218 p220 q220
       have hw220_4:=hx220_4
       have hw220_3:=hx220_3
       have hw220_2:=hx220_2
       have hw220_1:=hx220_1
       have hw220_0:=hx220_0
       cases e220
       replace hx220_0:=pcb HB.out hx220_0
       replace hx220_1:=pcb HB.out hx220_1
       replace hx220_2:=pcb HB.out hx220_2
       replace hx220_3:=pcb HB.out hx220_3
       replace hx220_4:=pcb HB.out hx220_4
       have HR220_4:=AsZ.mk hi220_4
       have HC220_4:=AsZ.mk hl220_4
       clear hi220_4 hl220_4
       replace p220:=eq_true p220
       replace q220:=eq_true q220
       refine start_ (n:=11) (S:=fun w'=>w'.cell? ⟨g,0,none⟩=some (.slice ASz28_0 s0_0.length cSz28_0)∧w'.cell? ⟨g,1,none⟩=some (.slice (some ad220) s0_1.length cSz28_1)∧w'.cell? ⟨gb214,0,none⟩=some (.string a1_0)∧w'.cell? ⟨gb214,1,none⟩=some (.int .i64 a1_1)∧w'.cell? ⟨gb214,2,none⟩=some (.int .i64 a1_2)∧w'.cell? ⟨gb214,3,none⟩=some (.string a1_3)∧w'.cell? (ad220.add ((t218).toNat * 5))=some (.string ((rd_T77 s0_1 t218).f0.f0))∧w'.cell? ⟨(ad220.add ((t218).toNat * 5)).block,(ad220.add ((t218).toNat * 5)).off + 1,none⟩=some (.int .i64 ((rd_T77 s0_1 t218).f0.f1))∧w'.cell? ⟨(ad220.add ((t218).toNat * 5)).block,(ad220.add ((t218).toNat * 5)).off + 2,none⟩=some (.int .i64 ((rd_T77 s0_1 t218).f0.f2))∧w'.cell? ⟨(ad220.add ((t218).toNat * 5)).block,(ad220.add ((t218).toNat * 5)).off + 3,none⟩=some (.string ((rd_T77 s0_1 t218).f0.f3))∧w'.cell? ⟨(ad220.add ((t218).toNat * 5)).block,(ad220.add ((t218).toNat * 5)).off + 4,none⟩=some (.slice A220_4 ((rd_T77 s0_1 t218).f1).length c220_4)) (ds:=[]) (b_ 0 11) (by kernel_rfl) rfl rfl ⟨hcz28_0,hcz28_1,(kc BK214.out 0).trans rfl,(kc BK214.out 1).trans rfl,(kc BK214.out 2).trans rfl,(kc BK214.out 3).trans rfl,(pcb HB.out hw220_0),(pcb HB.out hw220_1),(pcb HB.out hw220_2),(pcb HB.out hw220_3),(pcb HB.out hw220_4)⟩ (fun hHeld=>?_);refine with_tabW impl_Skip_seek.tab8 impl_Skip_seek.bits8 (fun HT_ HW_=>?_)
       generalize wr.drew=w27 at HO_6 BK214 HI0 HK HB HR220_4 hx220_0 hx220_1 hx220_2 hx220_3 hx220_4 hHeld ⊢
       refine pure_ (i:=0) (N:=some 24) (v:=?_) (a':=?_) (b_ 1 10) rfl rfl (anO HT_.out (by kernel_rfl)) (fun _ _ _ h=>h) (Or.inl ⟨by rfl,?_⟩) ?_ ?_
       rotate_left
       · intro w'
         go_simp
         with_reducible rfl
       rotate_left
       · simp only [Act.put,zS,zT,zU,i64_w,i32_w]
         rfl
       refine pure_ (i:=1) (N:=some 25) (v:=?_) (a':=?_) (b_ 2 9) rfl rfl (anO HT_.out (by kernel_rfl)) (fun _ _ _ h=>h) (Or.inl ⟨by rfl,?_⟩) ?_ ?_
       rotate_left
       · intro w'
         go_simp
         with_reducible rfl
       rotate_left
       · simp only [Act.put,zS,zT,zU,i64_w,i32_w]
         rfl
       refine pure_ (i:=2) (N:=some 26) (v:=?_) (a':=?_) (b_ 3 8) rfl rfl (anO HT_.out (by kernel_rfl)) (fun _ _ _ h=>h) (Or.inl ⟨by rfl,?_⟩) ?_ ?_
       rotate_left
       · intro w'
         go_simp
         with_reducible rfl
       rotate_left
       · simp only [Act.put,zS,zT,zU,i64_w,i32_w]
         rfl
       refine pure_ (i:=4) (N:=some 28) (v:=?_) (a':=?_) #[true,true,true,false,true,false,false,false,false,false,false] rfl rfl (anO HT_.out (by kernel_rfl)) (fun _ _ _ h=>h) (Or.inl ⟨by rfl,?_⟩) ?_ ?_
       rotate_left
       · intro w'
         go_simp
         with_reducible rfl
       rotate_left
       · simp only [Act.put,zS,zT,zU,i64_w,i32_w]
         rfl
       refine take_ (i:=3) (N:=some 27) (v:=?_) (a':=?_) (b_ 5 6) rfl rfl (tkO HT_.out HW_.out (by kernel_rfl)) (fun _ _ _ h=>h) (Or.inl ⟨by rfl,?_⟩) hHeld ?_ ?_
       rotate_left
       · rintro w' ⟨s0,s1,s2,s3,s4,s5,s6,s7,s8,s9,s10⟩
         go_simp
         with_reducible rfl
       rotate_left
       · simp only [Act.put,zS,zT,zU,i64_w,i32_w]
         rfl
       refine pure_ (i:=5) (N:=some 29) (v:=?_) (a':=?_) (b_ 6 5) rfl rfl (anO HT_.out (by kernel_rfl)) (fun _ _ _ h=>h) (Or.inl ⟨by rfl,?_⟩) ?_ ?_
       rotate_left
       · intro w'
         go_simp
         with_reducible rfl
       rotate_left
       · simp only [Act.put,zS,zT,zU,i64_w,i32_w]
         rfl
       refine pure_ (i:=6) (N:=some 30) (v:=?_) (a':=?_) (b_ 7 4) rfl rfl (anO HT_.out (by kernel_rfl)) (fun _ _ _ h=>h) (Or.inl ⟨by rfl,?_⟩) ?_ ?_
       rotate_left
       · intro w'
         go_simp
         with_reducible rfl
       rotate_left
       · simp only [Act.put,zS,zT,zU,i64_w,i32_w]
         rfl
       refine take_ (i:=7) (N:=some 31) (v:=?_) (a':=?_) (b_ 8 3) rfl rfl (tkO HT_.out HW_.out (by kernel_rfl)) (fun _ _ _ h=>h) (Or.inl ⟨by rfl,?_⟩) hHeld ?_ ?_
       rotate_left
       · rintro w' ⟨s0,s1,s2,s3,s4,s5,s6,s7,s8,s9,s10⟩
         go_simp
         with_reducible rfl
       rotate_left
       · simp only [Act.put,zS,zT,zU,i64_w,i32_w]
         rfl
       refine take_ (i:=8) (N:=some 32) (v:=?_) (a':=?_) (b_ 9 2) rfl rfl (tkO HT_.out HW_.out (by kernel_rfl)) (fun _ _ _ h=>h) (Or.inl ⟨by rfl,?_⟩) hHeld ?_ ?_
       rotate_left
       · rintro w' ⟨s0,s1,s2,s3,s4,s5,s6,s7,s8,s9,s10⟩
         go_simp
         with_reducible rfl
       rotate_left
       · simp only [Act.put,zS,zT,zU,i64_w,i32_w]
         rfl
       refine one_ (i:=9) (N:=some 33) (b_ 10 1) rfl rfl (one_of HT_.out (by kernel_rfl)) (by decide) (fun K hK=>?_)
       refine goes_ Tryd.func42 (by kernel_rfl) rfl #[.agg #[.string ((rd_T77 s0_1 t218).f0.f0),.int .i64 ((rd_T77 s0_1 t218).f0.f1),.int .i64 ((rd_T77 s0_1 t218).f0.f2),.string ((rd_T77 s0_1 t218).f0.f3)],.agg #[.string a1_0,.int .i64 a1_1,.int .i64 a1_2,.string a1_3]] (by rfl) rfl rfl (by (try simp only [zA,zC,zN]);first|done|rfl|(simp only [zM,zL];rfl)) ?_
       with_reducible refine (impl_itemOrder.calls k2 ((rd_T77 s0_1 t218).f0.f0) ((rd_T77 s0_1 t218).f0.f1) ((rd_T77 s0_1 t218).f0.f2) ((rd_T77 s0_1 t218).f0.f3) a1_0 a1_1 a1_2 a1_3 t221 _ A17.out).mono ?_
       rintro e w29 ⟨rfl,hb⟩
       have HS0_:=(hb.cell (zB _ _ (hHeld.1))).trans (hHeld.1)
       have HS1_:=(hb.cell (zB _ _ (hHeld.2.1))).trans (hHeld.2.1)
       refine ⟨_,rfl,?_⟩
       have n0_:=AsZ.mk (Kd.R_below (by (with_reducible repeat (first|apply Kd.R_alloc|apply Kd.R_drewN|apply Kd.R_drew));exact HO_6.out) hb)
       have n1_:=AsZ.mk (kb (g:=gb214) (o := .cells #[.string a1_0,.int .i64 a1_1,.int .i64 a1_2,.string a1_3] 28 (0,0)) (by (with_reducible repeat (first|refine kdN ?_ _|refine kd ?_|refine ka ?_ _));exact BK214.out) hb)
       have n2_:=AsZ.mk (IsS26.below (by repeat (first|(with_reducible first|exact HI0.out|apply IsS26.alloc|apply IsS26.drewN|apply IsS26.drew|refine IsS26.far ?_ NB0_214.out _)|exact HI0.out)) hb)
       have n3_:=AsZ.mk (KeepF.trans (by repeat (first|(with_reducible first|exact HK.out|apply KeepF.keep|apply KeepF.drewN|apply KeepF.drew|apply KeepF.alloc|refine KeepF.far ?_ GW214.out _)|exact HK.out)) (KeepF.of_below hb g none) (.inl rfl))
       have n4_:=AsZ.mk (bwp (by repeat (first|(with_reducible first|exact HB.out|apply bwa|apply pbN|apply bw1|refine bws ?_ (IsS26.ge HI0.out)|refine bws ?_ GE214.out)|exact HB.out)) hb)
       clear HO_6 BK214 HI0 HK HB
       have HO_6:=n0_
       have BK214:=n1_
       have HI0:=n2_
       have HK:=n3_
       have HB:=n4_
       clear n0_ n1_ n2_ n3_ n4_
       (try clear hb)
       (try clear hb2)
       (try clear hk)
       (try clear hi)
       refine hK.out _ _ ⟨HS0_,HS1_,(kc BK214.out 0).trans rfl,(kc BK214.out 1).trans rfl,(kc BK214.out 2).trans rfl,(kc BK214.out 3).trans rfl,(pcb HB.out hw220_0),(pcb HB.out hw220_1),(pcb HB.out hw220_2),(pcb HB.out hw220_3),(pcb HB.out hw220_4)⟩ (fun hHeld=>?_)
       clear hK K
       refine norm_ (a':=?_) ?_ ?_
       rotate_left
       · show Act.put _ (some 33) _=_
         simp only [Act.put,zS,zT,zU,i64_w,i32_w]
         rfl
       refine pure_ (i:=10) (N:=some 34) (v:=?_) (a':=?_) (b_ 11 0) rfl rfl (anO HT_.out (by kernel_rfl)) (fun _ _ _ h=>h) (Or.inl ⟨by rfl,?_⟩) ?_ ?_
       rotate_left
       · intro w'
         go_simp
         with_reducible rfl
       rotate_left
       · simp only [Act.put,zS,zT,zU,i64_w,i32_w]
         rfl
       refine dn_ (dnO HT_.out (by kernel_rfl)) ?_
       try go_wp2
       go_roundg k2
       case measure=>have:=HK1.out;have:=HK2.out;omega
       case rel=>exact ⟨(t218),(wrap64 (x8_2 + 1)),(by first|rfl|(simp;done)|(simp [*];done)),(by first|rfl|(simp;done)|(simp [*];done)),H',⟨by have:=HK1.out;have:=HK2.out;omega⟩,⟨by (with_reducible repeat (first|apply Kd.R_alloc|apply Kd.R_drewN|apply Kd.R_drew));exact HO_6.out⟩,⟨by (with_reducible repeat (first|refine kdN ?_ _|refine kd ?_|refine ka ?_ _));exact BK214.out⟩,⟨by repeat (first|(with_reducible first|exact HI0.out|apply IsS26.alloc|apply IsS26.drewN|apply IsS26.drew|refine IsS26.far ?_ NB0_214.out _)|exact HI0.out)⟩,⟨by repeat (first|(with_reducible first|exact HK.out|apply KeepF.keep|apply KeepF.drewN|apply KeepF.drew|apply KeepF.alloc|refine KeepF.far ?_ GW214.out _)|exact HK.out)⟩,⟨by repeat (first|(with_reducible first|exact HB.out|apply bwa|apply pbN|apply bw1|refine bws ?_ (IsS26.ge HI0.out)|refine bws ?_ GE214.out)|exact HB.out)⟩⟩
     rw [if_pos c18] at H
     have c18b0:decide (0≤t221)=true:=zE c18
     clear c18
     by_cases c19:0≤x9_1
     rotate_left
     · rw [if_neg c19] at H
       exact absurd H (by simp)
     rw [if_pos c19] at H
     have c19b0:decide (0≤x9_1)=true:=zE c19
     clear c19
     by_cases c20:x9_1 < (x6_1.length:Int)
     rotate_left
     · rw [if_neg c20] at H
       exact absurd H (by simp)
     rw [if_pos c20] at H
     have c20b0:decide (x9_1 < (x6_1.length:Int))=true:=zE c20
     clear c20
     obtain ⟨y222,hy222⟩:∃ y_:List Int,y_=(x6_1.set (x9_1:Int).toNat x7_2):=⟨_,rfl⟩
     replace H:(impl_Skip_seek.l0 k2 y222 x7_2 (wrap64 (x8_2 + 1)) (wrap64 (x9_1 - 1)) s0_0 s0_1 a1_0 a1_1 a1_2 a1_3)=some (r1,r2):=by first|(rw [hy222];with_reducible exact H)|(have H2_:=(Option.bind_some _ _).symm.trans H;rw [hy222];with_reducible exact H2_)|(have H2_:=(Option.bind_some _ _).symm.trans H;with_reducible exact H2_)|with_reducible exact H|(rw [hy222];exact H)|exact H
     have Ny222:=AsZ.mk hy222
     clear hy222
     have H':=AsZ.mk H
     clear H
     try go_wp2_with (first|((with_reducible refine gcl (f:=41) rfl ?_);refine goesL_ (some 19) rfl rfl Tryd.func41 (by kernel_rfl) rfl #[.pointer (some ⟨g,0,none⟩),.int .i64 x7_2,.int .i64 x9_1] rfl (by (try simp only [zA,zC,zN]);first|done|rfl|(simp only [zM,zL];rfl)) ?_;(with_reducible refine (impl_Skip_next.calls g s0_0 s0_1 x7_2 x9_1 t218 w0 _ ?side1 ?side2 A8.out).mono ?_);(case side1=>repeat (first|(with_reducible first|exact HI0.out|apply IsS26.alloc|apply IsS26.drewN|apply IsS26.drew|refine IsS26.far ?_ NB0_214.out _)|exact HI0.out));(case side2=>repeat (first|(with_reducible first|exact HB.out|apply bwa|apply pbN|apply bw1|refine bws ?_ (IsS26.ge HI0.out)|refine bws ?_ GE214.out)|exact HB.out));rintro e w' ⟨rfl,⟨nd,rfl⟩⟩;refine ⟨_,rfl,?_⟩;(try (rw [drewN_self wr];generalize hq_:World.drewN wr _=wr;have n0_:AsZ (Kd.R (Kd.int .i64) 3 wr w.heap.size (fun _=>True) v216 x6_1):=⟨by rw [← hq_];exact (by (with_reducible repeat (first|apply Kd.R_alloc|apply Kd.R_drewN|apply Kd.R_drew));exact HO_6.out)⟩;have n1_:AsZ (wr.heap[gb214]? = some (.cells #[.string a1_0,.int .i64 a1_1,.int .i64 a1_2,.string a1_3] 28 (0,0))):=⟨by rw [← hq_];exact (by (with_reducible repeat (first|refine kdN ?_ _|refine kd ?_|refine ka ?_ _));exact BK214.out)⟩;have n2_:AsZ (IsS26 w0 wr g s0_0 s0_1):=⟨by rw [← hq_];exact (by repeat (first|(with_reducible first|exact HI0.out|apply IsS26.alloc|apply IsS26.drewN|apply IsS26.drew|refine IsS26.far ?_ NB0_214.out _)|exact HI0.out))⟩;have n3_:AsZ (KeepF w wr g none):=⟨by rw [← hq_];exact (by repeat (first|(with_reducible first|exact HK.out|apply KeepF.keep|apply KeepF.drewN|apply KeepF.drew|apply KeepF.alloc|refine KeepF.far ?_ GW214.out _)|exact HK.out))⟩;have n4_:AsZ (Below w0.heap.size w0 wr):=⟨by rw [← hq_];exact (by repeat (first|(with_reducible first|exact HB.out|apply bwa|apply pbN|apply bw1|refine bws ?_ (IsS26.ge HI0.out)|refine bws ?_ GE214.out)|exact HB.out))⟩;clear HO_6 BK214 HI0 HK HB hq_;have HO_6:=n0_;have BK214:=n1_;have HI0:=n2_;have HK:=n3_;have HB:=n4_;clear n0_ n1_ n2_ n3_ n4_))))
     have n0_:=AsZ.mk (Kd.R_drew HO_6.out)
     have n1_:=AsZ.mk (kd BK214.out)
     have n2_:=AsZ.mk (IsS26.drew HI0.out)
     have n3_:=AsZ.mk (KeepF.drew HK.out)
     have n4_:=AsZ.mk (bw1 HB.out)
     clear HO_6 BK214 HI0 HK HB
     have HO_6:=n0_
     have BK214:=n1_
     have HI0:=n2_
     have HK:=n3_
     have HB:=n4_
     clear n0_ n1_ n2_ n3_ n4_
     obtain ⟨ASz23_0,cSz23_0,ASz23_1,cSz23_1,HGz23,hgz23,HSz23_0,HSCz23_0,HSz23_1,HSCz23_1⟩:=HI0.out
     obtain ⟨es0_,es1_,es2_,es3_⟩:=IsS26.same_ HGq.out HK.out HGz23
     subst es0_
     subst es1_
     subst es2_
     subst es3_
     have hcz23_0:=cellS26_0 HGz23
     have hcz23_1:=cellS26_1 HGz23
     clear HGz23 hgz23
     have p220:0≤(t218:Int):=zD (by first|(with_reducible assumption)|assumption)
     have q220:t218 < (s0_1.length:Int):=zD (by first|(with_reducible assumption)|assumption)
     obtain ⟨ad220,A220_4,c220_4,e220,hx220_0,hx220_1,hx220_2,hx220_3,hx220_4,hl220_4,hi220_4⟩:=at_T77 HSz23_1 t218 p220 q220
     have hw220_4:=hx220_4
     have hw220_3:=hx220_3
     have hw220_2:=hx220_2
     have hw220_1:=hx220_1
     have hw220_0:=hx220_0
     cases e220
     replace hx220_0:=pcb HB.out hx220_0
     replace hx220_1:=pcb HB.out hx220_1
     replace hx220_2:=pcb HB.out hx220_2
     replace hx220_3:=pcb HB.out hx220_3
     replace hx220_4:=pcb HB.out hx220_4
     have HR220_4:=AsZ.mk hi220_4
     have HC220_4:=AsZ.mk hl220_4
     clear hi220_4 hl220_4
     replace p220:=eq_true p220
     replace q220:=eq_true q220
     refine start_ (n:=11) (S:=fun w'=>w'.cell? ⟨g,0,none⟩=some (.slice ASz23_0 s0_0.length cSz23_0)∧w'.cell? ⟨g,1,none⟩=some (.slice (some ad220) s0_1.length cSz23_1)∧w'.cell? ⟨gb214,0,none⟩=some (.string a1_0)∧w'.cell? ⟨gb214,1,none⟩=some (.int .i64 a1_1)∧w'.cell? ⟨gb214,2,none⟩=some (.int .i64 a1_2)∧w'.cell? ⟨gb214,3,none⟩=some (.string a1_3)∧w'.cell? (ad220.add ((t218).toNat * 5))=some (.string ((rd_T77 s0_1 t218).f0.f0))∧w'.cell? ⟨(ad220.add ((t218).toNat * 5)).block,(ad220.add ((t218).toNat * 5)).off + 1,none⟩=some (.int .i64 ((rd_T77 s0_1 t218).f0.f1))∧w'.cell? ⟨(ad220.add ((t218).toNat * 5)).block,(ad220.add ((t218).toNat * 5)).off + 2,none⟩=some (.int .i64 ((rd_T77 s0_1 t218).f0.f2))∧w'.cell? ⟨(ad220.add ((t218).toNat * 5)).block,(ad220.add ((t218).toNat * 5)).off + 3,none⟩=some (.string ((rd_T77 s0_1 t218).f0.f3))∧w'.cell? ⟨(ad220.add ((t218).toNat * 5)).block,(ad220.add ((t218).toNat * 5)).off + 4,none⟩=some (.slice A220_4 ((rd_T77 s0_1 t218).f1).length c220_4)) (ds:=[]) (b_ 0 11) (by kernel_rfl) rfl rfl ⟨hcz23_0,hcz23_1,(kc BK214.out 0).trans rfl,(kc BK214.out 1).trans rfl,(kc BK214.out 2).trans rfl,(kc BK214.out 3).trans rfl,(pcb HB.out hw220_0),(pcb HB.out hw220_1),(pcb HB.out hw220_2),(pcb HB.out hw220_3),(pcb HB.out hw220_4)⟩ (fun hHeld=>?_);refine with_tabW impl_Skip_seek.tab8 impl_Skip_seek.bits8 (fun HT_ HW_=>?_)
     generalize wr.drew=w22 at HO_6 BK214 HI0 HK HB HR220_4 hx220_0 hx220_1 hx220_2 hx220_3 hx220_4 hHeld ⊢
     refine pure_ (i:=0) (N:=some 24) (v:=?_) (a':=?_) (b_ 1 10) rfl rfl (anO HT_.out (by kernel_rfl)) (fun _ _ _ h=>h) (Or.inl ⟨by rfl,?_⟩) ?_ ?_
     rotate_left
     · intro w'
       go_simp
       with_reducible rfl
     rotate_left
     · simp only [Act.put,zS,zT,zU,i64_w,i32_w]
       rfl
     refine pure_ (i:=1) (N:=some 25) (v:=?_) (a':=?_) (b_ 2 9) rfl rfl (anO HT_.out (by kernel_rfl)) (fun _ _ _ h=>h) (Or.inl ⟨by rfl,?_⟩) ?_ ?_
     rotate_left
     · intro w'
       go_simp
       with_reducible rfl
     rotate_left
     · simp only [Act.put,zS,zT,zU,i64_w,i32_w]
       rfl
     refine pure_ (i:=2) (N:=some 26) (v:=?_) (a':=?_) (b_ 3 8) rfl rfl (anO HT_.out (by kernel_rfl)) (fun _ _ _ h=>h) (Or.inl ⟨by rfl,?_⟩) ?_ ?_
     rotate_left
     · intro w'
       go_simp
       with_reducible rfl
     rotate_left
     · simp only [Act.put,zS,zT,zU,i64_w,i32_w]
       rfl
     refine pure_ (i:=4) (N:=some 28) (v:=?_) (a':=?_) #[true,true,true,false,true,false,false,false,false,false,false] rfl rfl (anO HT_.out (by kernel_rfl)) (fun _ _ _ h=>h) (Or.inl ⟨by rfl,?_⟩) ?_ ?_
     rotate_left
     · intro w'
       go_simp
       with_reducible rfl
     rotate_left
     · simp only [Act.put,zS,zT,zU,i64_w,i32_w]
       rfl
     refine take_ (i:=3) (N:=some 27) (v:=?_) (a':=?_) (b_ 5 6) rfl rfl (tkO HT_.out HW_.out (by kernel_rfl)) (fun _ _ _ h=>h) (Or.inl ⟨by rfl,?_⟩) hHeld ?_ ?_
     rotate_left
     · rintro w' ⟨s0,s1,s2,s3,s4,s5,s6,s7,s8,s9,s10⟩
       go_simp
       with_reducible rfl
     rotate_left
     · simp only [Act.put,zS,zT,zU,i64_w,i32_w]
       rfl
     refine pure_ (i:=5) (N:=some 29) (v:=?_) (a':=?_) (b_ 6 5) rfl rfl (anO HT_.out (by kernel_rfl)) (fun _ _ _ h=>h) (Or.inl ⟨by rfl,?_⟩) ?_ ?_
     rotate_left
     · intro w'
       go_simp
       with_reducible rfl
     rotate_left
     · simp only [Act.put,zS,zT,zU,i64_w,i32_w]
       rfl
     refine pure_ (i:=6) (N:=some 30) (v:=?_) (a':=?_) (b_ 7 4) rfl rfl (anO HT_.out (by kernel_rfl)) (fun _ _ _ h=>h) (Or.inl ⟨by rfl,?_⟩) ?_ ?_
     rotate_left
     · intro w'
       go_simp
       with_reducible rfl
     rotate_left
     · simp only [Act.put,zS,zT,zU,i64_w,i32_w]
       rfl
     refine take_ (i:=7) (N:=some 31) (v:=?_) (a':=?_) (b_ 8 3) rfl rfl (tkO HT_.out HW_.out (by kernel_rfl)) (fun _ _ _ h=>h) (Or.inl ⟨by rfl,?_⟩) hHeld ?_ ?_
     rotate_left
     · rintro w' ⟨s0,s1,s2,s3,s4,s5,s6,s7,s8,s9,s10⟩
       go_simp
       with_reducible rfl
     rotate_left
     · simp only [Act.put,zS,zT,zU,i64_w,i32_w]
       rfl
     refine take_ (i:=8) (N:=some 32) (v:=?_) (a':=?_) (b_ 9 2) rfl rfl (tkO HT_.out HW_.out (by kernel_rfl)) (fun _ _ _ h=>h) (Or.inl ⟨by rfl,?_⟩) hHeld ?_ ?_
     rotate_left
     · rintro w' ⟨s0,s1,s2,s3,s4,s5,s6,s7,s8,s9,s10⟩
       go_simp
       with_reducible rfl
     rotate_left
     · simp only [Act.put,zS,zT,zU,i64_w,i32_w]
       rfl
     refine one_ (i:=9) (N:=some 33) (b_ 10 1) rfl rfl (one_of HT_.out (by kernel_rfl)) (by decide) (fun K hK=>?_)
     refine goes_ Tryd.func42 (by kernel_rfl) rfl #[.agg #[.string ((rd_T77 s0_1 t218).f0.f0),.int .i64 ((rd_T77 s0_1 t218).f0.f1),.int .i64 ((rd_T77 s0_1 t218).f0.f2),.string ((rd_T77 s0_1 t218).f0.f3)],.agg #[.string a1_0,.int .i64 a1_1,.int .i64 a1_2,.string a1_3]] (by rfl) rfl rfl (by (try simp only [zA,zC,zN]);first|done|rfl|(simp only [zM,zL];rfl)) ?_
     with_reducible refine (impl_itemOrder.calls k2 ((rd_T77 s0_1 t218).f0.f0) ((rd_T77 s0_1 t218).f0.f1) ((rd_T77 s0_1 t218).f0.f2) ((rd_T77 s0_1 t218).f0.f3) a1_0 a1_1 a1_2 a1_3 t221 _ A17.out).mono ?_
     rintro e w24 ⟨rfl,hb⟩
     have HS0_:=(hb.cell (zB _ _ (hHeld.1))).trans (hHeld.1)
     have HS1_:=(hb.cell (zB _ _ (hHeld.2.1))).trans (hHeld.2.1)
     refine ⟨_,rfl,?_⟩
     have n0_:=AsZ.mk (Kd.R_below (by (with_reducible repeat (first|apply Kd.R_alloc|apply Kd.R_drewN|apply Kd.R_drew));exact HO_6.out) hb)
     have n1_:=AsZ.mk (kb (g:=gb214) (o := .cells #[.string a1_0,.int .i64 a1_1,.int .i64 a1_2,.string a1_3] 28 (0,0)) (by (with_reducible repeat (first|refine kdN ?_ _|refine kd ?_|refine ka ?_ _));exact BK214.out) hb)
     have n2_:=AsZ.mk (IsS26.below (by repeat (first|(with_reducible first|exact HI0.out|apply IsS26.alloc|apply IsS26.drewN|apply IsS26.drew|refine IsS26.far ?_ NB0_214.out _)|exact HI0.out)) hb)
     have n3_:=AsZ.mk (KeepF.trans (by repeat (first|(with_reducible first|exact HK.out|apply KeepF.keep|apply KeepF.drewN|apply KeepF.drew|apply KeepF.alloc|refine KeepF.far ?_ GW214.out _)|exact HK.out)) (KeepF.of_below hb g none) (.inl rfl))
     have n4_:=AsZ.mk (bwp (by repeat (first|(with_reducible first|exact HB.out|apply bwa|apply pbN|apply bw1|refine bws ?_ (IsS26.ge HI0.out)|refine bws ?_ GE214.out)|exact HB.out)) hb)
     clear HO_6 BK214 HI0 HK HB
     have HO_6:=n0_
     have BK214:=n1_
     have HI0:=n2_
     have HK:=n3_
     have HB:=n4_
     clear n0_ n1_ n2_ n3_ n4_
     (try clear hb)
     (try clear hb2)
     (try clear hk)
     (try clear hi)
     refine hK.out _ _ ⟨HS0_,HS1_,(kc BK214.out 0).trans rfl,(kc BK214.out 1).trans rfl,(kc BK214.out 2).trans rfl,(kc BK214.out 3).trans rfl,(pcb HB.out hw220_0),(pcb HB.out hw220_1),(pcb HB.out hw220_2),(pcb HB.out hw220_3),(pcb HB.out hw220_4)⟩ (fun hHeld=>?_)
     clear hK K
     refine norm_ (a':=?_) ?_ ?_
     rotate_left
     · show Act.put _ (some 33) _=_
       simp only [Act.put,zS,zT,zU,i64_w,i32_w]
       rfl
     refine pure_ (i:=10) (N:=some 34) (v:=?_) (a':=?_) (b_ 11 0) rfl rfl (anO HT_.out (by kernel_rfl)) (fun _ _ _ h=>h) (Or.inl ⟨by rfl,?_⟩) ?_ ?_
     rotate_left
     · intro w'
       go_simp
       with_reducible rfl
     rotate_left
     · simp only [Act.put,zS,zT,zU,i64_w,i32_w]
       rfl
     refine dn_ (dnO HT_.out (by kernel_rfl)) ?_
     have p21:0≤(x9_1:Int):=zD (by first|(with_reducible assumption)|assumption)
     have q21:(x9_1:Int) < ((x6_1.length:Int):Int):=zD (by first|(with_reducible assumption)|assumption)
     obtain ⟨go21,co21,eo21,gb21,gl21,cl21,HG21⟩:=Kd.R_form HO_6.out (by omega)
     (first|cases eo21|(injection eo21 with ea_ en_ ec_;(first|subst ea_|(injection ea_ with ea_;subst ea_));subst ec_;clear en_))
     have GB21:=AsZ.mk gb21
     have GG21:=AsZ.mk HG21
     clear gb21 gl21 HG21
     obtain ⟨hx21_0,hf21_0⟩:=Kd.R_celln 0 HO_6.out (x9_1:Int) p21 q21
     replace p21:=eq_true p21
     replace q21:=eq_true q21
     obtain ⟨hy25_,hz25_⟩:=Kd.R_celln 0 HO_6.out (x9_1:Int) (zD (by first|(with_reducible assumption)|assumption)) (zD (by first|(with_reducible assumption)|assumption))
     have HP25:=Kd.R_putg HO_6.out (x9_1:Int) x7_2
     try go_wp2_with (first|((with_reducible refine gate_store (t:=3) (p:=39) rfl ?_);refine store_event (t:=3) (p:=39) (v:=?vo_w26) (w1:=(w24.setCell ⟨go21,(x9_1:Int).toNat,none⟩ (.int .i64 x7_2))) ?hg ?ho ?hn ?hr ?_;(case ho=>rfl);(case hg=>rfl);(case hn=>rfl);(case hr=>first|(go_simp;done)|(go_simp;rfl));intro w26 hw;have hg:w24.grownBy w26 (some go21):=(by rw [hw];exact HP25.2);have hp_:Kd.R (Kd.int .i64) 3 w26 w.heap.size (fun _=>True) (.slice (some ⟨go21,0,none⟩) x6_1.length co21) y222:=(by rw [hw,Ny222.out];exact HP25.1);clear HP25;have n0_:=AsZ.mk (hp_);have n1_:=AsZ.mk (blk_grown (g:=gb214) (o := .cells #[.string a1_0,.int .i64 a1_1,.int .i64 a1_2,.string a1_3] 28 (0,0)) (by (with_reducible repeat (first|refine kdN ?_ _|refine kd ?_|refine ka ?_ _));exact BK214.out) hg (Kd.R_ne HO_6.out BK214.out (by decide)));have n2_:=AsZ.mk (IsS26.grown (by repeat (first|(with_reducible first|exact HI0.out|apply IsS26.alloc|apply IsS26.drewN|apply IsS26.drew|refine IsS26.far ?_ NB0_214.out _)|exact HI0.out)) hg (IsS26.own_ne HI0.out HO_6.out (by decide)));have n3_:=AsZ.mk ((by rw [hw];exact bws (HB.out) (Nat.le_trans HL.out GB21.out):Below w0.heap.size w0 w26));have n4_:=AsZ.mk (KeepF.put (by repeat (first|(with_reducible first|exact HK.out|apply KeepF.keep|apply KeepF.drewN|apply KeepF.drew|apply KeepF.alloc|refine KeepF.far ?_ GW214.out _)|exact HK.out)) hg (Kd.R_base2 HO_6.out));clear HO_6;clear BK214;clear HI0;clear HB;clear HK;have HO_6:=n0_;have BK214:=n1_;have HI0:=n2_;have HB:=n3_;have HK:=n4_;clear n0_ n1_ n2_ n3_ n4_;clear hg hw hp_))
     go_roundg k2
     case measure=>have:=HK1.out;have:=HK2.out;omega
     case rel=>exact ⟨(y222),(x7_2),(wrap64 (x8_2 + 1)),(wrap64 (x9_1 - 1)),(by first|rfl|(simp;done)|(simp [*];done)),(by first|rfl|(simp;done)|(simp [*];done)),(by first|rfl|(simp;done)|(simp [*];done)),H',⟨by have:=HK1.out;have:=HK2.out;omega⟩,⟨by (with_reducible repeat (first|apply Kd.R_alloc|apply Kd.R_drewN|apply Kd.R_drew));exact HO_6.out⟩,⟨by (with_reducible repeat (first|refine kdN ?_ _|refine kd ?_|refine ka ?_ _));exact BK214.out⟩,⟨by repeat (first|(with_reducible first|exact HI0.out|apply IsS26.alloc|apply IsS26.drewN|apply IsS26.drew|refine IsS26.far ?_ NB0_214.out _)|exact HI0.out)⟩,⟨by repeat (first|(with_reducible first|exact HK.out|apply KeepF.keep|apply KeepF.drewN|apply KeepF.drew|apply KeepF.alloc|refine KeepF.far ?_ GW214.out _)|exact HK.out)⟩,⟨by repeat (first|(with_reducible first|exact HB.out|apply bwa|apply pbN|apply bw1|refine bws ?_ (IsS26.ge HI0.out)|refine bws ?_ GE214.out)|exact HB.out)⟩⟩
/-! ### impl_SeekSkip: function 32 -/
def impl_SeekSkip.j0:Nat→ByteArray→Int→Bool→List Int→List (S77)→Option (ByteArray × Int × Int × ByteArray × Int × Bool)
  |0,_,_,_,_,_=>none
  |k + 1,x1,x2,x24,x224000,x224001=>if x24=true then (some ((⟨#[]⟩:ByteArray),0,0,(⟨#[]⟩:ByteArray),0,false)) else ((impl_Skip_seek.f k x224000 x224001 x1 x2 0 (⟨#[]⟩:ByteArray)).bind fun bt228=>(if 0 < (bt228.1.length:Int) then ((impl_Skip_next.f x224000 x224001 (rd bt228.1 0) 0).bind fun t233=>(if t233=(-1) then (some ((⟨#[]⟩:ByteArray),0,0,(⟨#[]⟩:ByteArray),0,false)) else (if 0≤t233 then (if t233 < (x224001.length:Int) then (some ((rd_T77 x224001 t233).f0.f0,(rd_T77 x224001 t233).f0.f1,(rd_T77 x224001 t233).f0.f2,(rd_T77 x224001 t233).f0.f3,bt228.2,true)) else (none)) else (none)))) else (none)))
def impl_SeekSkip.f (k:Nat) (l0_0:List Int) (l0_1:List (S77)) (a1:ByteArray) (a2:Int):Option (ByteArray × Int × Int × ByteArray × Int × Bool):=(impl_GoodSkip.f k l0_0 l0_1).bind fun t225=>(if t225=true then ((impl_isKey.f a1).bind fun t226=>(if t226=true then ((impl_isSeq.f a2).bind fun t227=>(impl_SeekSkip.j0 k a1 a2 (!t227) l0_0 l0_1)) else (impl_SeekSkip.j0 k a1 a2 true l0_0 l0_1))) else (impl_SeekSkip.j0 k a1 a2 true l0_0 l0_1))
theorem impl_SeekSkip.mono_l:∀ k,(∀ y0 y1 y2 y3 y4,LeO (impl_SeekSkip.j0 k y0 y1 y2 y3 y4) (impl_SeekSkip.j0 (k + 1) y0 y1 y2 y3 y4))
  |0=>fun _ _ _ _ _ r h=>by simp [impl_SeekSkip.j0] at h
  |k + 1=>by
    have ih0:=impl_SeekSkip.mono_l k
    · intro y0 y1 y2 y3 y4
      unfold impl_SeekSkip.j0
      repeat' first
      |(with_reducible exact ih0 _ _ _ _ _)
      |(with_reducible exact impl_GoodSkip.mono _ _ _)
      |(with_reducible exact impl_Skip_seek.mono _ _ _ _ _ _ _)
      |(with_reducible exact LeO.refl _)
      |(with_reducible exact LeO.none _)
      |(with_reducible refine LeO.ite ?_ ?_)
      |(with_reducible refine LeO.bind ?_ (fun _=>?_))
      |exact ih0 _ _ _ _ _
      |exact impl_GoodSkip.mono _ _ _
      |exact impl_Skip_seek.mono _ _ _ _ _ _ _
      |exact LeO.none _
      |refine LeO.ite ?_ ?_
      |refine LeO.bind ?_ (fun _=>?_)
theorem impl_SeekSkip.mono:∀ a0 a1 a2 a3 k,LeO (impl_SeekSkip.f k a0 a1 a2 a3) (impl_SeekSkip.f (k + 1) a0 a1 a2 a3):=by
  intro a0 a1 a2 a3 k
  have ih0:=impl_SeekSkip.mono_l k
  unfold impl_SeekSkip.f
  repeat' first
      |(with_reducible exact ih0 _ _ _ _ _)
      |(with_reducible exact impl_GoodSkip.mono _ _ _)
      |(with_reducible exact impl_Skip_seek.mono _ _ _ _ _ _ _)
      |(with_reducible exact LeO.refl _)
      |(with_reducible exact LeO.none _)
      |(with_reducible refine LeO.ite ?_ ?_)
      |(with_reducible refine LeO.bind ?_ (fun _=>?_))
      |exact ih0 _ _ _ _ _
      |exact impl_GoodSkip.mono _ _ _
      |exact impl_Skip_seek.mono _ _ _ _ _ _ _
      |exact LeO.none _
      |refine LeO.ite ?_ ?_
      |refine LeO.bind ?_ (fun _=>?_)
set_option maxHeartbeats 8000000 in
set_option maxRecDepth 100000 in
theorem impl_SeekSkip.calls (k:Nat) (A0_0:Option Addr) (c0_0:Nat) (l0_0:List Int) (A0_1:Option Addr) (c0_1:Nat) (l0_1:List (S77)) (a1:ByteArray) (a2:Int) (r1:ByteArray) (r2:Int) (r3:Int) (r4:ByteArray) (r5:Int) (r6:Bool) (w:World) (hr0_0:Kd.C (Kd.int .i64) w A0_0 l0_0.length l0_0) (hc0_0:l0_0.length≤c0_0) (hr0_1:Kd.C k77 w A0_1 l0_1.length l0_1) (hc0_1:l0_1.length≤c0_1) (hT:Tab w) (h:impl_SeekSkip.f k l0_0 l0_1 a1 a2=some (r1,r2,r3,r4,r5,r6)) :
    Calls Tryd.prog 32 #[.agg #[.slice A0_0 l0_0.length c0_0,.slice A0_1 l0_1.length c0_1],.string a1,.int .i64 a2] w fun e w'=>e = .returned (.tuple #[.agg #[.string r1,.int .i64 r2,.int .i64 r3,.string r4],.int .i64 r5,.bool r6])∧Below w.heap.size w w':=by
 have HT:=AsZ.mk hT
 clear hT
 have hu26:=Tryd.underlying26
 have hu28:=Tryd.underlying28
 have HR0_0:=AsZ.mk hr0_0
 have HC0_0:=AsZ.mk hc0_0
 clear hr0_0 hc0_0
 have HR0_1:=AsZ.mk hr0_1
 have HC0_1:=AsZ.mk hc0_1
 clear hr0_1 hc0_1
 have HB:=AsZ.mk (Below.refl w.heap.size w)
 have H:((impl_GoodSkip.f k l0_0 l0_1).bind fun t225=>(if t225=true then ((impl_isKey.f a1).bind fun t226=>(if t226=true then ((impl_isSeq.f a2).bind fun t227=>(impl_SeekSkip.j0 k a1 a2 (!t227) l0_0 l0_1)) else (impl_SeekSkip.j0 k a1 a2 true l0_0 l0_1))) else (impl_SeekSkip.j0 k a1 a2 true l0_0 l0_1)))=some (r1,r2,r3,r4,r5,r6):=h
 clear h
 have HC4:=AsZ.mk H
 clear H
 go_enter Tryd.func32,Tryd.ntmps32
 go_upto_region 1 with (first|((with_reducible refine gate_dst (N:=3) rfl ?_);refine box_event ?hg (N:=3) ?hd (cs:=#[.slice A0_0 l0_0.length c0_0,.slice A0_1 l0_1.length c0_1]) (t:=26) ?hr ?_;(case hd=>rfl);(case hg=>rfl);(case hr=>first|(go_simp;done)|(go_simp;rfl));intro gb223 hg w5 hbox hb;have n0_:=AsZ.mk (bwp (by repeat (first|(with_reducible first|exact HB.out|apply bwa|apply pbN|apply bw1)|exact HB.out)) hb);have n1_:=AsZ.mk ((by rw [hg];exact (bwz (by repeat (first|(with_reducible first|exact HB.out|apply bwa|apply pbN|apply bw1)|exact HB.out))):w.heap.size≤gb223));have n2_:=AsZ.mk ((by rw [hg];exact (bwz (by repeat (first|(with_reducible first|exact HB.out|apply bwa|apply pbN|apply bw1)|exact HB.out))):w.heap.size≤gb223));have n3_:=AsZ.mk ((show IsS26F A0_0 c0_0 A0_1 c0_1 w w5 gb223 l0_0 l0_1 from ⟨hbox,(by rw [hg];exact (bwz (by repeat (first|(with_reducible first|exact HB.out|apply bwa|apply pbN|apply bw1)|exact HB.out)))),HR0_0.out,HC0_0.out,HR0_1.out,HC0_1.out⟩));clear HB;have HB:=n0_;have GW223:=n1_;have GE223:=n2_;have HI223:=n3_;clear n0_ n1_ n2_ n3_;clear hb hbox hg)|((with_reducible refine gate_dst (N:=6) rfl ?_);refine box_event ?hg (N:=6) ?hd (cs:=#[.string (⟨#[]⟩:ByteArray),.int .i64 0,.int .i64 0,.string (⟨#[]⟩:ByteArray)]) (t:=28) ?hr ?_;(case hd=>rfl);(case hg=>rfl);(case hr=>first|(go_simp;done)|(go_simp;rfl));intro gb224 hg w6 hbox hb;have n0_:=AsZ.mk (IsS26F.below (by repeat (first|(with_reducible first|exact HI223.out|apply IsS26F.alloc|apply IsS26F.drewN|apply IsS26F.drew)|exact HI223.out)) hb);have n1_:=AsZ.mk (bwp (by repeat (first|(with_reducible first|exact HB.out|apply bwa|apply pbN|apply bw1|refine bws ?_ (IsS26F.ge HI223.out))|exact HB.out)) hb);have n2_:=AsZ.mk (hbox);have n3_:=AsZ.mk ((by rw [hg];exact (bwz (by repeat (first|(with_reducible first|exact HB.out|apply bwa|apply pbN|apply bw1|refine bws ?_ (IsS26F.ge HI223.out))|exact HB.out))):w.heap.size≤gb224));have n4_:=AsZ.mk ((by rw [hg];exact (bwz (by repeat (first|(with_reducible first|exact HB.out|apply bwa|apply pbN|apply bw1|refine bws ?_ (IsS26F.ge HI223.out))|exact HB.out))):w.heap.size≤gb224));have n5_:=AsZ.mk ((by rw [hg];exact Nat.ne_of_lt (IsS26F.lt (show IsS26F A0_0 c0_0 A0_1 c0_1 w _ gb223 l0_0 l0_1 from by repeat (first|(with_reducible first|exact HI223.out|apply IsS26F.alloc|apply IsS26F.drewN|apply IsS26F.drew)|exact HI223.out))):gb223 ≠ gb224));have n6_:=AsZ.mk ((by rw [hg];exact Nat.ne_of_gt (IsS26F.lt (show IsS26F A0_0 c0_0 A0_1 c0_1 w _ gb223 l0_0 l0_1 from by repeat (first|(with_reducible first|exact HI223.out|apply IsS26F.alloc|apply IsS26F.drewN|apply IsS26F.drew)|exact HI223.out))):gb224 ≠ gb223));clear HI223;clear HB;have HI223:=n0_;have HB:=n1_;have BK224:=n2_;have GW224:=n3_;have GE224:=n4_;have NB223_224:=n5_;have NB224_223:=n6_;clear n0_ n1_ n2_ n3_ n4_ n5_ n6_;clear hb hbox hg))
 (try simp only [Act.put,zS,zT,zU])
 go_cut [24] (fun v24 wc => ∃ (kq:Nat) (x24_3:Bool),v24 = .bool x24_3∧AsZ (impl_SeekSkip.j0 kq a1 a2 x24_3 l0_0 l0_1=some (r1,r2,r3,r4,r5,r6))∧AsZ (kq≤k)∧AsZ (wc.heap[gb224]? = some (.cells #[.string (⟨#[]⟩:ByteArray),.int .i64 0,.int .i64 0,.string (⟨#[]⟩:ByteArray)] 28 (0,0)))∧AsZ (IsS26F A0_0 c0_0 A0_1 c0_1 w wc gb223 l0_0 l0_1)∧AsZ (Below w.heap.size w wc))
 case first =>
  have H:=HC4.out
  clear HC4
  replace H:=Option.bind_eq_some_iff.mp H
  obtain ⟨t225,A70,H⟩:=H
  replace H:(if t225=true then ((impl_isKey.f a1).bind fun t226=>(if t226=true then ((impl_isSeq.f a2).bind fun t227=>(impl_SeekSkip.j0 k a1 a2 (!t227) l0_0 l0_1)) else (impl_SeekSkip.j0 k a1 a2 true l0_0 l0_1))) else (impl_SeekSkip.j0 k a1 a2 true l0_0 l0_1))=some (r1,r2,r3,r4,r5,r6):=H
  have A7:=AsZ.mk A70
  clear A70
  by_cases c8:t225=true
  rotate_left
  · replace c8:=Bool.eq_false_iff.mpr c8
    subst c8
    have H1:(impl_SeekSkip.j0 k a1 a2 true l0_0 l0_1)=some (r1,r2,r3,r4,r5,r6):=by rw [if_neg (show ¬ (false=true) by decide)] at H;exact H
    clear H
    have H:=H1
    clear H1
    have H':=AsZ.mk H
    clear H
    obtain ⟨ASz16_0,cSz16_0,ASz16_1,cSz16_1,⟨es0_,es1_,es2_,es3_⟩,HGz16,hgz16,HSz16_0,HSCz16_0,HSz16_1,HSCz16_1⟩:=IsS26F.ex HI223.out
    subst es0_
    subst es1_
    subst es2_
    subst es3_
    have hcz16_0:=cellS26_0 HGz16
    have hcz16_1:=cellS26_1 HGz16
    clear HGz16 hgz16
    go_wp2_with (first|((with_reducible refine gcl (f:=15) rfl ?_);refine goesL_ (some 13) rfl rfl Tryd.func15 (by kernel_rfl) rfl #[.agg #[.slice ASz16_0 l0_0.length cSz16_0,.slice ASz16_1 l0_1.length cSz16_1]] rfl (by (try simp only [zA,zC,zN]);first|done|rfl|(simp only [zM,zL];rfl)) ?_;(with_reducible refine (impl_GoodSkip.calls k _ _ l0_0 _ _ l0_1 false _ ?side1 ?side2 ?side3 ?side4 ?sideT A7.out).mono ?_);(case sideT=>exact tab_below HT.out (by repeat (first|(with_reducible first|exact HB.out|apply bwa|apply pbN|apply bw1|refine bws ?_ (AsZ.out (by assumption)))|exact HB.out)));(case side1=>exact Kd.C_below HSz16_0 (by repeat (first|(with_reducible first|exact HB.out|apply bwa|apply pbN|apply bw1|refine bws ?_ (IsS26F.ge HI223.out)|refine bws ?_ GE224.out)|exact HB.out)));(case side2=>exact HSCz16_0);(case side3=>exact Kd.C_below HSz16_1 (by repeat (first|(with_reducible first|exact HB.out|apply bwa|apply pbN|apply bw1|refine bws ?_ (IsS26F.ge HI223.out)|refine bws ?_ GE224.out)|exact HB.out)));(case side4=>exact HSCz16_1);rintro e w17 ⟨rfl,hb⟩;refine ⟨_,rfl,?_⟩;have n0_:=AsZ.mk (IsS26F.below (by repeat (first|(with_reducible first|exact HI223.out|apply IsS26F.alloc|apply IsS26F.drewN|apply IsS26F.drew|refine IsS26F.far ?_ NB223_224.out _)|exact HI223.out)) hb);have n1_:=AsZ.mk (kb (g:=gb224) (o := .cells #[.string (⟨#[]⟩:ByteArray),.int .i64 0,.int .i64 0,.string (⟨#[]⟩:ByteArray)] 28 (0,0)) (by (with_reducible repeat (first|refine kdN ?_ _|refine kd ?_|refine ka ?_ _));exact BK224.out) hb);have n2_:=AsZ.mk (bwp (by repeat (first|(with_reducible first|exact HB.out|apply bwa|apply pbN|apply bw1|refine bws ?_ (IsS26F.ge HI223.out)|refine bws ?_ GE224.out)|exact HB.out)) hb);clear HI223;clear BK224;clear HB;have HI223:=n0_;have BK224:=n1_;have HB:=n2_;clear n0_ n1_ n2_;(try clear hb);(try clear hb2);(try clear hk);(try clear hi)))
    go_meet
    case rel=>exact ⟨_,(true),(by first|rfl|(simp;done)|(simp [*];done)),H',⟨by first|omega|exact Nat.le_refl _⟩,⟨by (with_reducible repeat (first|refine kdN ?_ _|refine kd ?_|refine ka ?_ _));exact BK224.out⟩,⟨by repeat (first|(with_reducible first|exact HI223.out|apply IsS26F.alloc|apply IsS26F.drewN|apply IsS26F.drew|refine IsS26F.far ?_ NB223_224.out _)|exact HI223.out)⟩,⟨by repeat (first|(with_reducible first|exact HB.out|apply bwa|apply pbN|apply bw1|refine bws ?_ (IsS26F.ge HI223.out)|refine bws ?_ GE224.out)|exact HB.out)⟩⟩
  subst c8
  have H1:((impl_isKey.f a1).bind fun t226=>(if t226=true then ((impl_isSeq.f a2).bind fun t227=>(impl_SeekSkip.j0 k a1 a2 (!t227) l0_0 l0_1)) else (impl_SeekSkip.j0 k a1 a2 true l0_0 l0_1)))=some (r1,r2,r3,r4,r5,r6):=by rw [if_pos rfl] at H;exact H
  clear H
  have H:=H1
  clear H1
  replace H:=Option.bind_eq_some_iff.mp H
  obtain ⟨t226,A90,H⟩:=H
  replace H:(if t226=true then ((impl_isSeq.f a2).bind fun t227=>(impl_SeekSkip.j0 k a1 a2 (!t227) l0_0 l0_1)) else (impl_SeekSkip.j0 k a1 a2 true l0_0 l0_1))=some (r1,r2,r3,r4,r5,r6):=H
  have A9:=AsZ.mk A90
  clear A90
  by_cases c10:t226=true
  rotate_left
  · replace c10:=Bool.eq_false_iff.mpr c10
    subst c10
    have H1:(impl_SeekSkip.j0 k a1 a2 true l0_0 l0_1)=some (r1,r2,r3,r4,r5,r6):=by rw [if_neg (show ¬ (false=true) by decide)] at H;exact H
    clear H
    have H:=H1
    clear H1
    have H':=AsZ.mk H
    clear H
    obtain ⟨ASz14_0,cSz14_0,ASz14_1,cSz14_1,⟨es0_,es1_,es2_,es3_⟩,HGz14,hgz14,HSz14_0,HSCz14_0,HSz14_1,HSCz14_1⟩:=IsS26F.ex HI223.out
    subst es0_
    subst es1_
    subst es2_
    subst es3_
    have hcz14_0:=cellS26_0 HGz14
    have hcz14_1:=cellS26_1 HGz14
    clear HGz14 hgz14
    go_wp2_with (first|((with_reducible refine gcl (f:=15) rfl ?_);refine goesL_ (some 13) rfl rfl Tryd.func15 (by kernel_rfl) rfl #[.agg #[.slice ASz14_0 l0_0.length cSz14_0,.slice ASz14_1 l0_1.length cSz14_1]] rfl (by (try simp only [zA,zC,zN]);first|done|rfl|(simp only [zM,zL];rfl)) ?_;(with_reducible refine (impl_GoodSkip.calls k _ _ l0_0 _ _ l0_1 true _ ?side1 ?side2 ?side3 ?side4 ?sideT A7.out).mono ?_);(case sideT=>exact tab_below HT.out (by repeat (first|(with_reducible first|exact HB.out|apply bwa|apply pbN|apply bw1|refine bws ?_ (AsZ.out (by assumption)))|exact HB.out)));(case side1=>exact Kd.C_below HSz14_0 (by repeat (first|(with_reducible first|exact HB.out|apply bwa|apply pbN|apply bw1|refine bws ?_ (IsS26F.ge HI223.out)|refine bws ?_ GE224.out)|exact HB.out)));(case side2=>exact HSCz14_0);(case side3=>exact Kd.C_below HSz14_1 (by repeat (first|(with_reducible first|exact HB.out|apply bwa|apply pbN|apply bw1|refine bws ?_ (IsS26F.ge HI223.out)|refine bws ?_ GE224.out)|exact HB.out)));(case side4=>exact HSCz14_1);rintro e w15 ⟨rfl,hb⟩;refine ⟨_,rfl,?_⟩;have n0_:=AsZ.mk (IsS26F.below (by repeat (first|(with_reducible first|exact HI223.out|apply IsS26F.alloc|apply IsS26F.drewN|apply IsS26F.drew|refine IsS26F.far ?_ NB223_224.out _)|exact HI223.out)) hb);have n1_:=AsZ.mk (kb (g:=gb224) (o := .cells #[.string (⟨#[]⟩:ByteArray),.int .i64 0,.int .i64 0,.string (⟨#[]⟩:ByteArray)] 28 (0,0)) (by (with_reducible repeat (first|refine kdN ?_ _|refine kd ?_|refine ka ?_ _));exact BK224.out) hb);have n2_:=AsZ.mk (bwp (by repeat (first|(with_reducible first|exact HB.out|apply bwa|apply pbN|apply bw1|refine bws ?_ (IsS26F.ge HI223.out)|refine bws ?_ GE224.out)|exact HB.out)) hb);clear HI223;clear BK224;clear HB;have HI223:=n0_;have BK224:=n1_;have HB:=n2_;clear n0_ n1_ n2_;(try clear hb);(try clear hb2);(try clear hk);(try clear hi))|(go_at_call 70;(with_reducible refine (impl_isKey.calls a1 false _ A9.out).mono ?_);rintro e w' ⟨rfl,⟨nd,rfl⟩⟩))
    go_meet
    case rel=>exact ⟨_,(true),(by first|rfl|(simp;done)|(simp [*];done)),H',⟨by first|omega|exact Nat.le_refl _⟩,⟨by (with_reducible repeat (first|refine kdN ?_ _|refine kd ?_|refine ka ?_ _));exact BK224.out⟩,⟨by repeat (first|(with_reducible first|exact HI223.out|apply IsS26F.alloc|apply IsS26F.drewN|apply IsS26F.drew|refine IsS26F.far ?_ NB223_224.out _)|exact HI223.out)⟩,⟨by repeat (first|(with_reducible first|exact HB.out|apply bwa|apply pbN|apply bw1|refine bws ?_ (IsS26F.ge HI223.out)|refine bws ?_ GE224.out)|exact HB.out)⟩⟩
  subst c10
  have H1:((impl_isSeq.f a2).bind fun t227=>(impl_SeekSkip.j0 k a1 a2 (!t227) l0_0 l0_1))=some (r1,r2,r3,r4,r5,r6):=by rw [if_pos rfl] at H;exact H
  clear H
  have H:=H1
  clear H1
  replace H:=Option.bind_eq_some_iff.mp H
  obtain ⟨t227,A110,H⟩:=H
  replace H:(impl_SeekSkip.j0 k a1 a2 (!t227) l0_0 l0_1)=some (r1,r2,r3,r4,r5,r6):=H
  have A11:=AsZ.mk A110
  clear A110
  have H':=AsZ.mk H
  clear H
  obtain ⟨ASz12_0,cSz12_0,ASz12_1,cSz12_1,⟨es0_,es1_,es2_,es3_⟩,HGz12,hgz12,HSz12_0,HSCz12_0,HSz12_1,HSCz12_1⟩:=IsS26F.ex HI223.out
  subst es0_
  subst es1_
  subst es2_
  subst es3_
  have hcz12_0:=cellS26_0 HGz12
  have hcz12_1:=cellS26_1 HGz12
  clear HGz12 hgz12
  go_wp2_with (first|((with_reducible refine gcl (f:=15) rfl ?_);refine goesL_ (some 13) rfl rfl Tryd.func15 (by kernel_rfl) rfl #[.agg #[.slice ASz12_0 l0_0.length cSz12_0,.slice ASz12_1 l0_1.length cSz12_1]] rfl (by (try simp only [zA,zC,zN]);first|done|rfl|(simp only [zM,zL];rfl)) ?_;(with_reducible refine (impl_GoodSkip.calls k _ _ l0_0 _ _ l0_1 true _ ?side1 ?side2 ?side3 ?side4 ?sideT A7.out).mono ?_);(case sideT=>exact tab_below HT.out (by repeat (first|(with_reducible first|exact HB.out|apply bwa|apply pbN|apply bw1|refine bws ?_ (AsZ.out (by assumption)))|exact HB.out)));(case side1=>exact Kd.C_below HSz12_0 (by repeat (first|(with_reducible first|exact HB.out|apply bwa|apply pbN|apply bw1|refine bws ?_ (IsS26F.ge HI223.out)|refine bws ?_ GE224.out)|exact HB.out)));(case side2=>exact HSCz12_0);(case side3=>exact Kd.C_below HSz12_1 (by repeat (first|(with_reducible first|exact HB.out|apply bwa|apply pbN|apply bw1|refine bws ?_ (IsS26F.ge HI223.out)|refine bws ?_ GE224.out)|exact HB.out)));(case side4=>exact HSCz12_1);rintro e w13 ⟨rfl,hb⟩;refine ⟨_,rfl,?_⟩;have n0_:=AsZ.mk (IsS26F.below (by repeat (first|(with_reducible first|exact HI223.out|apply IsS26F.alloc|apply IsS26F.drewN|apply IsS26F.drew|refine IsS26F.far ?_ NB223_224.out _)|exact HI223.out)) hb);have n1_:=AsZ.mk (kb (g:=gb224) (o := .cells #[.string (⟨#[]⟩:ByteArray),.int .i64 0,.int .i64 0,.string (⟨#[]⟩:ByteArray)] 28 (0,0)) (by (with_reducible repeat (first|refine kdN ?_ _|refine kd ?_|refine ka ?_ _));exact BK224.out) hb);have n2_:=AsZ.mk (bwp (by repeat (first|(with_reducible first|exact HB.out|apply bwa|apply pbN|apply bw1|refine bws ?_ (IsS26F.ge HI223.out)|refine bws ?_ GE224.out)|exact HB.out)) hb);clear HI223;clear BK224;clear HB;have HI223:=n0_;have BK224:=n1_;have HB:=n2_;clear n0_ n1_ n2_;(try clear hb);(try clear hb2);(try clear hk);(try clear hi))|(go_at_call 70;(with_reducible refine (impl_isKey.calls a1 true _ A9.out).mono ?_);rintro e w' ⟨rfl,⟨nd,rfl⟩⟩)|(go_at_call 71;(with_reducible refine (impl_isSeq.calls a2 t227 _ A11.out).mono ?_);rintro e w' ⟨rfl,⟨nd,rfl⟩⟩))
  go_meet
  case rel=>exact ⟨_,(!t227),(by first|rfl|(simp;done)|(simp [*];done)),H',⟨by first|omega|exact Nat.le_refl _⟩,⟨by (with_reducible repeat (first|refine kdN ?_ _|refine kd ?_|refine ka ?_ _));exact BK224.out⟩,⟨by repeat (first|(with_reducible first|exact HI223.out|apply IsS26F.alloc|apply IsS26F.drewN|apply IsS26F.drew|refine IsS26F.far ?_ NB223_224.out _)|exact HI223.out)⟩,⟨by repeat (first|(with_reducible first|exact HB.out|apply bwa|apply pbN|apply bw1|refine bws ?_ (IsS26F.ge HI223.out)|refine bws ?_ GE224.out)|exact HB.out)⟩⟩
 case rest =>
  clear HC4
  try clear c1
  try clear p2
  try clear c3
  try clear c8
  try clear c10
  try clear c15
  try clear hcz12_0
  try clear hcz12_1
  try clear hcz14_0
  try clear hcz14_1
  try clear hcz16_0
  try clear hcz16_1
  obtain ⟨kq,x24_3,rfl,HA,HJ3,BK224,HI223,HB⟩:=hcut
  cases kq with
  |zero=>exact absurd HA.out (by simp [impl_SeekSkip.j0])
  |succ kj3 =>
   have H:=HA.out
   clear HA
   simp only [impl_SeekSkip.j0] at H
   by_cases c18:x24_3=true
   · subst c18
     have H1:(some ((⟨#[]⟩:ByteArray),0,0,(⟨#[]⟩:ByteArray),0,false))=some (r1,r2,r3,r4,r5,r6):=by rw [if_pos rfl] at H;exact H
     clear H
     have H:=H1
     clear H1
     simp only [Option.some.injEq,Prod.mk.injEq] at H
     obtain ⟨rfl,rfl,rfl,rfl,rfl,rfl⟩:=H
     have hnb19:=NB224_223.out
     have hnc19:=NB223_224.out
     have hcz20_0:wc.cell? ⟨gb224,0,none⟩=some (.string (⟨#[]⟩:ByteArray)):=(kc BK224.out 0).trans rfl
     have hcz20_1:wc.cell? ⟨gb224,1,none⟩=some (.int .i64 0):=(kc BK224.out 1).trans rfl
     have hcz20_2:wc.cell? ⟨gb224,2,none⟩=some (.int .i64 0):=(kc BK224.out 2).trans rfl
     have hcz20_3:wc.cell? ⟨gb224,3,none⟩=some (.string (⟨#[]⟩:ByteArray)):=(kc BK224.out 3).trans rfl
     have hfz20_0:=kf BK224.out 0
     have hfz20_1:=kf BK224.out 1
     have hfz20_2:=kf BK224.out 2
     have hfz20_3:=kf BK224.out 3
     go_wp2
     refine bodyPost_ret (results_ctt rfl _ _ gb224 28 #[.string (⟨#[]⟩:ByteArray),.int .i64 0,.int .i64 0,.string (⟨#[]⟩:ByteArray)] (0,0) _ rfl (by (with_reducible repeat (first|refine kdN ?_ _|refine kd ?_|refine ka ?_ _));refine blk_put (cs:=#[.string (⟨#[]⟩:ByteArray),.int .i64 0,.int .i64 0,.string (⟨#[]⟩:ByteArray)]) ?_ 3 _ rfl;(with_reducible repeat (first|refine kdN ?_ _|refine kd ?_|refine ka ?_ _));refine blk_put (cs:=#[.string (⟨#[]⟩:ByteArray),.int .i64 0,.int .i64 0,.string (⟨#[]⟩:ByteArray)]) ?_ 2 _ rfl;(with_reducible repeat (first|refine kdN ?_ _|refine kd ?_|refine ka ?_ _));refine blk_put (cs:=#[.string (⟨#[]⟩:ByteArray),.int .i64 0,.int .i64 0,.string (⟨#[]⟩:ByteArray)]) ?_ 1 _ rfl;(with_reducible repeat (first|refine kdN ?_ _|refine kd ?_|refine ka ?_ _));refine blk_put (cs:=#[.string (⟨#[]⟩:ByteArray),.int .i64 0,.int .i64 0,.string (⟨#[]⟩:ByteArray)]) ?_ 0 _ rfl;(with_reducible repeat (first|refine kdN ?_ _|refine kd ?_|refine ka ?_ _));exact BK224.out) Tryd.underlying28 rfl (by kernel_rfl)) rfl ?_
     exact ⟨by first|rfl|(simp [errW_none,errW_some]<;>rfl)|(simp [*,errW_none,errW_some]<;>rfl),by repeat (first|(with_reducible first|exact HB.out|apply bwa|apply pbN|apply bw1|refine bws ?_ (IsS26F.ge HI223.out)|refine bws ?_ GE224.out)|exact HB.out)⟩
   replace c18:=Bool.eq_false_iff.mpr c18
   subst c18
   have H1:((impl_Skip_seek.f kj3 l0_0 l0_1 a1 a2 0 (⟨#[]⟩:ByteArray)).bind fun bt228=>(if 0 < (bt228.1.length:Int) then ((impl_Skip_next.f l0_0 l0_1 (rd bt228.1 0) 0).bind fun t233=>(if t233=(-1) then (some ((⟨#[]⟩:ByteArray),0,0,(⟨#[]⟩:ByteArray),0,false)) else (if 0≤t233 then (if t233 < (l0_1.length:Int) then (some ((rd_T77 l0_1 t233).f0.f0,(rd_T77 l0_1 t233).f0.f1,(rd_T77 l0_1 t233).f0.f2,(rd_T77 l0_1 t233).f0.f3,bt228.2,true)) else (none)) else (none)))) else (none)))=some (r1,r2,r3,r4,r5,r6):=by rw [if_neg (show ¬ (false=true) by decide)] at H;exact H
   clear H
   have H:=H1
   clear H1
   replace H:=Option.bind_eq_some_iff.mp H
   obtain ⟨⟨t228,t231⟩,A210,H⟩:=H
   replace H:(if 0 < (t228.length:Int) then ((impl_Skip_next.f l0_0 l0_1 (rd t228 0) 0).bind fun t233=>(if t233=(-1) then (some ((⟨#[]⟩:ByteArray),0,0,(⟨#[]⟩:ByteArray),0,false)) else (if 0≤t233 then (if t233 < (l0_1.length:Int) then (some ((rd_T77 l0_1 t233).f0.f0,(rd_T77 l0_1 t233).f0.f1,(rd_T77 l0_1 t233).f0.f2,(rd_T77 l0_1 t233).f0.f3,t231,true)) else (none)) else (none)))) else (none))=some (r1,r2,r3,r4,r5,r6):=H
   have A21:=AsZ.mk A210
   clear A210
   by_cases c22:0 < (t228.length:Int)
   rotate_left
   · rw [if_neg c22] at H
     exact absurd H (by simp)
   rw [if_pos c22] at H
   have c22b0:decide (0 < (t228.length:Int))=true:=zE c22
   have c22b1:decide (0 < t228.length)=true:=zE (by omega)
   clear c22
   replace H:=Option.bind_eq_some_iff.mp H
   obtain ⟨t233,A230,H⟩:=H
   replace H:(if t233=(-1) then (some ((⟨#[]⟩:ByteArray),0,0,(⟨#[]⟩:ByteArray),0,false)) else (if 0≤t233 then (if t233 < (l0_1.length:Int) then (some ((rd_T77 l0_1 t233).f0.f0,(rd_T77 l0_1 t233).f0.f1,(rd_T77 l0_1 t233).f0.f2,(rd_T77 l0_1 t233).f0.f3,t231,true)) else (none)) else (none)))=some (r1,r2,r3,r4,r5,r6):=H
   have A23:=AsZ.mk A230
   clear A230
   by_cases c24:t233=(-1)
   · rw [if_pos c24] at H
     have c24b0:(t233 == (-1))=true:=beq_iff_eq.mpr c24
     have c24b1:(t233 != (-1))=false:=bne_eq_false_iff_eq.mpr c24
     clear c24
     simp only [Option.some.injEq,Prod.mk.injEq] at H
     obtain ⟨rfl,rfl,rfl,rfl,rfl,rfl⟩:=H
     go_wp2_with (first|((with_reducible refine gcl (f:=40) rfl ?_);refine goesL_ (some 30) rfl rfl Tryd.func40 (by kernel_rfl) rfl #[.pointer (some ⟨gb223,0,none⟩),.agg #[.string a1,.int .i64 a2,.int .i64 0,.string (⟨#[]⟩:ByteArray)]] rfl (by (try simp only [zA,zC,zN]);first|done|rfl|(simp only [zM,zL];rfl)) ?_;(with_reducible refine (impl_Skip_seek.calls kj3 gb223 l0_0 l0_1 a1 a2 0 (⟨#[]⟩:ByteArray) t228 t231 w _ ?side1 ?side2 A21.out).mono ?_);(case side1=>apply IsS26F.to;repeat (first|(with_reducible first|exact HI223.out|apply IsS26F.alloc|apply IsS26F.drewN|apply IsS26F.drew|refine IsS26F.far ?_ NB223_224.out _)|exact HI223.out));(case side2=>repeat (first|(with_reducible first|exact HB.out|apply bwa|apply pbN|apply bw1|refine bws ?_ (IsS26F.ge HI223.out)|refine bws ?_ GE224.out)|exact HB.out));rintro e w25 ⟨v229,rfl,ho0,hi,hb,hk⟩;replace hi:=IsS26F.below (by repeat (first|(with_reducible first|exact HI223.out|apply IsS26F.alloc|apply IsS26F.drewN|apply IsS26F.drew)|exact HI223.out)) hk;replace hk:=KeepF.keep hk;refine ⟨_,rfl,?_⟩;have n0_:=AsZ.mk (KeepBut.blk hk (g':=gb224) (o := .cells #[.string (⟨#[]⟩:ByteArray),.int .i64 0,.int .i64 0,.string (⟨#[]⟩:ByteArray)] 28 (0,0)) (by (with_reducible repeat (first|refine kdN ?_ _|refine kd ?_|refine ka ?_ _));exact BK224.out) NB224_223.out (by simp));have n1_:=AsZ.mk (Kd.R_lower ho0 (bwz (by repeat (first|(with_reducible first|exact HB.out|apply bwa|apply pbN|apply bw1|refine bws ?_ (IsS26F.ge HI223.out)|refine bws ?_ GE224.out)|exact HB.out))));have n2_:=AsZ.mk (hb);have n3_:=AsZ.mk (hi);clear BK224;clear HB;clear HI223;have BK224:=n0_;have HO230:=n1_;have HB:=n2_;have HI223:=n3_;clear n0_ n1_ n2_ n3_;(try clear hb);(try clear hb2);(try clear hk);(try clear hi);(try clear ho0);obtain ⟨Ao26,co26,eo26⟩:=Kd.R_slice HO230.out;subst eo26;have p232:0≤(0:Int):=(by omega);have q232:0 < (t228.length:Int):=zD (by first|(with_reducible assumption)|assumption);obtain ⟨ad232,e232,hx232_0⟩:=Kd.at_int (Kd.R_reads' HO230.out).2.2 0 p232 q232;cases e232;have qi232:(0 < t228.length)=True:=eq_true (by omega);(try rw [show ((0:Int)).toNat=0 from rfl] at hx232_0);(try rw [Addr.add_zero'] at hx232_0);replace p232:=eq_true p232;replace q232:=eq_true q232)|((with_reducible refine gcl (f:=41) rfl ?_);refine goesL_ (some 36) rfl rfl Tryd.func41 (by kernel_rfl) rfl #[.pointer (some ⟨gb223,0,none⟩),.int .i64 (rd t228 0),.int .i64 0] rfl (by (try simp only [zA,zC,zN]);first|done|rfl|(simp only [zM,zL];rfl)) ?_;(with_reducible refine (impl_Skip_next.calls gb223 l0_0 l0_1 (rd t228 0) 0 t233 w _ ?side1 ?side2 A23.out).mono ?_);(case side1=>apply IsS26F.to;repeat (first|(with_reducible first|exact HI223.out|apply IsS26F.alloc|apply IsS26F.drewN|apply IsS26F.drew|refine IsS26F.far ?_ NB223_224.out _)|exact HI223.out));(case side2=>repeat (first|(with_reducible first|exact HB.out|apply bwa|apply pbN|apply bw1|refine bws ?_ (IsS26F.ge HI223.out)|refine bws ?_ GE224.out)|exact HB.out));rintro e w' ⟨rfl,⟨nd,rfl⟩⟩;refine ⟨_,rfl,?_⟩;(try (rw [drewN_self w25];generalize hq_:World.drewN w25 _=w25;have n0_:AsZ (Kd.R (Kd.int .i64) 3 w25 w.heap.size (fun _=>True) (.slice (some ad232) t228.length co26) t228):=⟨by rw [← hq_];exact (by (with_reducible repeat (first|apply Kd.R_alloc|apply Kd.R_drewN|apply Kd.R_drew));exact HO230.out)⟩;have n1_:AsZ (w25.heap[gb224]? = some (.cells #[.string (⟨#[]⟩:ByteArray),.int .i64 0,.int .i64 0,.string (⟨#[]⟩:ByteArray)] 28 (0,0))):=⟨by rw [← hq_];exact (by (with_reducible repeat (first|refine kdN ?_ _|refine kd ?_|refine ka ?_ _));exact BK224.out)⟩;have n2_:AsZ (IsS26F A0_0 c0_0 A0_1 c0_1 w w25 gb223 l0_0 l0_1):=⟨by rw [← hq_];exact (by repeat (first|(with_reducible first|exact HI223.out|apply IsS26F.alloc|apply IsS26F.drewN|apply IsS26F.drew|refine IsS26F.far ?_ NB223_224.out _)|exact HI223.out))⟩;have n3_:AsZ (Below w.heap.size w w25):=⟨by rw [← hq_];exact (by repeat (first|(with_reducible first|exact HB.out|apply bwa|apply pbN|apply bw1|refine bws ?_ (IsS26F.ge HI223.out)|refine bws ?_ GE224.out)|exact HB.out))⟩;clear HO230 BK224 HI223 HB hq_;have HO230:=n0_;have BK224:=n1_;have HI223:=n2_;have HB:=n3_;clear n0_ n1_ n2_ n3_));have hnb27:=NB224_223.out;have hnc27:=NB223_224.out;have hcz28_0:w25.cell? ⟨gb224,0,none⟩=some (.string (⟨#[]⟩:ByteArray)):=(kc BK224.out 0).trans rfl;have hcz28_1:w25.cell? ⟨gb224,1,none⟩=some (.int .i64 0):=(kc BK224.out 1).trans rfl;have hcz28_2:w25.cell? ⟨gb224,2,none⟩=some (.int .i64 0):=(kc BK224.out 2).trans rfl;have hcz28_3:w25.cell? ⟨gb224,3,none⟩=some (.string (⟨#[]⟩:ByteArray)):=(kc BK224.out 3).trans rfl;have hfz28_0:=kf BK224.out 0;have hfz28_1:=kf BK224.out 1;have hfz28_2:=kf BK224.out 2;have hfz28_3:=kf BK224.out 3))
     refine bodyPost_ret (results_ctt rfl _ _ gb224 28 #[.string (⟨#[]⟩:ByteArray),.int .i64 0,.int .i64 0,.string (⟨#[]⟩:ByteArray)] (0,0) _ rfl (by (with_reducible repeat (first|refine kdN ?_ _|refine kd ?_|refine ka ?_ _));refine blk_put (cs:=#[.string (⟨#[]⟩:ByteArray),.int .i64 0,.int .i64 0,.string (⟨#[]⟩:ByteArray)]) ?_ 3 _ rfl;(with_reducible repeat (first|refine kdN ?_ _|refine kd ?_|refine ka ?_ _));refine blk_put (cs:=#[.string (⟨#[]⟩:ByteArray),.int .i64 0,.int .i64 0,.string (⟨#[]⟩:ByteArray)]) ?_ 2 _ rfl;(with_reducible repeat (first|refine kdN ?_ _|refine kd ?_|refine ka ?_ _));refine blk_put (cs:=#[.string (⟨#[]⟩:ByteArray),.int .i64 0,.int .i64 0,.string (⟨#[]⟩:ByteArray)]) ?_ 1 _ rfl;(with_reducible repeat (first|refine kdN ?_ _|refine kd ?_|refine ka ?_ _));refine blk_put (cs:=#[.string (⟨#[]⟩:ByteArray),.int .i64 0,.int .i64 0,.string (⟨#[]⟩:ByteArray)]) ?_ 0 _ rfl;(with_reducible repeat (first|refine kdN ?_ _|refine kd ?_|refine ka ?_ _));exact BK224.out) Tryd.underlying28 rfl (by kernel_rfl)) rfl ?_
     exact ⟨by first|rfl|(simp [errW_none,errW_some]<;>rfl)|(simp [*,errW_none,errW_some]<;>rfl),by repeat (first|(with_reducible first|exact HB.out|apply bwa|apply pbN|apply bw1|refine bws ?_ (IsS26F.ge HI223.out)|refine bws ?_ GE224.out)|exact HB.out)⟩
   rw [if_neg c24] at H
   have c24b0:(t233 == (-1))=false:=beq_eq_false_iff_ne.mpr c24
   have c24b1:(t233 != (-1))=true:=bne_iff_ne.mpr c24
   by_cases c29:0≤t233
   rotate_left
   · rw [if_neg c29] at H
     exact absurd H (by simp)
   rw [if_pos c29] at H
   have c29b0:decide (0≤t233)=true:=zE c29
   clear c29
   by_cases c30:t233 < (l0_1.length:Int)
   rotate_left
   · rw [if_neg c30] at H
     exact absurd H (by simp)
   rw [if_pos c30] at H
   have c30b0:decide (t233 < (l0_1.length:Int))=true:=zE c30
   clear c30
   simp only [Option.some.injEq,Prod.mk.injEq] at H
   obtain ⟨rfl,rfl,rfl,rfl,rfl,rfl⟩:=H
   go_wp2_with (first|((with_reducible refine gcl (f:=40) rfl ?_);refine goesL_ (some 30) rfl rfl Tryd.func40 (by kernel_rfl) rfl #[.pointer (some ⟨gb223,0,none⟩),.agg #[.string a1,.int .i64 a2,.int .i64 0,.string (⟨#[]⟩:ByteArray)]] rfl (by (try simp only [zA,zC,zN]);first|done|rfl|(simp only [zM,zL];rfl)) ?_;(with_reducible refine (impl_Skip_seek.calls kj3 gb223 l0_0 l0_1 a1 a2 0 (⟨#[]⟩:ByteArray) t228 t231 w _ ?side1 ?side2 A21.out).mono ?_);(case side1=>apply IsS26F.to;repeat (first|(with_reducible first|exact HI223.out|apply IsS26F.alloc|apply IsS26F.drewN|apply IsS26F.drew|refine IsS26F.far ?_ NB223_224.out _)|exact HI223.out));(case side2=>repeat (first|(with_reducible first|exact HB.out|apply bwa|apply pbN|apply bw1|refine bws ?_ (IsS26F.ge HI223.out)|refine bws ?_ GE224.out)|exact HB.out));rintro e w31 ⟨v229,rfl,ho0,hi,hb,hk⟩;replace hi:=IsS26F.below (by repeat (first|(with_reducible first|exact HI223.out|apply IsS26F.alloc|apply IsS26F.drewN|apply IsS26F.drew)|exact HI223.out)) hk;replace hk:=KeepF.keep hk;refine ⟨_,rfl,?_⟩;have n0_:=AsZ.mk (KeepBut.blk hk (g':=gb224) (o := .cells #[.string (⟨#[]⟩:ByteArray),.int .i64 0,.int .i64 0,.string (⟨#[]⟩:ByteArray)] 28 (0,0)) (by (with_reducible repeat (first|refine kdN ?_ _|refine kd ?_|refine ka ?_ _));exact BK224.out) NB224_223.out (by simp));have n1_:=AsZ.mk (Kd.R_lower ho0 (bwz (by repeat (first|(with_reducible first|exact HB.out|apply bwa|apply pbN|apply bw1|refine bws ?_ (IsS26F.ge HI223.out)|refine bws ?_ GE224.out)|exact HB.out))));have n2_:=AsZ.mk (hb);have n3_:=AsZ.mk (hi);clear BK224;clear HB;clear HI223;have BK224:=n0_;have HO230:=n1_;have HB:=n2_;have HI223:=n3_;clear n0_ n1_ n2_ n3_;(try clear hb);(try clear hb2);(try clear hk);(try clear hi);(try clear ho0);obtain ⟨Ao32,co32,eo32⟩:=Kd.R_slice HO230.out;subst eo32;have p232:0≤(0:Int):=(by omega);have q232:0 < (t228.length:Int):=zD (by first|(with_reducible assumption)|assumption);obtain ⟨ad232,e232,hx232_0⟩:=Kd.at_int (Kd.R_reads' HO230.out).2.2 0 p232 q232;cases e232;have qi232:(0 < t228.length)=True:=eq_true (by omega);(try rw [show ((0:Int)).toNat=0 from rfl] at hx232_0);(try rw [Addr.add_zero'] at hx232_0);replace p232:=eq_true p232;replace q232:=eq_true q232)|((with_reducible refine gcl (f:=41) rfl ?_);refine goesL_ (some 36) rfl rfl Tryd.func41 (by kernel_rfl) rfl #[.pointer (some ⟨gb223,0,none⟩),.int .i64 (rd t228 0),.int .i64 0] rfl (by (try simp only [zA,zC,zN]);first|done|rfl|(simp only [zM,zL];rfl)) ?_;(with_reducible refine (impl_Skip_next.calls gb223 l0_0 l0_1 (rd t228 0) 0 t233 w _ ?side1 ?side2 A23.out).mono ?_);(case side1=>apply IsS26F.to;repeat (first|(with_reducible first|exact HI223.out|apply IsS26F.alloc|apply IsS26F.drewN|apply IsS26F.drew|refine IsS26F.far ?_ NB223_224.out _)|exact HI223.out));(case side2=>repeat (first|(with_reducible first|exact HB.out|apply bwa|apply pbN|apply bw1|refine bws ?_ (IsS26F.ge HI223.out)|refine bws ?_ GE224.out)|exact HB.out));rintro e w' ⟨rfl,⟨nd,rfl⟩⟩;refine ⟨_,rfl,?_⟩;(try (rw [drewN_self w31];generalize hq_:World.drewN w31 _=w31;have n0_:AsZ (Kd.R (Kd.int .i64) 3 w31 w.heap.size (fun _=>True) (.slice (some ad232) t228.length co32) t228):=⟨by rw [← hq_];exact (by (with_reducible repeat (first|apply Kd.R_alloc|apply Kd.R_drewN|apply Kd.R_drew));exact HO230.out)⟩;have n1_:AsZ (w31.heap[gb224]? = some (.cells #[.string (⟨#[]⟩:ByteArray),.int .i64 0,.int .i64 0,.string (⟨#[]⟩:ByteArray)] 28 (0,0))):=⟨by rw [← hq_];exact (by (with_reducible repeat (first|refine kdN ?_ _|refine kd ?_|refine ka ?_ _));exact BK224.out)⟩;have n2_:AsZ (IsS26F A0_0 c0_0 A0_1 c0_1 w w31 gb223 l0_0 l0_1):=⟨by rw [← hq_];exact (by repeat (first|(with_reducible first|exact HI223.out|apply IsS26F.alloc|apply IsS26F.drewN|apply IsS26F.drew|refine IsS26F.far ?_ NB223_224.out _)|exact HI223.out))⟩;have n3_:AsZ (Below w.heap.size w w31):=⟨by rw [← hq_];exact (by repeat (first|(with_reducible first|exact HB.out|apply bwa|apply pbN|apply bw1|refine bws ?_ (IsS26F.ge HI223.out)|refine bws ?_ GE224.out)|exact HB.out))⟩;clear HO230 BK224 HI223 HB hq_;have HO230:=n0_;have BK224:=n1_;have HI223:=n2_;have HB:=n3_;clear n0_ n1_ n2_ n3_));obtain ⟨ASz33_0,cSz33_0,ASz33_1,cSz33_1,⟨es0_,es1_,es2_,es3_⟩,HGz33,hgz33,HSz33_0,HSCz33_0,HSz33_1,HSCz33_1⟩:=IsS26F.ex HI223.out;subst es0_;subst es1_;subst es2_;subst es3_;have hcz33_0:=cellS26_0 HGz33;have hcz33_1:=cellS26_1 HGz33;clear HGz33 hgz33;have p234:0≤(t233:Int):=zD (by first|(with_reducible assumption)|assumption);have q234:t233 < (l0_1.length:Int):=zD (by first|(with_reducible assumption)|assumption);obtain ⟨ad234,A234_4,c234_4,e234,hx234_0,hx234_1,hx234_2,hx234_3,hx234_4,hl234_4,hi234_4⟩:=at_T77 HSz33_1 t233 p234 q234;cases e234;replace hx234_0:=pcb HB.out hx234_0;replace hx234_1:=pcb HB.out hx234_1;replace hx234_2:=pcb HB.out hx234_2;replace hx234_3:=pcb HB.out hx234_3;replace hx234_4:=pcb HB.out hx234_4;have HR234_4:=AsZ.mk hi234_4;have HC234_4:=AsZ.mk hl234_4;clear hi234_4 hl234_4;replace p234:=eq_true p234;replace q234:=eq_true q234;have hnb34:=NB224_223.out;have hnc34:=NB223_224.out;have hcz35_0:w31.cell? ⟨gb224,0,none⟩=some (.string (⟨#[]⟩:ByteArray)):=(kc BK224.out 0).trans rfl;have hcz35_1:w31.cell? ⟨gb224,1,none⟩=some (.int .i64 0):=(kc BK224.out 1).trans rfl;have hcz35_2:w31.cell? ⟨gb224,2,none⟩=some (.int .i64 0):=(kc BK224.out 2).trans rfl;have hcz35_3:w31.cell? ⟨gb224,3,none⟩=some (.string (⟨#[]⟩:ByteArray)):=(kc BK224.out 3).trans rfl;have hfz35_0:=kf BK224.out 0;have hfz35_1:=kf BK224.out 1;have hfz35_2:=kf BK224.out 2;have hfz35_3:=kf BK224.out 3))
   refine bodyPost_ret (results_ctt rfl _ _ gb224 28 #[.string ((rd_T77 l0_1 t233).f0.f0),.int .i64 ((rd_T77 l0_1 t233).f0.f1),.int .i64 ((rd_T77 l0_1 t233).f0.f2),.string ((rd_T77 l0_1 t233).f0.f3)] (0,0) _ rfl (by (with_reducible repeat (first|refine kdN ?_ _|refine kd ?_|refine ka ?_ _));refine blk_put (cs:=#[.string ((rd_T77 l0_1 t233).f0.f0),.int .i64 ((rd_T77 l0_1 t233).f0.f1),.int .i64 ((rd_T77 l0_1 t233).f0.f2),.string (⟨#[]⟩:ByteArray)]) ?_ 3 _ rfl;(with_reducible repeat (first|refine kdN ?_ _|refine kd ?_|refine ka ?_ _));refine blk_put (cs:=#[.string ((rd_T77 l0_1 t233).f0.f0),.int .i64 ((rd_T77 l0_1 t233).f0.f1),.int .i64 0,.string (⟨#[]⟩:ByteArray)]) ?_ 2 _ rfl;(with_reducible repeat (first|refine kdN ?_ _|refine kd ?_|refine ka ?_ _));refine blk_put (cs:=#[.string ((rd_T77 l0_1 t233).f0.f0),.int .i64 0,.int .i64 0,.string (⟨#[]⟩:ByteArray)]) ?_ 1 _ rfl;(with_reducible repeat (first|refine kdN ?_ _|refine kd ?_|refine ka ?_ _));refine blk_put (cs:=#[.string (⟨#[]⟩:ByteArray),.int .i64 0,.int .i64 0,.string (⟨#[]⟩:ByteArray)]) ?_ 0 _ rfl;(with_reducible repeat (first|refine kdN ?_ _|refine kd ?_|refine ka ?_ _));exact BK224.out) Tryd.underlying28 rfl (by kernel_rfl)) rfl ?_
   exact ⟨by first|rfl|(simp [errW_none,errW_some]<;>rfl)|(simp [*,errW_none,errW_some]<;>rfl),by repeat (first|(with_reducible first|exact HB.out|apply bwa|apply pbN|apply bw1|refine bws ?_ (IsS26F.ge HI223.out)|refine bws ?_ GE224.out)|exact HB.out)⟩
end Go.Proofs.YtffjlpphcjfdgaaDoor.MFnExactFindSkip
