-- Written by a program of this session out of the translation. Not trusted: Lean checks it.
import Derived.Test.YtjacppphgccphaaMFnExactTableBytesx0
import Derived.Test.YtjacppphgccphaaMFnExactTableBytesx11
import Derived.Test.YtjacppphgccphaaMFnExactTableBytesx12
import Derived.Test.YtjacppphgccphaaMFnExactTableBytesx13
import Derived.Test.YtjacppphgccphaaMFnExactTableBytesx14
namespace Go.Proofs.Ytjacppphgccphaa.MFnExactTableBytes
-- shrunk
open Go.RowKit Go.Proofs.YtjacppphgccphaaW.PrintWords Go.Proofs.YtjacppphgccphaaW.PrintLast Go.Proofs.YtjacppphgccphaaW.PrintMore Go.Proofs.YtjacppphgccphaaX
attribute [local go_sem] max2_int min2_int max_two min_two max_three min_three max_four min_four str_gtr str_leq str_geq cell_twice
set_option linter.unusedVariables false
set_option linter.unusedSimpArgs false
/-! ### impl_build: function 56 -/
def impl_build.l0 : Nat → List (S27) → ByteArray → ByteArray → Int → List (S27) → List (S103) → Int → ByteArray → Int → Option ((List (S27)) × (List (S103)) × Int × ByteArray × Int × ByteArray)
 | 0, _, _, _, _, _, _, _, _, _ => none
 | k + 1, x0, x5, x6, x7, x364000, x364001, x364002, x364003, x364004 => if x7 < (x0.length : Int) then (if 0 ≤ x7 then (if x7 ≤ (mn (wrap64 (x7 + 8)) (x0.length : Int)) then (if (mn (wrap64 (x7 + 8)) (x0.length : Int)) ≤ (x0.length : Int) then ((some ((x0.take ((mn (wrap64 (x7 + 8)) (x0.length : Int)) : Int).toNat).drop (x7 : Int).toNat : List (S27))).bind fun y364 => ((impl_block.f k y364).bind fun bt369 => (if 0 ≤ (wrap64 ((y364.length : Int) - 1)) then (if (wrap64 ((y364.length : Int) - 1)) < (y364.length : Int) then (if x364001.length < 3518437208883 then ((impl_sized.f k ((rd_T27 y364 (wrap64 ((y364.length : Int) - 1))).f0)).bind fun t378 => ((impl_varBytes.f k ((rd_T27 y364 (wrap64 ((y364.length : Int) - 1))).f1)).bind fun t379 => (if t378.size + t379.size ≤ 9223372036854775807 then ((impl_varBytes.f k (x5.size : Int)).bind fun t380 => (if t378.size + t379.size + t380.size ≤ 9223372036854775807 then ((impl_varBytes.f k (bt369.1.size : Int)).bind fun t381 => (if (t378.size + t379.size) + t380.size + t381.size ≤ 9223372036854775807 then (if x6.size + (((t378.size + t379.size) + t380.size) + t381.size) ≤ 9223372036854775807 then (if x5.size + bt369.1.size ≤ 9223372036854775807 then (impl_build.l0 k x0 (x5 ++ bt369.1) (x6 ++ (((t378 ++ t379) ++ t380) ++ t381)) (wrap64 (x7 + 8)) x364000 (x364001 ++ [(⟨(rd_T27 y364 (wrap64 ((y364.length : Int) - 1))).f0, (rd_T27 y364 (wrap64 ((y364.length : Int) - 1))).f1, (x5.size : Int), (bt369.1.size : Int)⟩ : S103)]) x364002 x364003 x364004) else (none)) else (none)) else (none))) else (none))) else (none)))) else (none)) else (none)) else (none)))) else (none)) else (none)) else (none)) else ((impl_tableKeys.f k x0).bind fun t382 => ((impl_FilterOf.f k t382 4).bind fun bt385 => ((impl_lowFirst.f k (((x5.size : Int)) % 4294967296) 4).bind fun t389 => ((impl_frame.f k x6).bind fun t390 => (if x5.size + t390.size ≤ 9223372036854775807 then ((impl_frame.f k bt385.2.1).bind fun t391 => (if x5.size + t390.size + t391.size ≤ 9223372036854775807 then (if (x5.size + t390.size) + t391.size + t389.size ≤ 9223372036854775807 then ((impl_SumOf.f k t389).bind fun t392 => ((impl_lowFirst.f k t392 4).bind fun t393 => (if ((x5.size + t390.size) + t391.size) + t389.size + t393.size ≤ 9223372036854775807 then (some (x364000, x364001, bt385.1, bt385.2.1, bt385.2.2.1, (((x5 ++ t390) ++ t391) ++ t389) ++ t393)) else (none)))) else (none)) else (none))) else (none))))))
def impl_build.f (k : Nat) (l0 : List (S27)) : Option ((List (S27)) × (List (S103)) × Int × ByteArray × Int × ByteArray) := impl_build.l0 k l0 (⟨#[]⟩ : ByteArray) (⟨#[]⟩ : ByteArray) 0 l0 ([] : List (S103)) 0 (⟨#[]⟩ : ByteArray) 0
theorem impl_build.mono_l : ∀ k, (∀ y0 y1 y2 y3 y4 y5 y6 y7 y8, LeO (impl_build.l0 k y0 y1 y2 y3 y4 y5 y6 y7 y8) (impl_build.l0 (k + 1) y0 y1 y2 y3 y4 y5 y6 y7 y8))
 | 0 => fun _ _ _ _ _ _ _ _ _ r h => by simp [impl_build.l0] at h
 | k + 1 => by
  have ih0 := impl_build.mono_l k
  ·intro y0 y1 y2 y3 y4 y5 y6 y7 y8
   unfold impl_build.l0
   repeat' first
   | (with_reducible exact ih0 _ _ _ _ _ _ _ _ _)
   | (with_reducible exact impl_FilterOf.mono _ _ _)
   | (with_reducible exact impl_SumOf.mono _ _)
   | (with_reducible exact impl_block.mono _ _)
   | (with_reducible exact impl_frame.mono _ _)
   | (with_reducible exact impl_lowFirst.mono _ _ _)
   | (with_reducible exact impl_sized.mono _ _)
   | (with_reducible exact impl_tableKeys.mono _ _)
   | (with_reducible exact impl_varBytes.mono _ _)
   | (with_reducible exact LeO.refl _)
   | (with_reducible exact LeO.none _)
   | (with_reducible refine LeO.ite ?_ ?_)
   | (with_reducible refine LeO.bind ?_ (fun _ => ?_))
   | exact ih0 _ _ _ _ _ _ _ _ _
   | exact impl_FilterOf.mono _ _ _
   | exact impl_SumOf.mono _ _
   | exact impl_block.mono _ _
   | exact impl_frame.mono _ _
   | exact impl_lowFirst.mono _ _ _
   | exact impl_sized.mono _ _
   | exact impl_tableKeys.mono _ _
   | exact impl_varBytes.mono _ _
   | exact LeO.none _
   | refine LeO.ite ?_ ?_
   | refine LeO.bind ?_ (fun _ => ?_)
theorem impl_build.mono : ∀ a0 k, LeO (impl_build.f k a0) (impl_build.f (k + 1) a0) := by
 intro a0 k
 have ih0 := impl_build.mono_l k
 unfold impl_build.f
 repeat' first
   | (with_reducible exact ih0 _ _ _ _ _ _ _ _ _)
   | (with_reducible exact impl_FilterOf.mono _ _ _)
   | (with_reducible exact impl_SumOf.mono _ _)
   | (with_reducible exact impl_block.mono _ _)
   | (with_reducible exact impl_frame.mono _ _)
   | (with_reducible exact impl_lowFirst.mono _ _ _)
   | (with_reducible exact impl_sized.mono _ _)
   | (with_reducible exact impl_tableKeys.mono _ _)
   | (with_reducible exact impl_varBytes.mono _ _)
   | (with_reducible exact LeO.refl _)
   | (with_reducible exact LeO.none _)
   | (with_reducible refine LeO.ite ?_ ?_)
   | (with_reducible refine LeO.bind ?_ (fun _ => ?_))
   | exact ih0 _ _ _ _ _ _ _ _ _
   | exact impl_FilterOf.mono _ _ _
   | exact impl_SumOf.mono _ _
   | exact impl_block.mono _ _
   | exact impl_frame.mono _ _
   | exact impl_lowFirst.mono _ _ _
   | exact impl_sized.mono _ _
   | exact impl_tableKeys.mono _ _
   | exact impl_varBytes.mono _ _
   | exact LeO.none _
   | refine LeO.ite ?_ ?_
   | refine LeO.bind ?_ (fun _ => ?_)
def impl_build.T9 : Bool × List (List Nat × List Nat) := (true, [([], []), ([], []), ([1], [1]), ([2], [2]), ([], []), ([4], [4]), ([5, 3], [5]), ([3, 6], [3, 6]), ([], []), ([8], [8]), ([9, 6], [9]), ([7, 10], [7, 10]), ([], []), ([12], [12]), ([13, 10], [13]), ([11, 14], [11, 14]), ([0, 15], [0, 15]), ([16, 14, 0, 1, 2, 3, 4, 5, 6, 7, 8, 9, 10, 11, 12, 13, 14, 15, 16], [0, 16])])
def impl_build.B9 : List Nat := [0, 0, 2, 6, 0, 16, 62, 126, 0, 256, 894, 2046, 0, 4096, 14206, 32766, 65535, 131071]
theorem impl_build.tab9 : rtab .any (opsOf Try.f56 9) = impl_build.T9 := by kernel_rfl
theorem impl_build.bits9 : waitsOk impl_build.T9.2 impl_build.B9 = true := by kernel_rfl
def impl_build.T13 : Bool × List (List Nat × List Nat) := (true, [([], []), ([], []), ([], []), ([2], [2]), ([1, 3], [1, 3]), ([], []), ([5], [5]), ([6], [6]), ([7, 3], [7]), ([4, 8], [4, 8]), ([], []), ([9, 10], [9, 10]), ([], []), ([12, 8], [12]), ([13, 13], [13]), ([11, 14], [11, 14]), ([0, 14, 0], [0]), ([15, 16, 0, 1, 2, 3, 4, 5, 6, 7, 8, 9, 10, 11, 12, 13, 14, 15, 16], [15])])
def impl_build.B13 : List Nat := [0, 0, 0, 4, 14, 0, 32, 96, 236, 510, 0, 2046, 0, 4588, 12780, 32766, 29165, 131071]
theorem impl_build.tab13 : rtab .any (opsOf Try.f56 13) = impl_build.T13 := by kernel_rfl
theorem impl_build.bits13 : waitsOk impl_build.T13.2 impl_build.B13 = true := by kernel_rfl
set_option maxHeartbeats 8000000 in
set_option maxRecDepth 100000 in
theorem impl_build.calls (k : Nat) (P0_ : Nat → Prop) (A0 : Option Addr) (c0 : Nat) (l0 : List (S27)) (r1 : List (S27)) (r2 : List (S103)) (r3 : Int) (r4 : ByteArray) (r5 : Int) (r6 : ByteArray) (w : World) (hs0 : Kd.V k27 27 w w.heap.size (fun k_ => P0_ k_) (.slice A0 l0.length c0) l0) (h : impl_build.f k l0 = some (r1, r2, r3, r4, r5, r6)) :
  Calls Try.prog 56 #[.slice A0 l0.length c0] w fun e w' => ∃ v0_ v1_ : Value, e = .returned (.tuple #[.agg #[v0_, v1_, .int .i64 r3, .string r4, .int .i64 r5], .string r6]) ∧ Kd.V k27 27 w' w.heap.size (fun k_ => (P0_ k_ ∨ w.heap.size ≤ k_) ∧ some k_ ≠ (v1_ : Value).ownBlock) v0_ r1 ∧ Kd.R k103 103 w' w.heap.size (fun k_ => (w.heap.size ≤ k_)) v1_ r2 ∧ Below w.heap.size w w' := by
 have hu82 := Try.underlying82
 have hu27 := Try.underlying27
 have hu103 := Try.underlying103
 have hu80 := Try.underlying80
 have HO0 := Aside0.mk (show Kd.V k27 27 w w.heap.size (fun k_ => (P0_ k_ ∨ w.heap.size ≤ k_)) (.slice A0 l0.length c0) l0 from Kd.V_mono hs0 (fun k_ hk => .inl hk))
 have HB := Aside0.mk (Below.refl w.heap.size w)
 have H : (impl_build.l0 k l0 (⟨#[]⟩ : ByteArray) (⟨#[]⟩ : ByteArray) 0 l0 ([] : List (S103)) 0 (⟨#[]⟩ : ByteArray) 0) = some (r1, r2, r3, r4, r5, r6) := h
 clear h
 have H' := Aside0.mk H
 clear H
 go_enter Try.func56, Try.ntmps56
 go_wp2_with (first | ((with_reducible refine gate_dst (N := 2) rfl ?_); refine box_event ?hg (N := 2) ?hd (cs := #[.slice none 0 0, .slice none 0 0, .int .i64 0, .string (⟨#[]⟩ : ByteArray), .int .i64 0]) (t := 82) ?hr ?_; (case hd => rfl); (case hg => rfl); (case hr => first | (go_simp; done) | (go_simp; rfl)); intro gb362 hg w2 hbox hb; have n0_ := Aside0.mk (Kd.V_below (Kd.V_elderB (by (with_reducible repeat (first | apply Kd.V_alloc | apply Kd.V_drewN | apply Kd.V_drew)); exact HO0.out) gb362 (Nat.le_of_eq hg.symm)) hb); have n1_ := Aside0.mk (below_step (by repeat (first | (with_reducible first | exact HB.out | apply below_alloc | apply pw_below_drewN | apply below_drew1) | exact HB.out)) hb); have n2_ := Aside0.mk (hbox); have n3_ := Aside0.mk ((by rw [hg]; exact (below_size (by repeat (first | (with_reducible first | exact HB.out | apply below_alloc | apply pw_below_drewN | apply below_drew1) | exact HB.out))) : w.heap.size ≤ gb362)); have n4_ := Aside0.mk ((by rw [hg]; exact (below_size (by repeat (first | (with_reducible first | exact HB.out | apply below_alloc | apply pw_below_drewN | apply below_drew1) | exact HB.out))) : w.heap.size ≤ gb362)); clear HO0; clear HB; have HO0 := n0_; have HB := n1_; have BK362 := n2_; have GW362 := n3_; have GE362 := n4_; clear n0_ n1_ n2_ n3_ n4_; clear hb hbox hg) | ((with_reducible refine gate_dst (N := 4) rfl ?_); refine box_event ?hg (N := 4) ?hd (cs := #[.slice none 0 0, .slice none 0 0, .int .i64 0, .string (⟨#[]⟩ : ByteArray), .int .i64 0]) (t := 82) ?hr ?_; (case hd => rfl); (case hg => rfl); (case hr => first | (go_simp; done) | (go_simp; rfl)); intro gb363 hg w3 hbox hb; have n0_ := Aside0.mk (Kd.V_below (Kd.V_elderB (by (with_reducible repeat (first | apply Kd.V_alloc | apply Kd.V_drewN | apply Kd.V_drew)); exact HO0.out) gb363 (Nat.le_of_eq hg.symm)) hb); have n1_ := Aside0.mk (blk_below (g := gb362) (o := .cells #[.slice none 0 0, .slice none 0 0, .int .i64 0, .string (⟨#[]⟩ : ByteArray), .int .i64 0] 82 (0, 0)) (by (with_reducible repeat (first | refine blk_drewN ?_ _ | refine blk_drew ?_ | refine blk_alloc ?_ _)); exact BK362.out) hb); have n2_ := Aside0.mk (below_step (by repeat (first | (with_reducible first | exact HB.out | apply below_alloc | apply pw_below_drewN | apply below_drew1 | refine below_set ?_ GE362.out) | exact HB.out)) hb); have n3_ := Aside0.mk (hbox); have n4_ := Aside0.mk ((by rw [hg]; exact (below_size (by repeat (first | (with_reducible first | exact HB.out | apply below_alloc | apply pw_below_drewN | apply below_drew1 | refine below_set ?_ GE362.out) | exact HB.out))) : w.heap.size ≤ gb363)); have n5_ := Aside0.mk ((by rw [hg]; exact (below_size (by repeat (first | (with_reducible first | exact HB.out | apply below_alloc | apply pw_below_drewN | apply below_drew1 | refine below_set ?_ GE362.out) | exact HB.out))) : w.heap.size ≤ gb363)); have n6_ := Aside0.mk ((by rw [hg]; exact Nat.ne_of_lt (blk_lt (g := gb362) (o := .cells #[.slice none 0 0, .slice none 0 0, .int .i64 0, .string (⟨#[]⟩ : ByteArray), .int .i64 0] 82 (0, 0)) (by (with_reducible repeat (first | refine blk_drewN ?_ _ | refine blk_drew ?_ | refine blk_alloc ?_ _)); exact BK362.out)) : gb362 ≠ gb363)); have n7_ := Aside0.mk ((by rw [hg]; exact Nat.ne_of_gt (blk_lt (g := gb362) (o := .cells #[.slice none 0 0, .slice none 0 0, .int .i64 0, .string (⟨#[]⟩ : ByteArray), .int .i64 0] 82 (0, 0)) (by (with_reducible repeat (first | refine blk_drewN ?_ _ | refine blk_drew ?_ | refine blk_alloc ?_ _)); exact BK362.out)) : gb363 ≠ gb362)); clear HO0; clear BK362; clear HB; have HO0 := n0_; have BK362 := n1_; have HB := n2_; have BK363 := n3_; have GW363 := n4_; have GE363 := n5_; have NB362_363 := n6_; have NB363_362 := n7_; clear n0_ n1_ n2_ n3_ n4_ n5_ n6_ n7_; clear hb hbox hg; have hnb4 := NB363_362.out; have hnc4 := NB362_363.out; have hcz5_0 : w3.cell? ⟨gb363, 0, none⟩ = some (.slice none 0 0) := (blk_cell BK363.out 0).trans rfl; have hcz5_1 : w3.cell? ⟨gb363, 1, none⟩ = some (.slice none 0 0) := (blk_cell BK363.out 1).trans rfl; have hcz5_2 : w3.cell? ⟨gb363, 2, none⟩ = some (.int .i64 0) := (blk_cell BK363.out 2).trans rfl; have hcz5_3 : w3.cell? ⟨gb363, 3, none⟩ = some (.string (⟨#[]⟩ : ByteArray)) := (blk_cell BK363.out 3).trans rfl; have hcz5_4 : w3.cell? ⟨gb363, 4, none⟩ = some (.int .i64 0) := (blk_cell BK363.out 4).trans rfl; have hfz5_0 := blk_frozen BK363.out 0; have hfz5_1 := blk_frozen BK363.out 1; have hfz5_2 := blk_frozen BK363.out 2; have hfz5_3 := blk_frozen BK363.out 3; have hfz5_4 := blk_frozen BK363.out 4))
 go_loopg [5, 6, 7] k (fun kq v5 v6 v7 w' => ∃ (x5_1 : ByteArray) (x6_1 : ByteArray) (x7_1 : Int) (x364001_1 : List (S103)) (u364001 : Value), v5 = .string x5_1 ∧ v6 = .string x6_1 ∧ v7 = .int .i64 x7_1 ∧ Aside0 (impl_build.l0 kq l0 x5_1 x6_1 x7_1 l0 x364001_1 0 (⟨#[]⟩ : ByteArray) 0 = some (r1, r2, r3, r4, r5, r6)) ∧ Aside0 (kq ≤ k) ∧ Aside0 (Kd.V k27 27 w' w.heap.size (fun k_ => (P0_ k_ ∨ w.heap.size ≤ k_) ∧ some k_ ≠ (u364001 : Value).ownBlock ∧ k_ ≠ gb362 ∧ k_ ≠ gb363) (.slice A0 l0.length c0) l0) ∧ Aside0 (Kd.V k27 27 w' w.heap.size (fun k_ => (P0_ k_ ∨ w.heap.size ≤ k_) ∧ some k_ ≠ (u364001 : Value).ownBlock ∧ k_ ≠ gb362 ∧ k_ ≠ gb363) (.slice A0 l0.length c0) l0) ∧ Aside0 (Kd.R k103 103 w' w.heap.size (fun k_ => (w.heap.size ≤ k_)) u364001 x364001_1) ∧ Aside0 (w'.heap[gb362]? = some (.cells #[(.slice none 0 0), (.slice none 0 0), .int .i64 0, .string (⟨#[]⟩ : ByteArray), .int .i64 0] 82 (0, 0))) ∧ Aside0 (w'.heap[gb363]? = some (.cells #[(.slice A0 l0.length c0), u364001, .int .i64 0, .string (⟨#[]⟩ : ByteArray), .int .i64 0] 82 (0, 0))) ∧ Aside0 (Below w.heap.size w w'))
 case atStart => exact ⟨((⟨#[]⟩ : ByteArray)), ((⟨#[]⟩ : ByteArray)), (0), (([] : List (S103))), (.slice none 0 0), (by first | rfl | (simp; done) | (simp [*]; done)), (by first | rfl | (simp; done) | (simp [*]; done)), (by first | rfl | (simp; done) | (simp [*]; done)), H', ⟨Nat.le_refl _⟩, ⟨by (with_reducible repeat (first | apply Kd.V_alloc | apply Kd.V_drewN | apply Kd.V_drew)); exact Kd.V_mono (Kd.V_far (p := ⟨gb363, 4, none⟩) (Kd.V_far (p := ⟨gb363, 3, none⟩) (Kd.V_far (p := ⟨gb363, 2, none⟩) (Kd.V_far (p := ⟨gb363, 1, none⟩) (Kd.V_far (p := ⟨gb363, 0, none⟩) (Kd.V_mono HO0.out (fun k_ hk => (⟨hk, hk.2⟩ : _ ∧ k_ ≠ gb363))) (fun _ hk => hk.2) (.slice A0 l0.length c0)) (fun _ hk => hk.2) (.slice none 0 0)) (fun _ hk => hk.2) (.int .i64 0)) (fun _ hk => hk.2) (.string (⟨#[]⟩ : ByteArray))) (fun _ hk => hk.2) (.int .i64 0)) (fun _ hk => ⟨hk.1.1.1, ⟨(by simp [Value.ownBlock]), ⟨hk.1.1.2, hk.1.2⟩⟩⟩)⟩, ⟨by (with_reducible repeat (first | apply Kd.V_alloc | apply Kd.V_drewN | apply Kd.V_drew)); exact Kd.V_mono (Kd.V_far (p := ⟨gb363, 4, none⟩) (Kd.V_far (p := ⟨gb363, 3, none⟩) (Kd.V_far (p := ⟨gb363, 2, none⟩) (Kd.V_far (p := ⟨gb363, 1, none⟩) (Kd.V_far (p := ⟨gb363, 0, none⟩) (Kd.V_mono HO0.out (fun k_ hk => (⟨hk, hk.2⟩ : _ ∧ k_ ≠ gb363))) (fun _ hk => hk.2) (.slice A0 l0.length c0)) (fun _ hk => hk.2) (.slice none 0 0)) (fun _ hk => hk.2) (.int .i64 0)) (fun _ hk => hk.2) (.string (⟨#[]⟩ : ByteArray))) (fun _ hk => hk.2) (.int .i64 0)) (fun _ hk => ⟨hk.1.1.1, ⟨(by simp [Value.ownBlock]), ⟨hk.1.1.2, hk.1.2⟩⟩⟩)⟩, ⟨by first | exact Kd.R_nil _ _ _ _ _ | exact Kd.N_nil _ _ _ _ _ | exact Kd.V_nil _ _ _ _ _ | exact Kd.Q_nil _ _ _ _ _ | exact Kd.S_nil _ _ _ _ _⟩, ⟨by (with_reducible repeat (first | refine blk_drewN ?_ _ | refine blk_drew ?_ | refine blk_alloc ?_ _)); refine blk_far ?_ NB362_363.out _; (with_reducible repeat (first | refine blk_drewN ?_ _ | refine blk_drew ?_ | refine blk_alloc ?_ _)); refine blk_far ?_ NB362_363.out _; (with_reducible repeat (first | refine blk_drewN ?_ _ | refine blk_drew ?_ | refine blk_alloc ?_ _)); refine blk_far ?_ NB362_363.out _; (with_reducible repeat (first | refine blk_drewN ?_ _ | refine blk_drew ?_ | refine blk_alloc ?_ _)); refine blk_far ?_ NB362_363.out _; (with_reducible repeat (first | refine blk_drewN ?_ _ | refine blk_drew ?_ | refine blk_alloc ?_ _)); refine blk_far ?_ NB362_363.out _; (with_reducible repeat (first | refine blk_drewN ?_ _ | refine blk_drew ?_ | refine blk_alloc ?_ _)); exact BK362.out⟩, ⟨by (with_reducible repeat (first | refine blk_drewN ?_ _ | refine blk_drew ?_ | refine blk_alloc ?_ _)); refine blk_put (cs := #[.slice A0 l0.length c0, .slice none 0 0, .int .i64 0, .string (⟨#[]⟩ : ByteArray), .int .i64 0]) ?_ 4 _ rfl; (with_reducible repeat (first | refine blk_drewN ?_ _ | refine blk_drew ?_ | refine blk_alloc ?_ _)); refine blk_put (cs := #[.slice A0 l0.length c0, .slice none 0 0, .int .i64 0, .string (⟨#[]⟩ : ByteArray), .int .i64 0]) ?_ 3 _ rfl; (with_reducible repeat (first | refine blk_drewN ?_ _ | refine blk_drew ?_ | refine blk_alloc ?_ _)); refine blk_put (cs := #[.slice A0 l0.length c0, .slice none 0 0, .int .i64 0, .string (⟨#[]⟩ : ByteArray), .int .i64 0]) ?_ 2 _ rfl; (with_reducible repeat (first | refine blk_drewN ?_ _ | refine blk_drew ?_ | refine blk_alloc ?_ _)); refine blk_put (cs := #[.slice A0 l0.length c0, .slice none 0 0, .int .i64 0, .string (⟨#[]⟩ : ByteArray), .int .i64 0]) ?_ 1 _ rfl; (with_reducible repeat (first | refine blk_drewN ?_ _ | refine blk_drew ?_ | refine blk_alloc ?_ _)); refine blk_put (cs := #[.slice none 0 0, .slice none 0 0, .int .i64 0, .string (⟨#[]⟩ : ByteArray), .int .i64 0]) ?_ 0 _ rfl; (with_reducible repeat (first | refine blk_drewN ?_ _ | refine blk_drew ?_ | refine blk_alloc ?_ _)); exact BK363.out⟩, ⟨by repeat (first | (with_reducible first | exact HB.out | apply below_alloc | apply pw_below_drewN | apply below_drew1 | refine below_set ?_ GE362.out | refine below_set ?_ GE363.out) | exact HB.out)⟩⟩
 case round =>
  clear H'
  try clear p2
  try clear c4
  try clear c5
  try clear hcz5_0
  try clear hcz5_1
  try clear hcz5_2
  try clear hcz5_3
  try clear hcz5_4
  try clear hfz5_0
  try clear hfz5_1
  try clear hfz5_2
  try clear hfz5_3
  try clear hfz5_4
  obtain ⟨x5_1, x6_1, x7_1, x364001_1, u364001, rfl, rfl, rfl, HA, HK1, HO_0, HO_364000, HO_364001, BK362, BK363, HB⟩ := hrel
  cases gk with
  | zero => exact absurd HA.out (by simp [impl_build.l0])
  | succ k1 =>
   have H := HA.out
   clear HA
   simp only [impl_build.l0] at H
   by_cases c6 : x7_1 < (l0.length : Int)
   ·rw [if_pos c6] at H
    have c6b0 : decide (x7_1 < (l0.length : Int)) = true := decide_eq_true c6
    clear c6
    obtain ⟨ji7, hji7⟩ : ∃ j_ : Int, (mn (wrap64 (x7_1 + 8)) (l0.length : Int)) = j_ := ⟨_, rfl⟩
    replace H : (if 0 ≤ x7_1 then (if x7_1 ≤ (ji7) then (if (ji7) ≤ (l0.length : Int) then ((some ((l0.take ((ji7) : Int).toNat).drop (x7_1 : Int).toNat : List (S27))).bind fun y364 => ((impl_block.f k1 y364).bind fun bt369 => (if 0 ≤ (wrap64 ((y364.length : Int) - 1)) then (if (wrap64 ((y364.length : Int) - 1)) < (y364.length : Int) then (if x364001_1.length < 3518437208883 then ((impl_sized.f k1 ((rd_T27 y364 (wrap64 ((y364.length : Int) - 1))).f0)).bind fun t378 => ((impl_varBytes.f k1 ((rd_T27 y364 (wrap64 ((y364.length : Int) - 1))).f1)).bind fun t379 => (if t378.size + t379.size ≤ 9223372036854775807 then ((impl_varBytes.f k1 (x5_1.size : Int)).bind fun t380 => (if t378.size + t379.size + t380.size ≤ 9223372036854775807 then ((impl_varBytes.f k1 (bt369.1.size : Int)).bind fun t381 => (if (t378.size + t379.size) + t380.size + t381.size ≤ 9223372036854775807 then (if x6_1.size + (((t378.size + t379.size) + t380.size) + t381.size) ≤ 9223372036854775807 then (if x5_1.size + bt369.1.size ≤ 9223372036854775807 then (impl_build.l0 k1 l0 (x5_1 ++ bt369.1) (x6_1 ++ (((t378 ++ t379) ++ t380) ++ t381)) (wrap64 (x7_1 + 8)) l0 (x364001_1 ++ [(⟨(rd_T27 y364 (wrap64 ((y364.length : Int) - 1))).f0, (rd_T27 y364 (wrap64 ((y364.length : Int) - 1))).f1, (x5_1.size : Int), (bt369.1.size : Int)⟩ : S103)]) 0 (⟨#[]⟩ : ByteArray) 0) else (none)) else (none)) else (none))) else (none))) else (none)))) else (none)) else (none)) else (none)))) else (none)) else (none)) else (none)) = some (r1, r2, r3, r4, r5, r6) := by first | (rw [hji7] at H; exact H) | (simp only [hji7] at H ⊢; exact H)
    have hji7_ : (if (l0.length : Int) < (wrap64 (x7_1 + 8)) then (l0.length : Int) else (wrap64 (x7_1 + 8))) = ji7 := hji7
    by_cases c8 : 0 ≤ x7_1
    ·rw [if_pos c8] at H
     have c8b0 := eq_true c8
     have c8b1 : decide (0 ≤ x7_1) = true := decide_eq_true c8
     clear c8
     by_cases c9 : x7_1 ≤ (ji7)
     ·rw [if_pos c9] at H
      have c9b0 := eq_true c9
      have c9b1 : decide (x7_1 ≤ (ji7)) = true := decide_eq_true c9
      clear c9
      by_cases c10 : (ji7) ≤ (l0.length : Int)
      ·rw [if_pos c10] at H
       have c10b0 := eq_true c10
       have c10b1 : decide ((ji7) ≤ (l0.length : Int)) = true := decide_eq_true c10
       clear c10
       obtain ⟨y364, hy364⟩ : ∃ y_ : List (S27), y_ = ((l0.take ((ji7) : Int).toNat).drop (x7_1 : Int).toNat) := ⟨_, rfl⟩
       replace H : ((impl_block.f k1 y364).bind fun bt369 => (if 0 ≤ (wrap64 ((y364.length : Int) - 1)) then (if (wrap64 ((y364.length : Int) - 1)) < (y364.length : Int) then (if x364001_1.length < 3518437208883 then ((impl_sized.f k1 ((rd_T27 y364 (wrap64 ((y364.length : Int) - 1))).f0)).bind fun t378 => ((impl_varBytes.f k1 ((rd_T27 y364 (wrap64 ((y364.length : Int) - 1))).f1)).bind fun t379 => (if t378.size + t379.size ≤ 9223372036854775807 then ((impl_varBytes.f k1 (x5_1.size : Int)).bind fun t380 => (if t378.size + t379.size + t380.size ≤ 9223372036854775807 then ((impl_varBytes.f k1 (bt369.1.size : Int)).bind fun t381 => (if (t378.size + t379.size) + t380.size + t381.size ≤ 9223372036854775807 then (if x6_1.size + (((t378.size + t379.size) + t380.size) + t381.size) ≤ 9223372036854775807 then (if x5_1.size + bt369.1.size ≤ 9223372036854775807 then (impl_build.l0 k1 l0 (x5_1 ++ bt369.1) (x6_1 ++ (((t378 ++ t379) ++ t380) ++ t381)) (wrap64 (x7_1 + 8)) l0 (x364001_1 ++ [(⟨(rd_T27 y364 (wrap64 ((y364.length : Int) - 1))).f0, (rd_T27 y364 (wrap64 ((y364.length : Int) - 1))).f1, (x5_1.size : Int), (bt369.1.size : Int)⟩ : S103)]) 0 (⟨#[]⟩ : ByteArray) 0) else (none)) else (none)) else (none))) else (none))) else (none)))) else (none)) else (none)) else (none))) = some (r1, r2, r3, r4, r5, r6) := by first | (rw [hy364]; with_reducible exact H) | (have H2_ := (Option.bind_some _ _).symm.trans H; rw [hy364]; with_reducible exact H2_) | (have H2_ := (Option.bind_some _ _).symm.trans H; with_reducible exact H2_) | with_reducible exact H | (rw [hy364]; exact H) | exact H
       have Ny364 := Aside0.mk hy364
       clear hy364
       replace H := Option.bind_eq_some_iff.mp H
       obtain ⟨⟨t369, t370⟩, A110, H⟩ := H
       replace H : (if 0 ≤ (wrap64 ((y364.length : Int) - 1)) then (if (wrap64 ((y364.length : Int) - 1)) < (y364.length : Int) then (if x364001_1.length < 3518437208883 then ((impl_sized.f k1 ((rd_T27 y364 (wrap64 ((y364.length : Int) - 1))).f0)).bind fun t378 => ((impl_varBytes.f k1 ((rd_T27 y364 (wrap64 ((y364.length : Int) - 1))).f1)).bind fun t379 => (if t378.size + t379.size ≤ 9223372036854775807 then ((impl_varBytes.f k1 (x5_1.size : Int)).bind fun t380 => (if t378.size + t379.size + t380.size ≤ 9223372036854775807 then ((impl_varBytes.f k1 (t369.size : Int)).bind fun t381 => (if (t378.size + t379.size) + t380.size + t381.size ≤ 9223372036854775807 then (if x6_1.size + (((t378.size + t379.size) + t380.size) + t381.size) ≤ 9223372036854775807 then (if x5_1.size + t369.size ≤ 9223372036854775807 then (impl_build.l0 k1 l0 (x5_1 ++ t369) (x6_1 ++ (((t378 ++ t379) ++ t380) ++ t381)) (wrap64 (x7_1 + 8)) l0 (x364001_1 ++ [(⟨(rd_T27 y364 (wrap64 ((y364.length : Int) - 1))).f0, (rd_T27 y364 (wrap64 ((y364.length : Int) - 1))).f1, (x5_1.size : Int), (t369.size : Int)⟩ : S103)]) 0 (⟨#[]⟩ : ByteArray) 0) else (none)) else (none)) else (none))) else (none))) else (none)))) else (none)) else (none)) else (none)) = some (r1, r2, r3, r4, r5, r6) := H
       have A11 := Aside0.mk A110
       clear A110
       obtain ⟨ji12, hji12⟩ : ∃ j_ : Int, (wrap64 ((y364.length : Int) - 1)) = j_ := ⟨_, rfl⟩
       replace H : (if 0 ≤ (ji12) then (if (ji12) < (y364.length : Int) then (if x364001_1.length < 3518437208883 then ((impl_sized.f k1 ((rd_T27 y364 (ji12)).f0)).bind fun t378 => ((impl_varBytes.f k1 ((rd_T27 y364 (ji12)).f1)).bind fun t379 => (if t378.size + t379.size ≤ 9223372036854775807 then ((impl_varBytes.f k1 (x5_1.size : Int)).bind fun t380 => (if t378.size + t379.size + t380.size ≤ 9223372036854775807 then ((impl_varBytes.f k1 (t369.size : Int)).bind fun t381 => (if (t378.size + t379.size) + t380.size + t381.size ≤ 9223372036854775807 then (if x6_1.size + (((t378.size + t379.size) + t380.size) + t381.size) ≤ 9223372036854775807 then (if x5_1.size + t369.size ≤ 9223372036854775807 then (impl_build.l0 k1 l0 (x5_1 ++ t369) (x6_1 ++ (((t378 ++ t379) ++ t380) ++ t381)) (wrap64 (x7_1 + 8)) l0 (x364001_1 ++ [(⟨(rd_T27 y364 (ji12)).f0, (rd_T27 y364 (ji12)).f1, (x5_1.size : Int), (t369.size : Int)⟩ : S103)]) 0 (⟨#[]⟩ : ByteArray) 0) else (none)) else (none)) else (none))) else (none))) else (none)))) else (none)) else (none)) else (none)) = some (r1, r2, r3, r4, r5, r6) := by first | (rw [hji12] at H; exact H) | (simp only [hji12] at H ⊢; exact H)
       (try rw [hji12] at A11)
       have hji12w : (IntKind.i64.wrap ((y364.length : Int) - 1)) = ji12 := (i64_w _).trans hji12
       by_cases c13 : 0 ≤ (ji12)
       ·rw [if_pos c13] at H
        have c13b0 : decide (0 ≤ (ji12)) = true := decide_eq_true c13
        clear c13
        by_cases c14 : (ji12) < (y364.length : Int)
        ·rw [if_pos c14] at H
         have c14b0 : decide ((ji12) < (y364.length : Int)) = true := decide_eq_true c14
         clear c14
         by_cases c15 : x364001_1.length < 3518437208883
         ·rw [if_pos c15] at H
          have LMc15 := Aside0.mk c15
          clear c15
          obtain ⟨y375, hy375⟩ : ∃ y_ : List (S103), y_ = (x364001_1 ++ [(⟨(rd_T27 y364 (ji12)).f0, (rd_T27 y364 (ji12)).f1, (x5_1.size : Int), (t369.size : Int)⟩ : S103)]) := ⟨_, rfl⟩
          replace H : ((impl_sized.f k1 ((rd_T27 y364 (ji12)).f0)).bind fun t378 => ((impl_varBytes.f k1 ((rd_T27 y364 (ji12)).f1)).bind fun t379 => (if t378.size + t379.size ≤ 9223372036854775807 then ((impl_varBytes.f k1 (x5_1.size : Int)).bind fun t380 => (if t378.size + t379.size + t380.size ≤ 9223372036854775807 then ((impl_varBytes.f k1 (t369.size : Int)).bind fun t381 => (if (t378.size + t379.size) + t380.size + t381.size ≤ 9223372036854775807 then (if x6_1.size + (((t378.size + t379.size) + t380.size) + t381.size) ≤ 9223372036854775807 then (if x5_1.size + t369.size ≤ 9223372036854775807 then (impl_build.l0 k1 l0 (x5_1 ++ t369) (x6_1 ++ (((t378 ++ t379) ++ t380) ++ t381)) (wrap64 (x7_1 + 8)) l0 y375 0 (⟨#[]⟩ : ByteArray) 0) else (none)) else (none)) else (none))) else (none))) else (none)))) = some (r1, r2, r3, r4, r5, r6) := by first | (rw [hy375]; with_reducible exact H) | (have H2_ := (Option.bind_some _ _).symm.trans H; rw [hy375]; with_reducible exact H2_) | (have H2_ := (Option.bind_some _ _).symm.trans H; with_reducible exact H2_) | with_reducible exact H | (rw [hy375]; exact H) | exact H
          have Ny375 := Aside0.mk hy375
          clear hy375
          replace H := Option.bind_eq_some_iff.mp H
          obtain ⟨t378, A160, H⟩ := H
          replace H : ((impl_varBytes.f k1 ((rd_T27 y364 (ji12)).f1)).bind fun t379 => (if t378.size + t379.size ≤ 9223372036854775807 then ((impl_varBytes.f k1 (x5_1.size : Int)).bind fun t380 => (if t378.size + t379.size + t380.size ≤ 9223372036854775807 then ((impl_varBytes.f k1 (t369.size : Int)).bind fun t381 => (if (t378.size + t379.size) + t380.size + t381.size ≤ 9223372036854775807 then (if x6_1.size + (((t378.size + t379.size) + t380.size) + t381.size) ≤ 9223372036854775807 then (if x5_1.size + t369.size ≤ 9223372036854775807 then (impl_build.l0 k1 l0 (x5_1 ++ t369) (x6_1 ++ (((t378 ++ t379) ++ t380) ++ t381)) (wrap64 (x7_1 + 8)) l0 y375 0 (⟨#[]⟩ : ByteArray) 0) else (none)) else (none)) else (none))) else (none))) else (none))) = some (r1, r2, r3, r4, r5, r6) := H
          have A16 := Aside0.mk A160
          clear A160
          replace H := Option.bind_eq_some_iff.mp H
          obtain ⟨t379, A170, H⟩ := H
          replace H : (if t378.size + t379.size ≤ 9223372036854775807 then ((impl_varBytes.f k1 (x5_1.size : Int)).bind fun t380 => (if t378.size + t379.size + t380.size ≤ 9223372036854775807 then ((impl_varBytes.f k1 (t369.size : Int)).bind fun t381 => (if (t378.size + t379.size) + t380.size + t381.size ≤ 9223372036854775807 then (if x6_1.size + (((t378.size + t379.size) + t380.size) + t381.size) ≤ 9223372036854775807 then (if x5_1.size + t369.size ≤ 9223372036854775807 then (impl_build.l0 k1 l0 (x5_1 ++ t369) (x6_1 ++ (((t378 ++ t379) ++ t380) ++ t381)) (wrap64 (x7_1 + 8)) l0 y375 0 (⟨#[]⟩ : ByteArray) 0) else (none)) else (none)) else (none))) else (none))) else (none)) = some (r1, r2, r3, r4, r5, r6) := H
          have A17 := Aside0.mk A170
          clear A170
          by_cases c18 : t378.size + t379.size ≤ 9223372036854775807
          ·rw [if_pos c18] at H
           have c18b0 := eq_true c18
           have c18b1 : decide (t378.size + t379.size ≤ 9223372036854775807) = true := decide_eq_true c18
           try have c18b2 : (9223372036854775807 < t378.size + t379.size) = False := eq_false (Nat.not_lt.2 c18)
           replace H := Option.bind_eq_some_iff.mp H
           obtain ⟨t380, A190, H⟩ := H
           replace H : (if t378.size + t379.size + t380.size ≤ 9223372036854775807 then ((impl_varBytes.f k1 (t369.size : Int)).bind fun t381 => (if (t378.size + t379.size) + t380.size + t381.size ≤ 9223372036854775807 then (if x6_1.size + (((t378.size + t379.size) + t380.size) + t381.size) ≤ 9223372036854775807 then (if x5_1.size + t369.size ≤ 9223372036854775807 then (impl_build.l0 k1 l0 (x5_1 ++ t369) (x6_1 ++ (((t378 ++ t379) ++ t380) ++ t381)) (wrap64 (x7_1 + 8)) l0 y375 0 (⟨#[]⟩ : ByteArray) 0) else (none)) else (none)) else (none))) else (none)) = some (r1, r2, r3, r4, r5, r6) := H
           have A19 := Aside0.mk A190
           clear A190
           by_cases c20 : t378.size + t379.size + t380.size ≤ 9223372036854775807
           ·rw [if_pos c20] at H
            have c20b0 := eq_true c20
            have c20b1 : decide (t378.size + t379.size + t380.size ≤ 9223372036854775807) = true := decide_eq_true c20
            try have c20b2 : (9223372036854775807 < t378.size + t379.size + t380.size) = False := eq_false (Nat.not_lt.2 c20)
            replace H := Option.bind_eq_some_iff.mp H
            obtain ⟨t381, A210, H⟩ := H
            replace H : (if (t378.size + t379.size) + t380.size + t381.size ≤ 9223372036854775807 then (if x6_1.size + (((t378.size + t379.size) + t380.size) + t381.size) ≤ 9223372036854775807 then (if x5_1.size + t369.size ≤ 9223372036854775807 then (impl_build.l0 k1 l0 (x5_1 ++ t369) (x6_1 ++ (((t378 ++ t379) ++ t380) ++ t381)) (wrap64 (x7_1 + 8)) l0 y375 0 (⟨#[]⟩ : ByteArray) 0) else (none)) else (none)) else (none)) = some (r1, r2, r3, r4, r5, r6) := H
            have A21 := Aside0.mk A210
            clear A210
            by_cases c22 : (t378.size + t379.size) + t380.size + t381.size ≤ 9223372036854775807
            ·rw [if_pos c22] at H
             have c22b0 := eq_true c22
             have c22b1 : decide ((t378.size + t379.size) + t380.size + t381.size ≤ 9223372036854775807) = true := decide_eq_true c22
             try have c22b2 : (9223372036854775807 < (t378.size + t379.size) + t380.size + t381.size) = False := eq_false (Nat.not_lt.2 c22)
             by_cases c23 : x6_1.size + (((t378.size + t379.size) + t380.size) + t381.size) ≤ 9223372036854775807
             ·rw [if_pos c23] at H
              have c23b0 := eq_true c23
              have c23b1 : decide (x6_1.size + (((t378.size + t379.size) + t380.size) + t381.size) ≤ 9223372036854775807) = true := decide_eq_true c23
              try have c23b2 : (9223372036854775807 < x6_1.size + (((t378.size + t379.size) + t380.size) + t381.size)) = False := eq_false (Nat.not_lt.2 c23)
              by_cases c24 : x5_1.size + t369.size ≤ 9223372036854775807
              ·rw [if_pos c24] at H
               have c24b0 := eq_true c24
               have c24b1 : decide (x5_1.size + t369.size ≤ 9223372036854775807) = true := decide_eq_true c24
               try have c24b2 : (9223372036854775807 < x5_1.size + t369.size) = False := eq_false (Nat.not_lt.2 c24)
               have H' := Aside0.mk H
               clear H
               have q25 : ((ji7) : Int) ≤ ((l0.length : Int) : Int) := of_decide_eq_true (by first | (with_reducible assumption) | assumption)
               obtain ⟨i025, hi025, _, hsz25, _⟩ := info_parts info27
               have hroom25 : l0.length ≤ c0 := (Kd.V_reads' HO_0.out).2.1
               have hC25 : Kd.F k27 _ _ A0 l0.length l0 := (Kd.V_at (base := w.heap.size) HO_0.out).2.2
               have ql25 : (x7_1 : Int) ≤ ((ji7) : Int) := of_decide_eq_true (by first | (with_reducible assumption) | assumption)
               have q025 : (0 : Int) ≤ (x7_1 : Int) := of_decide_eq_true (by first | (with_reducible assumption) | assumption)
               have hcut25 := cut_mid (P := Try.prog) 33 27 .i64 .i64 Try.underlying33 hi025 4 hsz25 A0 l0.length c0 x7_1 (ji7) q025 ql25 q25 hroom25
               have hr25 := Kd.F_mid (lo := (x7_1 : Int).toNat) (hi := ((ji7) : Int).toNat) (c := c0) hC25 (by omega) (by omega) hroom25
               obtain ⟨A25, hA25⟩ : ∃ A1, A1 = (if c0 = (x7_1 : Int).toNat then A0 else (A0 : Option Addr).map (·.add ((x7_1 : Int).toNat * 4))) := ⟨_, rfl⟩
               obtain ⟨c25, hc25⟩ : ∃ c1, c1 = c0 - (x7_1 : Int).toNat := ⟨_, rfl⟩
               have hy25 : y364.length = ((ji7) : Int).toNat - (x7_1 : Int).toNat := (by rw [Ny364.out, List.length_drop, List.length_take] <;> omega)
               rw [show ((l0).take ((ji7) : Int).toNat).drop (x7_1 : Int).toNat = y364 from Ny364.out.symm] at hr25
               replace hr25 : Kd.F k27 _ _ A25 y364.length y364 := (by rw [hA25]; exact hr25)
               rw [← hy25, ← hA25, ← hc25] at hcut25
               have HO368 := Aside0.mk (show Kd.V k27 27 _ w.heap.size _ (.slice A25 y364.length c25) y364 from Kd.V_mk (by rw [hy25, hc25]; exact Nat.sub_le_sub_right (Nat.le_trans (by omega) hroom25) _) hr25)
               have HC368 := Aside0.mk (show y364.length ≤ c25 from by rw [hy25, hc25]; exact Nat.sub_le_sub_right (Nat.le_trans (by omega) hroom25) _)
               clear hr25 hC25 hroom25 hi025 hsz25 hc25
               have KY25 := Aside0.mk hy25
               have KA25 := Aside0.mk hA25
               clear hy25 hA25
               replace q25 := eq_true q25
               try go_wp2_with (first | ((with_reducible refine gate_callee (f := 52) rfl ?_); refine goesL_ (some 31) rfl rfl Try.func52 (by kernel_rfl) rfl #[.slice A25 y364.length c25] rfl (by (try simp only [List.map_toArray, List.map_cons, List.map_nil]); first | done | rfl | (simp only [List.length_drop, List.length_take]; rfl)) ?_; (with_reducible refine (impl_block.calls k1 _ _ y364 t369 t370 _ ?side1 ?side2 A11.out).mono ?_); (case side1 => repeat (first | exact (Kd.V_reads' HO368.out).2.2 | (with_reducible refine Kd.C_alloc ?_ _) | (with_reducible refine Kd.C_drewN ?_ _) | (with_reducible refine Kd.C_drew ?_))); (case side2 => exact (Kd.V_reads' HO368.out).2.1); rintro e w26 ⟨v371, rfl, ho0, hb⟩; refine ⟨_, rfl, ?_⟩; have n0_ := Aside0.mk (Kd.V_elder' (by (with_reducible repeat (first | apply Kd.V_alloc | apply Kd.V_drewN | apply Kd.V_drew)); exact HO_0.out) (Kd.R_base ho0) hb); have n1_ := Aside0.mk (Kd.V_elder' (by (with_reducible repeat (first | apply Kd.V_alloc | apply Kd.V_drewN | apply Kd.V_drew)); exact HO_364000.out) (Kd.R_base ho0) hb); have n2_ := Aside0.mk (Kd.R_below (by (with_reducible repeat (first | apply Kd.R_alloc | apply Kd.R_drewN | apply Kd.R_drew)); exact HO_364001.out) hb); have n3_ := Aside0.mk (Kd.V_elder' (by (with_reducible repeat (first | apply Kd.V_alloc | apply Kd.V_drewN | apply Kd.V_drew)); exact HO368.out) (Kd.R_base ho0) hb); have n4_ := Aside0.mk (Kd.R_lower (Kd.R_newM (M := fun k_ => (w.heap.size ≤ k_)) ho0 (below_size (by repeat (first | (with_reducible first | exact HB.out | apply below_alloc | apply pw_below_drewN | apply below_drew1 | refine below_set ?_ GE362.out | refine below_set ?_ GE363.out) | exact HB.out))) (fun k_ h_ => h_)) (below_size (by repeat (first | (with_reducible first | exact HB.out | apply below_alloc | apply pw_below_drewN | apply below_drew1 | refine below_set ?_ GE362.out | refine below_set ?_ GE363.out) | exact HB.out)))); have n5_ := Aside0.mk (blk_below (g := gb362) (o := .cells #[.slice none 0 0, .slice none 0 0, .int .i64 0, .string (⟨#[]⟩ : ByteArray), .int .i64 0] 82 (0, 0)) (by (with_reducible repeat (first | refine blk_drewN ?_ _ | refine blk_drew ?_ | refine blk_alloc ?_ _)); exact BK362.out) hb); have n6_ := Aside0.mk (blk_below (g := gb363) (o := .cells #[.slice A0 l0.length c0, u364001, .int .i64 0, .string (⟨#[]⟩ : ByteArray), .int .i64 0] 82 (0, 0)) (by (with_reducible repeat (first | refine blk_drewN ?_ _ | refine blk_drew ?_ | refine blk_alloc ?_ _)); exact BK363.out) hb); have n7_ := Aside0.mk (below_step (by repeat (first | (with_reducible first | exact HB.out | apply below_alloc | apply pw_below_drewN | apply below_drew1 | refine below_set ?_ GE362.out | refine below_set ?_ GE363.out) | exact HB.out)) hb); clear HO_0; clear HO_364000; clear HO_364001; clear HO368; clear BK362; clear BK363; clear HB; have HO_0 := n0_; have HO_364000 := n1_; have HO_364001 := n2_; have HO368 := n3_; have HO372 := n4_; have BK362 := n5_; have BK363 := n6_; have HB := n7_; clear n0_ n1_ n2_ n3_ n4_ n5_ n6_ n7_; (try clear hb); (try clear hb2); (try clear hk); (try clear hi); (try clear ho0); have p373 : 0 ≤ ((ji12) : Int) := of_decide_eq_true (by first | (with_reducible assumption) | assumption); have q373 : (ji12) < (y364.length : Int) := of_decide_eq_true (by first | (with_reducible assumption) | assumption); obtain ⟨ad373, e373, hx373_0, hx373_1, hx373_2, hx373_3⟩ := at_T27 (Kd.V_reads' HO368.out).2.2 (ji12) p373 q373; cases e373; replace p373 := eq_true p373; replace q373 := eq_true q373) | ((with_reducible refine gate_dst (N := 11) rfl ?_); refine box_event ?hg (N := 11) ?hd (cs := #[.string (⟨#[]⟩ : ByteArray), .int .i64 0, .int .i64 0, .string (⟨#[]⟩ : ByteArray)]) (t := 27) ?hr ?_; (case hd => rfl); (case hg => rfl); (case hr => first | (go_simp; done) | (go_simp; rfl)); intro gb374 hg w27 hbox hb; have n0_ := Aside0.mk (Kd.V_below (Kd.V_elderB (by (with_reducible repeat (first | apply Kd.V_alloc | apply Kd.V_drewN | apply Kd.V_drew)); exact HO_0.out) gb374 (Nat.le_of_eq hg.symm)) hb); have n1_ := Aside0.mk (Kd.V_below (Kd.V_elderB (by (with_reducible repeat (first | apply Kd.V_alloc | apply Kd.V_drewN | apply Kd.V_drew)); exact HO_364000.out) gb374 (Nat.le_of_eq hg.symm)) hb); have n2_ := Aside0.mk (Kd.R_below (by (with_reducible repeat (first | apply Kd.R_alloc | apply Kd.R_drewN | apply Kd.R_drew)); exact HO_364001.out) hb); have n3_ := Aside0.mk (Kd.V_below (Kd.V_elderB (by (with_reducible repeat (first | apply Kd.V_alloc | apply Kd.V_drewN | apply Kd.V_drew)); exact HO368.out) gb374 (Nat.le_of_eq hg.symm)) hb); have n4_ := Aside0.mk (Kd.R_below (by (with_reducible repeat (first | apply Kd.R_alloc | apply Kd.R_drewN | apply Kd.R_drew)); exact HO372.out) hb); have n5_ := Aside0.mk (blk_below (g := gb362) (o := .cells #[.slice none 0 0, .slice none 0 0, .int .i64 0, .string (⟨#[]⟩ : ByteArray), .int .i64 0] 82 (0, 0)) (by (with_reducible repeat (first | refine blk_drewN ?_ _ | refine blk_drew ?_ | refine blk_alloc ?_ _)); exact BK362.out) hb); have n6_ := Aside0.mk (blk_below (g := gb363) (o := .cells #[.slice A0 l0.length c0, u364001, .int .i64 0, .string (⟨#[]⟩ : ByteArray), .int .i64 0] 82 (0, 0)) (by (with_reducible repeat (first | refine blk_drewN ?_ _ | refine blk_drew ?_ | refine blk_alloc ?_ _)); exact BK363.out) hb); have n7_ := Aside0.mk (below_step (by repeat (first | (with_reducible first | exact HB.out | apply below_alloc | apply pw_below_drewN | apply below_drew1 | refine below_set ?_ GE362.out | refine below_set ?_ GE363.out) | exact HB.out)) hb); have n8_ := Aside0.mk (hbox); have n9_ := Aside0.mk ((by rw [hg]; exact (below_size (by repeat (first | (with_reducible first | exact HB.out | apply below_alloc | apply pw_below_drewN | apply below_drew1 | refine below_set ?_ GE362.out | refine below_set ?_ GE363.out) | exact HB.out))) : w.heap.size ≤ gb374)); have n10_ := Aside0.mk ((by rw [hg]; exact (below_size (by repeat (first | (with_reducible first | exact HB.out | apply below_alloc | apply pw_below_drewN | apply below_drew1 | refine below_set ?_ GE362.out | refine below_set ?_ GE363.out) | exact HB.out))) : w.heap.size ≤ gb374)); have n11_ := Aside0.mk ((by rw [hg]; exact Nat.ne_of_lt (blk_lt (g := gb362) (o := .cells #[.slice none 0 0, .slice none 0 0, .int .i64 0, .string (⟨#[]⟩ : ByteArray), .int .i64 0] 82 (0, 0)) (by (with_reducible repeat (first | refine blk_drewN ?_ _ | refine blk_drew ?_ | refine blk_alloc ?_ _)); exact BK362.out)) : gb362 ≠ gb374)); have n12_ := Aside0.mk ((by rw [hg]; exact Nat.ne_of_gt (blk_lt (g := gb362) (o := .cells #[.slice none 0 0, .slice none 0 0, .int .i64 0, .string (⟨#[]⟩ : ByteArray), .int .i64 0] 82 (0, 0)) (by (with_reducible repeat (first | refine blk_drewN ?_ _ | refine blk_drew ?_ | refine blk_alloc ?_ _)); exact BK362.out)) : gb374 ≠ gb362)); have n13_ := Aside0.mk ((by rw [hg]; exact Nat.ne_of_lt (blk_lt (g := gb363) (o := .cells #[.slice A0 l0.length c0, u364001, .int .i64 0, .string (⟨#[]⟩ : ByteArray), .int .i64 0] 82 (0, 0)) (by (with_reducible repeat (first | refine blk_drewN ?_ _ | refine blk_drew ?_ | refine blk_alloc ?_ _)); exact BK363.out)) : gb363 ≠ gb374)); have n14_ := Aside0.mk ((by rw [hg]; exact Nat.ne_of_gt (blk_lt (g := gb363) (o := .cells #[.slice A0 l0.length c0, u364001, .int .i64 0, .string (⟨#[]⟩ : ByteArray), .int .i64 0] 82 (0, 0)) (by (with_reducible repeat (first | refine blk_drewN ?_ _ | refine blk_drew ?_ | refine blk_alloc ?_ _)); exact BK363.out)) : gb374 ≠ gb363)); clear HO_0; clear HO_364000; clear HO_364001; clear HO368; clear HO372; clear BK362; clear BK363; clear HB; have HO_0 := n0_; have HO_364000 := n1_; have HO_364001 := n2_; have HO368 := n3_; have HO372 := n4_; have BK362 := n5_; have BK363 := n6_; have HB := n7_; have BK374 := n8_; have GW374 := n9_; have GE374 := n10_; have NB362_374 := n11_; have NB374_362 := n12_; have NB363_374 := n13_; have NB374_363 := n14_; clear n0_ n1_ n2_ n3_ n4_ n5_ n6_ n7_ n8_ n9_ n10_ n11_ n12_ n13_ n14_; clear hb hbox hg; have hnb28 := NB374_362.out; have hnc28 := NB362_374.out; have hnb29 := NB374_363.out; have hnc29 := NB363_374.out; have hcz30_0 : w27.cell? ⟨gb374, 0, none⟩ = some (.string (⟨#[]⟩ : ByteArray)) := (blk_cell BK374.out 0).trans rfl; have hcz30_1 : w27.cell? ⟨gb374, 1, none⟩ = some (.int .i64 0) := (blk_cell BK374.out 1).trans rfl; have hcz30_2 : w27.cell? ⟨gb374, 2, none⟩ = some (.int .i64 0) := (blk_cell BK374.out 2).trans rfl; have hcz30_3 : w27.cell? ⟨gb374, 3, none⟩ = some (.string (⟨#[]⟩ : ByteArray)) := (blk_cell BK374.out 3).trans rfl; have hfz30_0 := blk_frozen BK374.out 0; have hfz30_1 := blk_frozen BK374.out 1; have hfz30_2 := blk_frozen BK374.out 2; have hfz30_3 := blk_frozen BK374.out 3; have hnb31 := NB363_362.out; have hnc31 := NB362_363.out; have hcz32_0 : w27.cell? ⟨gb363, 0, none⟩ = some (.slice A0 l0.length c0) := (blk_cell BK363.out 0).trans rfl; have hcz32_1 : w27.cell? ⟨gb363, 1, none⟩ = some (u364001) := (blk_cell BK363.out 1).trans rfl; have hcz32_2 : w27.cell? ⟨gb363, 2, none⟩ = some (.int .i64 0) := (blk_cell BK363.out 2).trans rfl; have hcz32_3 : w27.cell? ⟨gb363, 3, none⟩ = some (.string (⟨#[]⟩ : ByteArray)) := (blk_cell BK363.out 3).trans rfl; have hcz32_4 : w27.cell? ⟨gb363, 4, none⟩ = some (.int .i64 0) := (blk_cell BK363.out 4).trans rfl; have hfz32_0 := blk_frozen BK363.out 0; have hfz32_1 := blk_frozen BK363.out 1; have hfz32_2 := blk_frozen BK363.out 2; have hfz32_3 := blk_frozen BK363.out 3; have hfz32_4 := blk_frozen BK363.out 4) | ((with_reducible refine gate_builtin (b := .append) (xs := #[.tmp 41, .tmp 51]) rfl ?_); at_builtin; refine Kd.R_append k103 (w0 := w) w.heap.size rfl (.tmp 41) (.tmp 51) 78 103 (.agg #[(.string ⟨#[]⟩), (.int .i64 0), (.int .i64 0), (.int .i64 0)]) 40 rfl Try.underlying78 info103 rfl (by decide) (by omega) u364001 x364001_1 (⟨(rd_T27 y364 (ji12)).f0, (rd_T27 y364 (ji12)).f1, (x5_1.size : Int), (t369.size : Int)⟩ : S103) [.string ((rd_T27 y364 (ji12)).f0), .int .i64 ((rd_T27 y364 (ji12)).f1), .int .i64 (x5_1.size : Int), .int .i64 (t369.size : Int)] (fun k_ => (w.heap.size ≤ k_)) (fun _ => False) rfl (by first | (go_simp; done) | (go_simp; rfl)) ?aP (fun _ hk => hk.elim) ?aF ?aO ?aB ?aS ?aL ?_; (case aP => exact k103_mkM _ _ _ (⟨(rd_T27 y364 (ji12)).f0, (rd_T27 y364 (ji12)).f1, (x5_1.size : Int), (t369.size : Int)⟩ : S103)); (case aB => exact (by repeat (first | (with_reducible first | exact HB.out | apply below_alloc | apply pw_below_drewN | apply below_drew1 | refine below_set ?_ GE362.out | refine below_set ?_ GE363.out | refine below_set ?_ GE374.out) | exact HB.out))); (case aF => exact (fun k_ hk => (Nat.le_trans (below_size (by repeat (first | (with_reducible first | exact HB.out | apply below_alloc | apply pw_below_drewN | apply below_drew1 | refine below_set ?_ GE362.out | refine below_set ?_ GE363.out | refine below_set ?_ GE374.out) | exact HB.out))) hk))); (case aO => exact (by (with_reducible repeat (first | apply Kd.R_alloc | apply Kd.R_drewN | apply Kd.R_drew)); exact Kd.R_mono (Kd.R_far (p := ⟨gb374, 3, none⟩) (Kd.R_far (p := ⟨gb374, 2, none⟩) (Kd.R_far (p := ⟨gb374, 1, none⟩) (Kd.R_far (p := ⟨gb374, 0, none⟩) (Kd.R_types HO_364001.out BK374.out (by decide)) (fun _ hk => hk.2) (.string ((rd_T27 y364 (ji12)).f0))) (fun _ hk => hk.2) (.int .i64 ((rd_T27 y364 (ji12)).f1))) (fun _ hk => hk.2) (.int .i64 ((rd_T27 y364 (ji12)).f2))) (fun _ hk => hk.2) (.string ((rd_T27 y364 (ji12)).f3))) (fun _ hk => hk.1))); (case aS => exact (below_size (by repeat (first | (with_reducible first | exact HB.out | apply below_alloc | apply pw_below_drewN | apply below_drew1 | refine below_set ?_ GE362.out | refine below_set ?_ GE363.out | refine below_set ?_ GE374.out) | exact HB.out)))); (case aL => have := LMc15.out; omega); intro v376 w33 ho hb hg hat; rw [← Ny375.out] at ho; have n0_ := Aside0.mk (Kd.V_afterv (ok := (fun k_ => (P0_ k_ ∨ w.heap.size ≤ k_) ∧ some k_ ≠ (v371 : Value).ownBlock ∧ k_ ≠ gb362 ∧ k_ ≠ gb363 ∧ k_ ≠ gb374)) (by (with_reducible repeat (first | apply Kd.V_alloc | apply Kd.V_drewN | apply Kd.V_drew)); exact Kd.V_mono (Kd.V_far (p := ⟨gb374, 3, none⟩) (Kd.V_far (p := ⟨gb374, 2, none⟩) (Kd.V_far (p := ⟨gb374, 1, none⟩) (Kd.V_far (p := ⟨gb374, 0, none⟩) (Kd.V_mono HO_0.out (fun k_ hk => (⟨hk, hk.2⟩ : _ ∧ k_ ≠ gb374))) (fun _ hk => hk.2) (.string ((rd_T27 y364 (ji12)).f0))) (fun _ hk => hk.2) (.int .i64 ((rd_T27 y364 (ji12)).f1))) (fun _ hk => hk.2) (.int .i64 ((rd_T27 y364 (ji12)).f2))) (fun _ hk => hk.2) (.string ((rd_T27 y364 (ji12)).f3))) (fun _ hk => ⟨⟨hk.1.1.1.1, ⟨hk.1.1.2, ⟨hk.1.1.1.2.2.1, ⟨hk.1.1.1.2.2.2, hk.1.2⟩⟩⟩⟩, hk.1.1.1.2.1⟩)) hg hat); have n1_ := Aside0.mk (Kd.V_afterv (ok := (fun k_ => (P0_ k_ ∨ w.heap.size ≤ k_) ∧ some k_ ≠ (v371 : Value).ownBlock ∧ k_ ≠ gb362 ∧ k_ ≠ gb363 ∧ k_ ≠ gb374)) (by (with_reducible repeat (first | apply Kd.V_alloc | apply Kd.V_drewN | apply Kd.V_drew)); exact Kd.V_mono (Kd.V_far (p := ⟨gb374, 3, none⟩) (Kd.V_far (p := ⟨gb374, 2, none⟩) (Kd.V_far (p := ⟨gb374, 1, none⟩) (Kd.V_far (p := ⟨gb374, 0, none⟩) (Kd.V_mono HO_364000.out (fun k_ hk => (⟨hk, hk.2⟩ : _ ∧ k_ ≠ gb374))) (fun _ hk => hk.2) (.string ((rd_T27 y364 (ji12)).f0))) (fun _ hk => hk.2) (.int .i64 ((rd_T27 y364 (ji12)).f1))) (fun _ hk => hk.2) (.int .i64 ((rd_T27 y364 (ji12)).f2))) (fun _ hk => hk.2) (.string ((rd_T27 y364 (ji12)).f3))) (fun _ hk => ⟨⟨hk.1.1.1.1, ⟨hk.1.1.2, ⟨hk.1.1.1.2.2.1, ⟨hk.1.1.1.2.2.2, hk.1.2⟩⟩⟩⟩, hk.1.1.1.2.1⟩)) hg hat); have n2_ := Aside0.mk (blk_grown (g := gb362) (o := .cells #[.slice none 0 0, .slice none 0 0, .int .i64 0, .string (⟨#[]⟩ : ByteArray), .int .i64 0] 82 (0, 0)) (by (with_reducible repeat (first | refine blk_drewN ?_ _ | refine blk_drew ?_ | refine blk_alloc ?_ _)); refine blk_far ?_ NB362_374.out _; (with_reducible repeat (first | refine blk_drewN ?_ _ | refine blk_drew ?_ | refine blk_alloc ?_ _)); refine blk_far ?_ NB362_374.out _; (with_reducible repeat (first | refine blk_drewN ?_ _ | refine blk_drew ?_ | refine blk_alloc ?_ _)); refine blk_far ?_ NB362_374.out _; (with_reducible repeat (first | refine blk_drewN ?_ _ | refine blk_drew ?_ | refine blk_alloc ?_ _)); refine blk_far ?_ NB362_374.out _; (with_reducible repeat (first | refine blk_drewN ?_ _ | refine blk_drew ?_ | refine blk_alloc ?_ _)); exact BK362.out) hg (Kd.R_ne HO_364001.out BK362.out (by decide))); have n3_ := Aside0.mk (blk_grown (g := gb363) (o := .cells #[.slice A0 l0.length c0, u364001, .int .i64 0, .string (⟨#[]⟩ : ByteArray), .int .i64 0] 82 (0, 0)) (by (with_reducible repeat (first | refine blk_drewN ?_ _ | refine blk_drew ?_ | refine blk_alloc ?_ _)); refine blk_far ?_ NB363_374.out _; (with_reducible repeat (first | refine blk_drewN ?_ _ | refine blk_drew ?_ | refine blk_alloc ?_ _)); refine blk_far ?_ NB363_374.out _; (with_reducible repeat (first | refine blk_drewN ?_ _ | refine blk_drew ?_ | refine blk_alloc ?_ _)); refine blk_far ?_ NB363_374.out _; (with_reducible repeat (first | refine blk_drewN ?_ _ | refine blk_drew ?_ | refine blk_alloc ?_ _)); refine blk_far ?_ NB363_374.out _; (with_reducible repeat (first | refine blk_drewN ?_ _ | refine blk_drew ?_ | refine blk_alloc ?_ _)); exact BK363.out) hg (Kd.R_ne HO_364001.out BK363.out (by decide))); have n4_ := Aside0.mk (Kd.V_afterv (ok := (fun k_ => (P0_ k_ ∨ w.heap.size ≤ k_) ∧ some k_ ≠ (v371 : Value).ownBlock ∧ k_ ≠ gb362 ∧ k_ ≠ gb363 ∧ k_ ≠ gb374)) (by (with_reducible repeat (first | apply Kd.V_alloc | apply Kd.V_drewN | apply Kd.V_drew)); exact Kd.V_mono (Kd.V_far (p := ⟨gb374, 3, none⟩) (Kd.V_far (p := ⟨gb374, 2, none⟩) (Kd.V_far (p := ⟨gb374, 1, none⟩) (Kd.V_far (p := ⟨gb374, 0, none⟩) (Kd.V_mono HO368.out (fun k_ hk => (⟨hk, hk.2⟩ : _ ∧ k_ ≠ gb374))) (fun _ hk => hk.2) (.string ((rd_T27 y364 (ji12)).f0))) (fun _ hk => hk.2) (.int .i64 ((rd_T27 y364 (ji12)).f1))) (fun _ hk => hk.2) (.int .i64 ((rd_T27 y364 (ji12)).f2))) (fun _ hk => hk.2) (.string ((rd_T27 y364 (ji12)).f3))) (fun _ hk => ⟨⟨hk.1.1.1.1, ⟨hk.1.1.2, ⟨hk.1.1.1.2.2.1, ⟨hk.1.1.1.2.2.2, hk.1.2⟩⟩⟩⟩, hk.1.1.1.2.1⟩)) hg hat); have n5_ := Aside0.mk (Kd.R_over' (by (with_reducible repeat (first | apply Kd.R_alloc | apply Kd.R_drewN | apply Kd.R_drew)); exact (Kd.R_mono (Kd.R_far (p := ⟨gb374, 3, none⟩) (Kd.R_far (p := ⟨gb374, 2, none⟩) (Kd.R_far (p := ⟨gb374, 1, none⟩) (Kd.R_far (p := ⟨gb374, 0, none⟩) (Kd.R_types HO372.out BK374.out (by decide)) (fun _ hk => hk.2) (.string ((rd_T27 y364 (ji12)).f0))) (fun _ hk => hk.2) (.int .i64 ((rd_T27 y364 (ji12)).f1))) (fun _ hk => hk.2) (.int .i64 ((rd_T27 y364 (ji12)).f2))) (fun _ hk => hk.2) (.string ((rd_T27 y364 (ji12)).f3))) (fun _ h_ => h_.1))) (Kd.R_typed (by (with_reducible repeat (first | apply Kd.R_alloc | apply Kd.R_drewN | apply Kd.R_drew)); exact (Kd.R_mono (Kd.R_far (p := ⟨gb374, 3, none⟩) (Kd.R_far (p := ⟨gb374, 2, none⟩) (Kd.R_far (p := ⟨gb374, 1, none⟩) (Kd.R_far (p := ⟨gb374, 0, none⟩) (Kd.R_types HO_364001.out BK374.out (by decide)) (fun _ hk => hk.2) (.string ((rd_T27 y364 (ji12)).f0))) (fun _ hk => hk.2) (.int .i64 ((rd_T27 y364 (ji12)).f1))) (fun _ hk => hk.2) (.int .i64 ((rd_T27 y364 (ji12)).f2))) (fun _ hk => hk.2) (.string ((rd_T27 y364 (ji12)).f3))) (fun _ h_ => h_.1)))) (by decide) hg); have n6_ := Aside0.mk (blk_grown (g := gb374) (o := .cells #[.string ((rd_T27 y364 (ji12)).f0), .int .i64 ((rd_T27 y364 (ji12)).f1), .int .i64 ((rd_T27 y364 (ji12)).f2), .string ((rd_T27 y364 (ji12)).f3)] 27 (0, 0)) (by (with_reducible repeat (first | refine blk_drewN ?_ _ | refine blk_drew ?_ | refine blk_alloc ?_ _)); refine blk_put (cs := #[.string ((rd_T27 y364 (ji12)).f0), .int .i64 ((rd_T27 y364 (ji12)).f1), .int .i64 ((rd_T27 y364 (ji12)).f2), .string (⟨#[]⟩ : ByteArray)]) ?_ 3 _ rfl; (with_reducible repeat (first | refine blk_drewN ?_ _ | refine blk_drew ?_ | refine blk_alloc ?_ _)); refine blk_put (cs := #[.string ((rd_T27 y364 (ji12)).f0), .int .i64 ((rd_T27 y364 (ji12)).f1), .int .i64 0, .string (⟨#[]⟩ : ByteArray)]) ?_ 2 _ rfl; (with_reducible repeat (first | refine blk_drewN ?_ _ | refine blk_drew ?_ | refine blk_alloc ?_ _)); refine blk_put (cs := #[.string ((rd_T27 y364 (ji12)).f0), .int .i64 0, .int .i64 0, .string (⟨#[]⟩ : ByteArray)]) ?_ 1 _ rfl; (with_reducible repeat (first | refine blk_drewN ?_ _ | refine blk_drew ?_ | refine blk_alloc ?_ _)); refine blk_put (cs := #[.string (⟨#[]⟩ : ByteArray), .int .i64 0, .int .i64 0, .string (⟨#[]⟩ : ByteArray)]) ?_ 0 _ rfl; (with_reducible repeat (first | refine blk_drewN ?_ _ | refine blk_drew ?_ | refine blk_alloc ?_ _)); exact BK374.out) hg (Kd.R_ne HO_364001.out BK374.out (by decide))); have n7_ := Aside0.mk (hb); have n8_ := Aside0.mk (ho); clear HO_0; clear HO_364000; clear BK362; clear BK363; clear HO368; clear HO372; clear BK374; clear HB; clear HO_364001; have HO_0 := n0_; have HO_364000 := n1_; have BK362 := n2_; have BK363 := n3_; have HO368 := n4_; have HO372 := n5_; have BK374 := n6_; have HB := n7_; have HO377 := n8_; clear n0_ n1_ n2_ n3_ n4_ n5_ n6_ n7_ n8_; clear ho hb hg hat; obtain ⟨Ao34, co34, eo34⟩ := Kd.R_slice HO377.out; subst eo34; have hcz35_0 : w33.cell? ⟨gb363, 0, none⟩ = some (.slice A0 l0.length c0) := (blk_cell BK363.out 0).trans rfl; have hcz35_1 : w33.cell? ⟨gb363, 1, none⟩ = some (u364001) := (blk_cell BK363.out 1).trans rfl; have hcz35_2 : w33.cell? ⟨gb363, 2, none⟩ = some (.int .i64 0) := (blk_cell BK363.out 2).trans rfl; have hcz35_3 : w33.cell? ⟨gb363, 3, none⟩ = some (.string (⟨#[]⟩ : ByteArray)) := (blk_cell BK363.out 3).trans rfl; have hcz35_4 : w33.cell? ⟨gb363, 4, none⟩ = some (.int .i64 0) := (blk_cell BK363.out 4).trans rfl; have hfz35_0 := blk_frozen BK363.out 0; have hfz35_1 := blk_frozen BK363.out 1; have hfz35_2 := blk_frozen BK363.out 2; have hfz35_3 := blk_frozen BK363.out 3; have hfz35_4 := blk_frozen BK363.out 4))
               have n0_ : Aside0 (Kd.V k27 27 (w33.setCell ⟨gb363, 1, none⟩ (.slice Ao34 y375.length co34)) w.heap.size (fun k_ => (P0_ k_ ∨ w.heap.size ≤ k_) ∧ some k_ ≠ (v371 : Value).ownBlock ∧ some k_ ≠ (.slice Ao34 y375.length co34 : Value).ownBlock ∧ k_ ≠ gb362 ∧ k_ ≠ gb363 ∧ k_ ≠ gb374) (.slice A0 l0.length c0) l0) := ⟨by (with_reducible repeat (first | apply Kd.V_alloc | apply Kd.V_drewN | apply Kd.V_drew)); exact Kd.V_mono (Kd.V_far (p := ⟨gb363, 1, none⟩) (Kd.V_mono HO_0.out (fun k_ hk => (⟨hk, hk.1.2.2.2.1⟩ : _ ∧ k_ ≠ gb363))) (fun _ hk => hk.2) (.slice Ao34 y375.length co34)) (fun _ hk => ⟨hk.1.1.1, ⟨hk.1.1.2.1, ⟨hk.1.2, ⟨hk.1.1.2.2.1, ⟨hk.1.1.2.2.2.1, hk.1.1.2.2.2.2⟩⟩⟩⟩⟩)⟩
               have n1_ : Aside0 (Kd.V k27 27 (w33.setCell ⟨gb363, 1, none⟩ (.slice Ao34 y375.length co34)) w.heap.size (fun k_ => (P0_ k_ ∨ w.heap.size ≤ k_) ∧ some k_ ≠ (v371 : Value).ownBlock ∧ some k_ ≠ (.slice Ao34 y375.length co34 : Value).ownBlock ∧ k_ ≠ gb362 ∧ k_ ≠ gb363 ∧ k_ ≠ gb374) (.slice A0 l0.length c0) l0) := ⟨by (with_reducible repeat (first | apply Kd.V_alloc | apply Kd.V_drewN | apply Kd.V_drew)); exact Kd.V_mono (Kd.V_far (p := ⟨gb363, 1, none⟩) (Kd.V_mono HO_364000.out (fun k_ hk => (⟨hk, hk.1.2.2.2.1⟩ : _ ∧ k_ ≠ gb363))) (fun _ hk => hk.2) (.slice Ao34 y375.length co34)) (fun _ hk => ⟨hk.1.1.1, ⟨hk.1.1.2.1, ⟨hk.1.2, ⟨hk.1.1.2.2.1, ⟨hk.1.1.2.2.2.1, hk.1.1.2.2.2.2⟩⟩⟩⟩⟩)⟩
               have n2_ : Aside0 (Kd.V k27 27 (w33.setCell ⟨gb363, 1, none⟩ (.slice Ao34 y375.length co34)) w.heap.size (fun k_ => (P0_ k_ ∨ w.heap.size ≤ k_) ∧ some k_ ≠ (v371 : Value).ownBlock ∧ some k_ ≠ (.slice Ao34 y375.length co34 : Value).ownBlock ∧ k_ ≠ gb362 ∧ k_ ≠ gb363 ∧ k_ ≠ gb374) (.slice (some ad373) y364.length c25) y364) := ⟨by (with_reducible repeat (first | apply Kd.V_alloc | apply Kd.V_drewN | apply Kd.V_drew)); exact Kd.V_mono (Kd.V_far (p := ⟨gb363, 1, none⟩) (Kd.V_mono HO368.out (fun k_ hk => (⟨hk, hk.1.2.2.2.1⟩ : _ ∧ k_ ≠ gb363))) (fun _ hk => hk.2) (.slice Ao34 y375.length co34)) (fun _ hk => ⟨hk.1.1.1, ⟨hk.1.1.2.1, ⟨hk.1.2, ⟨hk.1.1.2.2.1, ⟨hk.1.1.2.2.2.1, hk.1.1.2.2.2.2⟩⟩⟩⟩⟩)⟩
               have n3_ : Aside0 (Kd.R (Kd.int .i64) 3 (w33.setCell ⟨gb363, 1, none⟩ (.slice Ao34 y375.length co34)) w.heap.size (fun k_ => (w.heap.size ≤ k_)) v371 t370) := ⟨by (with_reducible repeat (first | apply Kd.R_alloc | apply Kd.R_drewN | apply Kd.R_drew)); exact Kd.R_mono (Kd.R_far (p := ⟨gb363, 1, none⟩) (Kd.R_types HO372.out BK363.out (by decide)) (fun _ hk => hk.2) (.slice Ao34 y375.length co34)) (fun _ hk => hk.1.1)⟩
               have n4_ : Aside0 (Kd.R k103 103 (w33.setCell ⟨gb363, 1, none⟩ (.slice Ao34 y375.length co34)) w.heap.size (fun k_ => (w.heap.size ≤ k_)) (.slice Ao34 y375.length co34) y375) := ⟨by (with_reducible repeat (first | apply Kd.R_alloc | apply Kd.R_drewN | apply Kd.R_drew)); exact Kd.R_mono (Kd.R_far (p := ⟨gb363, 1, none⟩) (Kd.R_types HO377.out BK363.out (by decide)) (fun _ hk => hk.2) (.slice Ao34 y375.length co34)) (fun _ hk => hk.1)⟩
               have n5_ : Aside0 ((w33.setCell ⟨gb363, 1, none⟩ (.slice Ao34 y375.length co34)).heap[gb362]? = some (.cells #[.slice none 0 0, .slice none 0 0, .int .i64 0, .string (⟨#[]⟩ : ByteArray), .int .i64 0] 82 (0, 0))) := ⟨by (with_reducible repeat (first | refine blk_drewN ?_ _ | refine blk_drew ?_ | refine blk_alloc ?_ _)); refine blk_far ?_ NB362_363.out _; (with_reducible repeat (first | refine blk_drewN ?_ _ | refine blk_drew ?_ | refine blk_alloc ?_ _)); exact BK362.out⟩
               have n6_ : Aside0 ((w33.setCell ⟨gb363, 1, none⟩ (.slice Ao34 y375.length co34)).heap[gb363]? = some (.cells #[.slice A0 l0.length c0, .slice Ao34 y375.length co34, .int .i64 0, .string (⟨#[]⟩ : ByteArray), .int .i64 0] 82 (0, 0))) := ⟨by (with_reducible repeat (first | refine blk_drewN ?_ _ | refine blk_drew ?_ | refine blk_alloc ?_ _)); refine blk_put (cs := #[.slice A0 l0.length c0, u364001, .int .i64 0, .string (⟨#[]⟩ : ByteArray), .int .i64 0]) ?_ 1 _ rfl; (with_reducible repeat (first | refine blk_drewN ?_ _ | refine blk_drew ?_ | refine blk_alloc ?_ _)); exact BK363.out⟩
               have n7_ : Aside0 ((w33.setCell ⟨gb363, 1, none⟩ (.slice Ao34 y375.length co34)).heap[gb374]? = some (.cells #[.string ((rd_T27 y364 (ji12)).f0), .int .i64 ((rd_T27 y364 (ji12)).f1), .int .i64 ((rd_T27 y364 (ji12)).f2), .string ((rd_T27 y364 (ji12)).f3)] 27 (0, 0))) := ⟨by (with_reducible repeat (first | refine blk_drewN ?_ _ | refine blk_drew ?_ | refine blk_alloc ?_ _)); refine blk_far ?_ NB374_363.out _; (with_reducible repeat (first | refine blk_drewN ?_ _ | refine blk_drew ?_ | refine blk_alloc ?_ _)); exact BK374.out⟩
               have n8_ : Aside0 (Below w.heap.size w (w33.setCell ⟨gb363, 1, none⟩ (.slice Ao34 y375.length co34))) := ⟨by repeat (first | (with_reducible first | exact HB.out | apply below_alloc | apply pw_below_drewN | apply below_drew1 | refine below_set ?_ GE362.out | refine below_set ?_ GE363.out | refine below_set ?_ GE374.out) | exact HB.out)⟩
               (try clear HO_0)
               (try clear HO_364000)
               (try clear HO368)
               (try clear HO372)
               (try clear HO377)
               (try clear BK362)
               (try clear BK363)
               (try clear BK374)
               (try clear HB)
               generalize (w33.setCell ⟨gb363, 1, none⟩ (.slice Ao34 y375.length co34)) = w36 at n0_ n1_ n2_ n3_ n4_ n5_ n6_ n7_ n8_ ⊢
               have HO_0 := n0_
               have HO_364000 := n1_
               have HO368 := n2_
               have HO372 := n3_
               have HO377 := n4_
               have BK362 := n5_
               have BK363 := n6_
               have BK374 := n7_
               have HB := n8_
               clear n0_ n1_ n2_ n3_ n4_ n5_ n6_ n7_ n8_
               have n0_ := Aside0.mk (Kd.V_drew HO_0.out)
               have n1_ := Aside0.mk (Kd.V_drew HO_364000.out)
               have n2_ := Aside0.mk (Kd.V_drew HO368.out)
               have n3_ := Aside0.mk (Kd.R_drew HO372.out)
               have n4_ := Aside0.mk (Kd.R_drew HO377.out)
               have n5_ := Aside0.mk (blk_drew BK362.out)
               have n6_ := Aside0.mk (blk_drew BK363.out)
               have n7_ := Aside0.mk (blk_drew BK374.out)
               have n8_ := Aside0.mk (below_drew1 HB.out)
               clear HO_0
               clear HO_364000
               clear HO368
               clear HO372
               clear HO377
               clear BK362
               clear BK363
               clear BK374
               clear HB
               have HO_0 := n0_
               have HO_364000 := n1_
               have HO368 := n2_
               have HO372 := n3_
               have HO377 := n4_
               have BK362 := n5_
               have BK363 := n6_
               have BK374 := n7_
               have HB := n8_
               clear n0_ n1_ n2_ n3_ n4_ n5_ n6_ n7_ n8_
               refine start_ (n := 18) (S := fun w' => w'.cell? ⟨gb374, 0, none⟩ = some (.string ((rd_T27 y364 (ji12)).f0)) ∧ w'.cell? ⟨gb374, 1, none⟩ = some (.int .i64 ((rd_T27 y364 (ji12)).f1)) ∧ w'.cell? ⟨gb374, 2, none⟩ = some (.int .i64 ((rd_T27 y364 (ji12)).f2)) ∧ w'.cell? ⟨gb374, 3, none⟩ = some (.string ((rd_T27 y364 (ji12)).f3))) (ds := []) #[false, false, false, false, false, false, false, false, false, false, false, false, false, false, false, false, false, false] (by kernel_rfl) rfl rfl ⟨(blk_cell BK374.out 0).trans rfl, (blk_cell BK374.out 1).trans rfl, (blk_cell BK374.out 2).trans rfl, (blk_cell BK374.out 3).trans rfl⟩ (fun hHeld => ?_); refine with_tabW impl_build.tab9 impl_build.bits9 (fun HT_ HW_ => ?_)
               generalize w36.drew = w37 at HO_0 HO_364000 HO368 HO372 HO377 BK362 BK363 BK374 HB hHeld ⊢
               refine pure_ (i := 0) (N := some 54) (v := ?_) (a' := ?_) #[true, false, false, false, false, false, false, false, false, false, false, false, false, false, false, false, false, false] rfl rfl (any_of HT_.out (by kernel_rfl)) (fun _ _ _ h => h) (Or.inl ⟨by rfl, ?_⟩) ?_ ?_
               rotate_left
               ·intro w'
                go_simp
                with_reducible rfl
               rotate_left
               ·simp only [Act.put, List.setIfInBounds_toArray, List.set_cons_zero, List.set_cons_succ, i64_w, i32_w]
                rfl
               refine pure_ (i := 1) (N := some 55) (v := ?_) (a' := ?_) #[true, true, false, false, false, false, false, false, false, false, false, false, false, false, false, false, false, false] rfl rfl (any_of HT_.out (by kernel_rfl)) (fun _ _ _ h => h) (Or.inl ⟨by rfl, ?_⟩) ?_ ?_
               rotate_left
               ·intro w'
                go_simp
                with_reducible rfl
               rotate_left
               ·simp only [Act.put, List.setIfInBounds_toArray, List.set_cons_zero, List.set_cons_succ, i64_w, i32_w]
                rfl
               refine pure_ (i := 4) (N := some 58) (v := ?_) (a' := ?_) #[true, true, false, false, true, false, false, false, false, false, false, false, false, false, false, false, false, false] rfl rfl (any_of HT_.out (by kernel_rfl)) (fun _ _ _ h => h) (Or.inl ⟨by rfl, ?_⟩) ?_ ?_
               rotate_left
               ·intro w'
                go_simp
                with_reducible rfl
               rotate_left
               ·simp only [Act.put, List.setIfInBounds_toArray, List.set_cons_zero, List.set_cons_succ, i64_w, i32_w]
                rfl
               refine pure_ (i := 8) (N := some 62) (v := ?_) (a' := ?_) #[true, true, false, false, true, false, false, false, true, false, false, false, false, false, false, false, false, false] rfl rfl (any_of HT_.out (by kernel_rfl)) (fun _ _ _ h => h) (Or.inl ⟨by rfl, ?_⟩) ?_ ?_
               rotate_left
               ·intro w'
                go_simp
                with_reducible rfl
               rotate_left
               ·simp only [Act.put, List.setIfInBounds_toArray, List.set_cons_zero, List.set_cons_succ, i64_w, i32_w]
                rfl
               refine pure_ (i := 9) (N := some 63) (v := ?_) (a' := ?_) #[true, true, false, false, true, false, false, false, true, true, false, false, false, false, false, false, false, false] rfl rfl (any_of HT_.out (by kernel_rfl)) (fun _ _ _ h => h) (Or.inl ⟨by rfl, ?_⟩) ?_ ?_
               rotate_left
               ·intro w'
                go_simp
                with_reducible rfl
               rotate_left
               ·simp only [Act.put, List.setIfInBounds_toArray, List.set_cons_zero, List.set_cons_succ, i64_w, i32_w]
                rfl
               refine pure_ (i := 12) (N := some 66) (v := ?_) (a' := ?_) #[true, true, false, false, true, false, false, false, true, true, false, false, true, false, false, false, false, false] rfl rfl (any_of HT_.out (by kernel_rfl)) (fun _ _ _ h => h) (Or.inl ⟨by rfl, ?_⟩) ?_ ?_
               rotate_left
               ·intro w'
                go_simp
                with_reducible rfl
               rotate_left
               ·simp only [Act.put, List.setIfInBounds_toArray, List.set_cons_zero, List.set_cons_succ, i64_w, i32_w]
                rfl
               refine pure_ (i := 13) (N := some 67) (v := ?_) (a' := ?_) #[true, true, false, false, true, false, false, false, true, true, false, false, true, true, false, false, false, false] rfl rfl (any_of HT_.out (by kernel_rfl)) (fun _ _ _ h => h) (Or.inl ⟨by rfl, ?_⟩) ?_ ?_
               rotate_left
               ·intro w'
                go_simp
                with_reducible rfl
               rotate_left
               ·simp only [Act.put, List.setIfInBounds_toArray, List.set_cons_zero, List.set_cons_succ, i64_w, i32_w]
                rfl
               refine take_ (i := 2) (N := some 56) (v := ?_) (a' := ?_) #[true, true, true, false, true, false, false, false, true, true, false, false, true, true, false, false, false, false] rfl rfl (take_ofW HT_.out HW_.out (by kernel_rfl)) (fun _ _ _ h => h) (Or.inl ⟨by rfl, ?_⟩) hHeld ?_ ?_
               rotate_left
               ·rintro w' ⟨s0, s1, s2, s3⟩
                go_simp
                with_reducible rfl
               rotate_left
               ·simp only [Act.put, List.setIfInBounds_toArray, List.set_cons_zero, List.set_cons_succ, i64_w, i32_w]
                rfl
               refine take_ (i := 5) (N := some 59) (v := ?_) (a' := ?_) #[true, true, true, false, true, true, false, false, true, true, false, false, true, true, false, false, false, false] rfl rfl (take_ofW HT_.out HW_.out (by kernel_rfl)) (fun _ _ _ h => h) (Or.inl ⟨by rfl, ?_⟩) hHeld ?_ ?_
               rotate_left
               ·rintro w' ⟨s0, s1, s2, s3⟩
                go_simp
                with_reducible rfl
               rotate_left
               ·simp only [Act.put, List.setIfInBounds_toArray, List.set_cons_zero, List.set_cons_succ, i64_w, i32_w]
                rfl
               refine one_ (i := 3) (N := some 57) #[true, true, true, true, true, true, false, false, true, true, false, false, true, true, false, false, false, false] rfl rfl (one_of HT_.out (by kernel_rfl)) (by decide) (fun K hK => ?_)
               refine goes_ Try.func80 (by kernel_rfl) rfl #[.string ((rd_T27 y364 (ji12)).f0)] (by rfl) rfl rfl (by (try simp only [List.map_toArray, List.map_cons, List.map_nil]); first | done | (simp only [hji12]; rfl) | rfl | (simp only [List.length_drop, List.length_take]; rfl)) ?_
               with_reducible refine (impl_sized.calls k1 ((rd_T27 y364 (ji12)).f0) t378 _ A16.out).mono ?_
               rintro e w38 ⟨rfl, hb⟩
               refine ⟨_, rfl, ?_⟩
               have n0_ := Aside0.mk (Kd.V_below (by (with_reducible repeat (first | apply Kd.V_alloc | apply Kd.V_drewN | apply Kd.V_drew)); exact HO_0.out) hb)
               have n1_ := Aside0.mk (Kd.V_below (by (with_reducible repeat (first | apply Kd.V_alloc | apply Kd.V_drewN | apply Kd.V_drew)); exact HO_364000.out) hb)
               have n2_ := Aside0.mk (Kd.V_below (by (with_reducible repeat (first | apply Kd.V_alloc | apply Kd.V_drewN | apply Kd.V_drew)); exact HO368.out) hb)
               have n3_ := Aside0.mk (Kd.R_below (by (with_reducible repeat (first | apply Kd.R_alloc | apply Kd.R_drewN | apply Kd.R_drew)); exact HO372.out) hb)
               have n4_ := Aside0.mk (Kd.R_below (by (with_reducible repeat (first | apply Kd.R_alloc | apply Kd.R_drewN | apply Kd.R_drew)); exact HO377.out) hb)
               have n5_ := Aside0.mk (blk_below (g := gb362) (o := .cells #[.slice none 0 0, .slice none 0 0, .int .i64 0, .string (⟨#[]⟩ : ByteArray), .int .i64 0] 82 (0, 0)) (by (with_reducible repeat (first | refine blk_drewN ?_ _ | refine blk_drew ?_ | refine blk_alloc ?_ _)); exact BK362.out) hb)
               have n6_ := Aside0.mk (blk_below (g := gb363) (o := .cells #[.slice A0 l0.length c0, .slice Ao34 y375.length co34, .int .i64 0, .string (⟨#[]⟩ : ByteArray), .int .i64 0] 82 (0, 0)) (by (with_reducible repeat (first | refine blk_drewN ?_ _ | refine blk_drew ?_ | refine blk_alloc ?_ _)); exact BK363.out) hb)
               have n7_ := Aside0.mk (blk_below (g := gb374) (o := .cells #[.string ((rd_T27 y364 (ji12)).f0), .int .i64 ((rd_T27 y364 (ji12)).f1), .int .i64 ((rd_T27 y364 (ji12)).f2), .string ((rd_T27 y364 (ji12)).f3)] 27 (0, 0)) (by (with_reducible repeat (first | refine blk_drewN ?_ _ | refine blk_drew ?_ | refine blk_alloc ?_ _)); exact BK374.out) hb)
               have n8_ := Aside0.mk (below_step (by repeat (first | (with_reducible first | exact HB.out | apply below_alloc | apply pw_below_drewN | apply below_drew1 | refine below_set ?_ GE362.out | refine below_set ?_ GE363.out | refine below_set ?_ GE374.out) | exact HB.out)) hb)
               clear HO_0
               clear HO_364000
               clear HO368
               clear HO372
               clear HO377
               clear BK362
               clear BK363
               clear BK374
               clear HB
               have HO_0 := n0_
               have HO_364000 := n1_
               have HO368 := n2_
               have HO372 := n3_
               have HO377 := n4_
               have BK362 := n5_
               have BK363 := n6_
               have BK374 := n7_
               have HB := n8_
               clear n0_ n1_ n2_ n3_ n4_ n5_ n6_ n7_ n8_
               (try clear hb)
               (try clear hb2)
               (try clear hk)
               (try clear hi)
               refine hK.out _ _ ⟨(blk_cell BK374.out 0).trans rfl, (blk_cell BK374.out 1).trans rfl, (blk_cell BK374.out 2).trans rfl, (blk_cell BK374.out 3).trans rfl⟩ (fun hHeld => ?_)
               clear hK K
               refine norm_ (a' := ?_) ?_ ?_
               rotate_left
               ·show Act.put _ (some 57) _ = _
                simp only [Act.put, List.setIfInBounds_toArray, List.set_cons_zero, List.set_cons_succ, i64_w, i32_w]
                rfl
               refine one_ (i := 6) (N := some 60) #[true, true, true, true, true, true, true, false, true, true, false, false, true, true, false, false, false, false] rfl rfl (one_of HT_.out (by kernel_rfl)) (by decide) (fun K hK => ?_)
               refine goes_ Try.func73 (by kernel_rfl) rfl #[.int .i64 ((rd_T27 y364 (ji12)).f1)] (by rfl) rfl rfl (by (try simp only [List.map_toArray, List.map_cons, List.map_nil]); first | done | (simp only [hji12]; rfl) | rfl | (simp only [List.length_drop, List.length_take]; rfl)) ?_
               with_reducible refine (impl_varBytes.calls k1 ((rd_T27 y364 (ji12)).f1) t379 _ A17.out).mono ?_
               rintro e w39 ⟨rfl, hb⟩
               refine ⟨_, rfl, ?_⟩
               have n0_ := Aside0.mk (Kd.V_below (by (with_reducible repeat (first | apply Kd.V_alloc | apply Kd.V_drewN | apply Kd.V_drew)); exact HO_0.out) hb)
               have n1_ := Aside0.mk (Kd.V_below (by (with_reducible repeat (first | apply Kd.V_alloc | apply Kd.V_drewN | apply Kd.V_drew)); exact HO_364000.out) hb)
               have n2_ := Aside0.mk (Kd.V_below (by (with_reducible repeat (first | apply Kd.V_alloc | apply Kd.V_drewN | apply Kd.V_drew)); exact HO368.out) hb)
               have n3_ := Aside0.mk (Kd.R_below (by (with_reducible repeat (first | apply Kd.R_alloc | apply Kd.R_drewN | apply Kd.R_drew)); exact HO372.out) hb)
               have n4_ := Aside0.mk (Kd.R_below (by (with_reducible repeat (first | apply Kd.R_alloc | apply Kd.R_drewN | apply Kd.R_drew)); exact HO377.out) hb)
               have n5_ := Aside0.mk (blk_below (g := gb362) (o := .cells #[.slice none 0 0, .slice none 0 0, .int .i64 0, .string (⟨#[]⟩ : ByteArray), .int .i64 0] 82 (0, 0)) (by (with_reducible repeat (first | refine blk_drewN ?_ _ | refine blk_drew ?_ | refine blk_alloc ?_ _)); exact BK362.out) hb)
               have n6_ := Aside0.mk (blk_below (g := gb363) (o := .cells #[.slice A0 l0.length c0, .slice Ao34 y375.length co34, .int .i64 0, .string (⟨#[]⟩ : ByteArray), .int .i64 0] 82 (0, 0)) (by (with_reducible repeat (first | refine blk_drewN ?_ _ | refine blk_drew ?_ | refine blk_alloc ?_ _)); exact BK363.out) hb)
               have n7_ := Aside0.mk (blk_below (g := gb374) (o := .cells #[.string ((rd_T27 y364 (ji12)).f0), .int .i64 ((rd_T27 y364 (ji12)).f1), .int .i64 ((rd_T27 y364 (ji12)).f2), .string ((rd_T27 y364 (ji12)).f3)] 27 (0, 0)) (by (with_reducible repeat (first | refine blk_drewN ?_ _ | refine blk_drew ?_ | refine blk_alloc ?_ _)); exact BK374.out) hb)
               have n8_ := Aside0.mk (below_step (by repeat (first | (with_reducible first | exact HB.out | apply below_alloc | apply pw_below_drewN | apply below_drew1 | refine below_set ?_ GE362.out | refine below_set ?_ GE363.out | refine below_set ?_ GE374.out) | exact HB.out)) hb)
               clear HO_0
               clear HO_364000
               clear HO368
               clear HO372
               clear HO377
               clear BK362
               clear BK363
               clear BK374
               clear HB
               have HO_0 := n0_
               have HO_364000 := n1_
               have HO368 := n2_
               have HO372 := n3_
               have HO377 := n4_
               have BK362 := n5_
               have BK363 := n6_
               have BK374 := n7_
               have HB := n8_
               clear n0_ n1_ n2_ n3_ n4_ n5_ n6_ n7_ n8_
               (try clear hb)
               (try clear hb2)
               (try clear hk)
               (try clear hi)
               refine hK.out _ _ ⟨(blk_cell BK374.out 0).trans rfl, (blk_cell BK374.out 1).trans rfl, (blk_cell BK374.out 2).trans rfl, (blk_cell BK374.out 3).trans rfl⟩ (fun hHeld => ?_)
               clear hK K
               refine norm_ (a' := ?_) ?_ ?_
               rotate_left
               ·show Act.put _ (some 60) _ = _
                simp only [Act.put, List.setIfInBounds_toArray, List.set_cons_zero, List.set_cons_succ, i64_w, i32_w]
                rfl
               refine pure_ (i := 7) (N := some 61) (v := ?_) (a' := ?_) #[true, true, true, true, true, true, true, true, true, true, false, false, true, true, false, false, false, false] rfl rfl (any_of HT_.out (by kernel_rfl)) (fun _ _ _ h => h) (Or.inl ⟨by rfl, ?_⟩) ?_ ?_
               rotate_left
               ·intro w'
                go_simp
                with_reducible rfl
               rotate_left
               ·simp only [Act.put, List.setIfInBounds_toArray, List.set_cons_zero, List.set_cons_succ, i64_w, i32_w]
                rfl
               refine one_ (i := 10) (N := some 64) #[true, true, true, true, true, true, true, true, true, true, true, false, true, true, false, false, false, false] rfl rfl (one_of HT_.out (by kernel_rfl)) (by decide) (fun K hK => ?_)
               refine goes_ Try.func73 (by kernel_rfl) rfl #[.int .i64 (x5_1.size : Int)] (by rfl) rfl rfl (by (try simp only [List.map_toArray, List.map_cons, List.map_nil]); first | done | rfl | (simp only [List.length_drop, List.length_take]; rfl)) ?_
               with_reducible refine (impl_varBytes.calls k1 (x5_1.size : Int) t380 _ A19.out).mono ?_
               rintro e w40 ⟨rfl, hb⟩
               refine ⟨_, rfl, ?_⟩
               have n0_ := Aside0.mk (Kd.V_below (by (with_reducible repeat (first | apply Kd.V_alloc | apply Kd.V_drewN | apply Kd.V_drew)); exact HO_0.out) hb)
               have n1_ := Aside0.mk (Kd.V_below (by (with_reducible repeat (first | apply Kd.V_alloc | apply Kd.V_drewN | apply Kd.V_drew)); exact HO_364000.out) hb)
               have n2_ := Aside0.mk (Kd.V_below (by (with_reducible repeat (first | apply Kd.V_alloc | apply Kd.V_drewN | apply Kd.V_drew)); exact HO368.out) hb)
               have n3_ := Aside0.mk (Kd.R_below (by (with_reducible repeat (first | apply Kd.R_alloc | apply Kd.R_drewN | apply Kd.R_drew)); exact HO372.out) hb)
               have n4_ := Aside0.mk (Kd.R_below (by (with_reducible repeat (first | apply Kd.R_alloc | apply Kd.R_drewN | apply Kd.R_drew)); exact HO377.out) hb)
               have n5_ := Aside0.mk (blk_below (g := gb362) (o := .cells #[.slice none 0 0, .slice none 0 0, .int .i64 0, .string (⟨#[]⟩ : ByteArray), .int .i64 0] 82 (0, 0)) (by (with_reducible repeat (first | refine blk_drewN ?_ _ | refine blk_drew ?_ | refine blk_alloc ?_ _)); exact BK362.out) hb)
               have n6_ := Aside0.mk (blk_below (g := gb363) (o := .cells #[.slice A0 l0.length c0, .slice Ao34 y375.length co34, .int .i64 0, .string (⟨#[]⟩ : ByteArray), .int .i64 0] 82 (0, 0)) (by (with_reducible repeat (first | refine blk_drewN ?_ _ | refine blk_drew ?_ | refine blk_alloc ?_ _)); exact BK363.out) hb)
               have n7_ := Aside0.mk (blk_below (g := gb374) (o := .cells #[.string ((rd_T27 y364 (ji12)).f0), .int .i64 ((rd_T27 y364 (ji12)).f1), .int .i64 ((rd_T27 y364 (ji12)).f2), .string ((rd_T27 y364 (ji12)).f3)] 27 (0, 0)) (by (with_reducible repeat (first | refine blk_drewN ?_ _ | refine blk_drew ?_ | refine blk_alloc ?_ _)); exact BK374.out) hb)
               have n8_ := Aside0.mk (below_step (by repeat (first | (with_reducible first | exact HB.out | apply below_alloc | apply pw_below_drewN | apply below_drew1 | refine below_set ?_ GE362.out | refine below_set ?_ GE363.out | refine below_set ?_ GE374.out) | exact HB.out)) hb)
               clear HO_0
               clear HO_364000
               clear HO368
               clear HO372
               clear HO377
               clear BK362
               clear BK363
               clear BK374
               clear HB
               have HO_0 := n0_
               have HO_364000 := n1_
               have HO368 := n2_
               have HO372 := n3_
               have HO377 := n4_
               have BK362 := n5_
               have BK363 := n6_
               have BK374 := n7_
               have HB := n8_
               clear n0_ n1_ n2_ n3_ n4_ n5_ n6_ n7_ n8_
               (try clear hb)
               (try clear hb2)
               (try clear hk)
               (try clear hi)
               refine hK.out _ _ ⟨(blk_cell BK374.out 0).trans rfl, (blk_cell BK374.out 1).trans rfl, (blk_cell BK374.out 2).trans rfl, (blk_cell BK374.out 3).trans rfl⟩ (fun hHeld => ?_)
               clear hK K
               refine norm_ (a' := ?_) ?_ ?_
               rotate_left
               ·show Act.put _ (some 64) _ = _
                simp only [Act.put, List.setIfInBounds_toArray, List.set_cons_zero, List.set_cons_succ, i64_w, i32_w]
                rfl
               refine pure_ (i := 11) (N := some 65) (v := ?_) (a' := ?_) #[true, true, true, true, true, true, true, true, true, true, true, true, true, true, false, false, false, false] rfl rfl (any_of HT_.out (by kernel_rfl)) (fun _ _ _ h => h) (Or.inl ⟨by rfl, ?_⟩) ?_ ?_
               rotate_left
               ·intro w'
                go_simp
                with_reducible rfl
               rotate_left
               ·simp only [Act.put, List.setIfInBounds_toArray, List.set_cons_zero, List.set_cons_succ, i64_w, i32_w]
                rfl
               refine one_ (i := 14) (N := some 68) #[true, true, true, true, true, true, true, true, true, true, true, true, true, true, true, false, false, false] rfl rfl (one_of HT_.out (by kernel_rfl)) (by decide) (fun K hK => ?_)
               refine goes_ Try.func73 (by kernel_rfl) rfl #[.int .i64 (t369.size : Int)] (by rfl) rfl rfl (by (try simp only [List.map_toArray, List.map_cons, List.map_nil]); first | done | rfl | (simp only [List.length_drop, List.length_take]; rfl)) ?_
               with_reducible refine (impl_varBytes.calls k1 (t369.size : Int) t381 _ A21.out).mono ?_
               rintro e w41 ⟨rfl, hb⟩
               refine ⟨_, rfl, ?_⟩
               have n0_ := Aside0.mk (Kd.V_below (by (with_reducible repeat (first | apply Kd.V_alloc | apply Kd.V_drewN | apply Kd.V_drew)); exact HO_0.out) hb)
               have n1_ := Aside0.mk (Kd.V_below (by (with_reducible repeat (first | apply Kd.V_alloc | apply Kd.V_drewN | apply Kd.V_drew)); exact HO_364000.out) hb)
               have n2_ := Aside0.mk (Kd.V_below (by (with_reducible repeat (first | apply Kd.V_alloc | apply Kd.V_drewN | apply Kd.V_drew)); exact HO368.out) hb)
               have n3_ := Aside0.mk (Kd.R_below (by (with_reducible repeat (first | apply Kd.R_alloc | apply Kd.R_drewN | apply Kd.R_drew)); exact HO372.out) hb)
               have n4_ := Aside0.mk (Kd.R_below (by (with_reducible repeat (first | apply Kd.R_alloc | apply Kd.R_drewN | apply Kd.R_drew)); exact HO377.out) hb)
               have n5_ := Aside0.mk (blk_below (g := gb362) (o := .cells #[.slice none 0 0, .slice none 0 0, .int .i64 0, .string (⟨#[]⟩ : ByteArray), .int .i64 0] 82 (0, 0)) (by (with_reducible repeat (first | refine blk_drewN ?_ _ | refine blk_drew ?_ | refine blk_alloc ?_ _)); exact BK362.out) hb)
               have n6_ := Aside0.mk (blk_below (g := gb363) (o := .cells #[.slice A0 l0.length c0, .slice Ao34 y375.length co34, .int .i64 0, .string (⟨#[]⟩ : ByteArray), .int .i64 0] 82 (0, 0)) (by (with_reducible repeat (first | refine blk_drewN ?_ _ | refine blk_drew ?_ | refine blk_alloc ?_ _)); exact BK363.out) hb)
               have n7_ := Aside0.mk (blk_below (g := gb374) (o := .cells #[.string ((rd_T27 y364 (ji12)).f0), .int .i64 ((rd_T27 y364 (ji12)).f1), .int .i64 ((rd_T27 y364 (ji12)).f2), .string ((rd_T27 y364 (ji12)).f3)] 27 (0, 0)) (by (with_reducible repeat (first | refine blk_drewN ?_ _ | refine blk_drew ?_ | refine blk_alloc ?_ _)); exact BK374.out) hb)
               have n8_ := Aside0.mk (below_step (by repeat (first | (with_reducible first | exact HB.out | apply below_alloc | apply pw_below_drewN | apply below_drew1 | refine below_set ?_ GE362.out | refine below_set ?_ GE363.out | refine below_set ?_ GE374.out) | exact HB.out)) hb)
               clear HO_0
               clear HO_364000
               clear HO368
               clear HO372
               clear HO377
               clear BK362
               clear BK363
               clear BK374
               clear HB
               have HO_0 := n0_
               have HO_364000 := n1_
               have HO368 := n2_
               have HO372 := n3_
               have HO377 := n4_
               have BK362 := n5_
               have BK363 := n6_
               have BK374 := n7_
               have HB := n8_
               clear n0_ n1_ n2_ n3_ n4_ n5_ n6_ n7_ n8_
               (try clear hb)
               (try clear hb2)
               (try clear hk)
               (try clear hi)
               refine hK.out _ _ ⟨(blk_cell BK374.out 0).trans rfl, (blk_cell BK374.out 1).trans rfl, (blk_cell BK374.out 2).trans rfl, (blk_cell BK374.out 3).trans rfl⟩ (fun hHeld => ?_)
               clear hK K
               refine norm_ (a' := ?_) ?_ ?_
               rotate_left
               ·show Act.put _ (some 68) _ = _
                simp only [Act.put, List.setIfInBounds_toArray, List.set_cons_zero, List.set_cons_succ, i64_w, i32_w]
                rfl
               refine pure_ (i := 15) (N := some 69) (v := ?_) (a' := ?_) #[true, true, true, true, true, true, true, true, true, true, true, true, true, true, true, true, false, false] rfl rfl (any_of HT_.out (by kernel_rfl)) (fun _ _ _ h => h) (Or.inl ⟨by rfl, ?_⟩) ?_ ?_
               rotate_left
               ·intro w'
                go_simp
                with_reducible rfl
               rotate_left
               ·simp only [Act.put, List.setIfInBounds_toArray, List.set_cons_zero, List.set_cons_succ, i64_w, i32_w]
                rfl
               refine pure_ (i := 16) (N := some 70) (v := ?_) (a' := ?_) #[true, true, true, true, true, true, true, true, true, true, true, true, true, true, true, true, true, false] rfl rfl (any_of HT_.out (by kernel_rfl)) (fun _ _ _ h => h) (Or.inl ⟨by rfl, ?_⟩) ?_ ?_
               rotate_left
               ·intro w'
                go_simp
                with_reducible rfl
               rotate_left
               ·simp only [Act.put, List.setIfInBounds_toArray, List.set_cons_zero, List.set_cons_succ, i64_w, i32_w]
                rfl
               refine pure_ (i := 17) (N := some 6) (v := ?_) (a' := ?_) #[true, true, true, true, true, true, true, true, true, true, true, true, true, true, true, true, true, true] rfl rfl (any_of HT_.out (by kernel_rfl)) (fun _ _ _ h => h) (Or.inl ⟨by rfl, ?_⟩) ?_ ?_
               rotate_left
               ·intro w'
                go_simp
                with_reducible rfl
               rotate_left
               ·simp only [Act.put, List.setIfInBounds_toArray, List.set_cons_zero, List.set_cons_succ, i64_w, i32_w]
                rfl
               refine done_ (done_of HT_.out (by kernel_rfl)) ?_
               try go_wp2
               go_roundg k1
               case measure => have := HK1.out; omega
               case rel => exact ⟨(x5_1 ++ t369), (x6_1 ++ (((t378 ++ t379) ++ t380) ++ t381)), (wrap64 (x7_1 + 8)), (y375), (.slice Ao34 y375.length co34), (by first | rfl | (simp; done) | (simp [*]; done)), (by first | rfl | (simp; done) | (simp [*]; done)), (by first | rfl | (simp; done) | (simp [*]; done)), H', ⟨by have := HK1.out; omega⟩, ⟨by (with_reducible repeat (first | apply Kd.V_alloc | apply Kd.V_drewN | apply Kd.V_drew)); exact Kd.V_mono HO_0.out (fun _ hk => ⟨hk.1, ⟨hk.2.2.1, ⟨hk.2.2.2.1, hk.2.2.2.2.1⟩⟩⟩)⟩, ⟨by (with_reducible repeat (first | apply Kd.V_alloc | apply Kd.V_drewN | apply Kd.V_drew)); exact Kd.V_mono HO_364000.out (fun _ hk => ⟨hk.1, ⟨hk.2.2.1, ⟨hk.2.2.2.1, hk.2.2.2.2.1⟩⟩⟩)⟩, ⟨by (with_reducible repeat (first | apply Kd.R_alloc | apply Kd.R_drewN | apply Kd.R_drew)); exact HO377.out⟩, ⟨by (with_reducible repeat (first | refine blk_drewN ?_ _ | refine blk_drew ?_ | refine blk_alloc ?_ _)); exact BK362.out⟩, ⟨by (with_reducible repeat (first | refine blk_drewN ?_ _ | refine blk_drew ?_ | refine blk_alloc ?_ _)); exact BK363.out⟩, ⟨by repeat (first | (with_reducible first | exact HB.out | apply below_alloc | apply pw_below_drewN | apply below_drew1 | refine below_set ?_ GE362.out | refine below_set ?_ GE363.out | refine below_set ?_ GE374.out) | exact HB.out)⟩⟩
              ·rw [if_neg c24] at H
               exact absurd H (by simp)
             ·rw [if_neg c23] at H
              exact absurd H (by simp)
            ·rw [if_neg c22] at H
             exact absurd H (by simp)
           ·rw [if_neg c20] at H
            exact absurd H (by simp)
          ·rw [if_neg c18] at H
           exact absurd H (by simp)
         ·rw [if_neg c15] at H
          exact absurd H (by simp)
        ·rw [if_neg c14] at H
         exact absurd H (by simp)
       ·rw [if_neg c13] at H
        exact absurd H (by simp)
      ·rw [if_neg c10] at H
       exact absurd H (by simp)
     ·rw [if_neg c9] at H
      exact absurd H (by simp)
    ·rw [if_neg c8] at H
     exact absurd H (by simp)
   ·rw [if_neg c6] at H
    have c6b0 : decide (x7_1 < (l0.length : Int)) = false := decide_eq_false c6
    clear c6
    replace H := Option.bind_eq_some_iff.mp H
    obtain ⟨t382, A420, H⟩ := H
    replace H : ((impl_FilterOf.f k1 t382 4).bind fun bt385 => ((impl_lowFirst.f k1 (((x5_1.size : Int)) % 4294967296) 4).bind fun t389 => ((impl_frame.f k1 x6_1).bind fun t390 => (if x5_1.size + t390.size ≤ 9223372036854775807 then ((impl_frame.f k1 bt385.2.1).bind fun t391 => (if x5_1.size + t390.size + t391.size ≤ 9223372036854775807 then (if (x5_1.size + t390.size) + t391.size + t389.size ≤ 9223372036854775807 then ((impl_SumOf.f k1 t389).bind fun t392 => ((impl_lowFirst.f k1 t392 4).bind fun t393 => (if ((x5_1.size + t390.size) + t391.size) + t389.size + t393.size ≤ 9223372036854775807 then (some (l0, x364001_1, bt385.1, bt385.2.1, bt385.2.2.1, (((x5_1 ++ t390) ++ t391) ++ t389) ++ t393)) else (none)))) else (none)) else (none))) else (none))))) = some (r1, r2, r3, r4, r5, r6) := H
    have A42 := Aside0.mk A420
    clear A420
    replace H := Option.bind_eq_some_iff.mp H
    obtain ⟨⟨t385, t386, t387, t388⟩, A430, H⟩ := H
    replace H : ((impl_lowFirst.f k1 (((x5_1.size : Int)) % 4294967296) 4).bind fun t389 => ((impl_frame.f k1 x6_1).bind fun t390 => (if x5_1.size + t390.size ≤ 9223372036854775807 then ((impl_frame.f k1 t386).bind fun t391 => (if x5_1.size + t390.size + t391.size ≤ 9223372036854775807 then (if (x5_1.size + t390.size) + t391.size + t389.size ≤ 9223372036854775807 then ((impl_SumOf.f k1 t389).bind fun t392 => ((impl_lowFirst.f k1 t392 4).bind fun t393 => (if ((x5_1.size + t390.size) + t391.size) + t389.size + t393.size ≤ 9223372036854775807 then (some (l0, x364001_1, t385, t386, t387, (((x5_1 ++ t390) ++ t391) ++ t389) ++ t393)) else (none)))) else (none)) else (none))) else (none)))) = some (r1, r2, r3, r4, r5, r6) := H
    have A43 := Aside0.mk A430
    clear A430
    replace H := Option.bind_eq_some_iff.mp H
    obtain ⟨t389, A440, H⟩ := H
    replace H : ((impl_frame.f k1 x6_1).bind fun t390 => (if x5_1.size + t390.size ≤ 9223372036854775807 then ((impl_frame.f k1 t386).bind fun t391 => (if x5_1.size + t390.size + t391.size ≤ 9223372036854775807 then (if (x5_1.size + t390.size) + t391.size + t389.size ≤ 9223372036854775807 then ((impl_SumOf.f k1 t389).bind fun t392 => ((impl_lowFirst.f k1 t392 4).bind fun t393 => (if ((x5_1.size + t390.size) + t391.size) + t389.size + t393.size ≤ 9223372036854775807 then (some (l0, x364001_1, t385, t386, t387, (((x5_1 ++ t390) ++ t391) ++ t389) ++ t393)) else (none)))) else (none)) else (none))) else (none))) = some (r1, r2, r3, r4, r5, r6) := H
    have A44 := Aside0.mk A440
    clear A440
    replace H := Option.bind_eq_some_iff.mp H
    obtain ⟨t390, A450, H⟩ := H
    replace H : (if x5_1.size + t390.size ≤ 9223372036854775807 then ((impl_frame.f k1 t386).bind fun t391 => (if x5_1.size + t390.size + t391.size ≤ 9223372036854775807 then (if (x5_1.size + t390.size) + t391.size + t389.size ≤ 9223372036854775807 then ((impl_SumOf.f k1 t389).bind fun t392 => ((impl_lowFirst.f k1 t392 4).bind fun t393 => (if ((x5_1.size + t390.size) + t391.size) + t389.size + t393.size ≤ 9223372036854775807 then (some (l0, x364001_1, t385, t386, t387, (((x5_1 ++ t390) ++ t391) ++ t389) ++ t393)) else (none)))) else (none)) else (none))) else (none)) = some (r1, r2, r3, r4, r5, r6) := H
    have A45 := Aside0.mk A450
    clear A450
    by_cases c46 : x5_1.size + t390.size ≤ 9223372036854775807
    ·rw [if_pos c46] at H
     have c46b0 := eq_true c46
     have c46b1 : decide (x5_1.size + t390.size ≤ 9223372036854775807) = true := decide_eq_true c46
     try have c46b2 : (9223372036854775807 < x5_1.size + t390.size) = False := eq_false (Nat.not_lt.2 c46)
     replace H := Option.bind_eq_some_iff.mp H
     obtain ⟨t391, A470, H⟩ := H
     replace H : (if x5_1.size + t390.size + t391.size ≤ 9223372036854775807 then (if (x5_1.size + t390.size) + t391.size + t389.size ≤ 9223372036854775807 then ((impl_SumOf.f k1 t389).bind fun t392 => ((impl_lowFirst.f k1 t392 4).bind fun t393 => (if ((x5_1.size + t390.size) + t391.size) + t389.size + t393.size ≤ 9223372036854775807 then (some (l0, x364001_1, t385, t386, t387, (((x5_1 ++ t390) ++ t391) ++ t389) ++ t393)) else (none)))) else (none)) else (none)) = some (r1, r2, r3, r4, r5, r6) := H
     have A47 := Aside0.mk A470
     clear A470
     by_cases c48 : x5_1.size + t390.size + t391.size ≤ 9223372036854775807
     ·rw [if_pos c48] at H
      have c48b0 := eq_true c48
      have c48b1 : decide (x5_1.size + t390.size + t391.size ≤ 9223372036854775807) = true := decide_eq_true c48
      try have c48b2 : (9223372036854775807 < x5_1.size + t390.size + t391.size) = False := eq_false (Nat.not_lt.2 c48)
      by_cases c49 : (x5_1.size + t390.size) + t391.size + t389.size ≤ 9223372036854775807
      ·rw [if_pos c49] at H
       have c49b0 := eq_true c49
       have c49b1 : decide ((x5_1.size + t390.size) + t391.size + t389.size ≤ 9223372036854775807) = true := decide_eq_true c49
       try have c49b2 : (9223372036854775807 < (x5_1.size + t390.size) + t391.size + t389.size) = False := eq_false (Nat.not_lt.2 c49)
       replace H := Option.bind_eq_some_iff.mp H
       obtain ⟨t392, A500, H⟩ := H
       replace H : ((impl_lowFirst.f k1 t392 4).bind fun t393 => (if ((x5_1.size + t390.size) + t391.size) + t389.size + t393.size ≤ 9223372036854775807 then (some (l0, x364001_1, t385, t386, t387, (((x5_1 ++ t390) ++ t391) ++ t389) ++ t393)) else (none))) = some (r1, r2, r3, r4, r5, r6) := H
       have A50 := Aside0.mk A500
       clear A500
       replace H := Option.bind_eq_some_iff.mp H
       obtain ⟨t393, A510, H⟩ := H
       replace H : (if ((x5_1.size + t390.size) + t391.size) + t389.size + t393.size ≤ 9223372036854775807 then (some (l0, x364001_1, t385, t386, t387, (((x5_1 ++ t390) ++ t391) ++ t389) ++ t393)) else (none)) = some (r1, r2, r3, r4, r5, r6) := H
       have A51 := Aside0.mk A510
       clear A510
       by_cases c52 : ((x5_1.size + t390.size) + t391.size) + t389.size + t393.size ≤ 9223372036854775807
       ·rw [if_pos c52] at H
        have c52b0 := eq_true c52
        have c52b1 : decide (((x5_1.size + t390.size) + t391.size) + t389.size + t393.size ≤ 9223372036854775807) = true := decide_eq_true c52
        try have c52b2 : (9223372036854775807 < ((x5_1.size + t390.size) + t391.size) + t389.size + t393.size) = False := eq_false (Nat.not_lt.2 c52)
        simp only [Option.some.injEq, Prod.mk.injEq] at H
        obtain ⟨rfl, rfl, rfl, rfl, rfl, rfl⟩ := H
        try go_wp2_with (first | ((with_reducible refine gate_callee (f := 82) rfl ?_); refine goesL_ (some 76) rfl rfl Try.func82 (by kernel_rfl) rfl #[.slice A0 l0.length c0] rfl (by (try simp only [List.map_toArray, List.map_cons, List.map_nil]); first | done | rfl | (simp only [List.length_drop, List.length_take]; rfl)) ?_; (with_reducible refine (impl_tableKeys.calls k1 _ _ l0 t382 _ ?side1 ?side2 A42.out).mono ?_); (case side1 => repeat (first | exact (Kd.V_reads' HO_0.out).2.2 | (with_reducible refine Kd.C_alloc ?_ _) | (with_reducible refine Kd.C_drewN ?_ _) | (with_reducible refine Kd.C_drew ?_))); (case side2 => exact (Kd.V_reads' HO_0.out).2.1); rintro e w53 ⟨v383, rfl, ho0, hb⟩; refine ⟨_, rfl, ?_⟩; have n0_ := Aside0.mk (Kd.V_elder' (by (with_reducible repeat (first | apply Kd.V_alloc | apply Kd.V_drewN | apply Kd.V_drew)); exact HO_0.out) (Kd.R_base ho0) hb); have n1_ := Aside0.mk (Kd.V_elder' (by (with_reducible repeat (first | apply Kd.V_alloc | apply Kd.V_drewN | apply Kd.V_drew)); exact HO_364000.out) (Kd.R_base ho0) hb); have n2_ := Aside0.mk (Kd.R_below (by (with_reducible repeat (first | apply Kd.R_alloc | apply Kd.R_drewN | apply Kd.R_drew)); exact HO_364001.out) hb); have n3_ := Aside0.mk (Kd.R_lower (Kd.R_newM (M := fun k_ => (w.heap.size ≤ k_)) ho0 (below_size (by repeat (first | (with_reducible first | exact HB.out | apply below_alloc | apply pw_below_drewN | apply below_drew1 | refine below_set ?_ GE362.out | refine below_set ?_ GE363.out) | exact HB.out))) (fun k_ h_ => h_)) (below_size (by repeat (first | (with_reducible first | exact HB.out | apply below_alloc | apply pw_below_drewN | apply below_drew1 | refine below_set ?_ GE362.out | refine below_set ?_ GE363.out) | exact HB.out)))); have n4_ := Aside0.mk (blk_below (g := gb362) (o := .cells #[.slice none 0 0, .slice none 0 0, .int .i64 0, .string (⟨#[]⟩ : ByteArray), .int .i64 0] 82 (0, 0)) (by (with_reducible repeat (first | refine blk_drewN ?_ _ | refine blk_drew ?_ | refine blk_alloc ?_ _)); exact BK362.out) hb); have n5_ := Aside0.mk (blk_below (g := gb363) (o := .cells #[.slice A0 l0.length c0, u364001, .int .i64 0, .string (⟨#[]⟩ : ByteArray), .int .i64 0] 82 (0, 0)) (by (with_reducible repeat (first | refine blk_drewN ?_ _ | refine blk_drew ?_ | refine blk_alloc ?_ _)); exact BK363.out) hb); have n6_ := Aside0.mk (below_step (by repeat (first | (with_reducible first | exact HB.out | apply below_alloc | apply pw_below_drewN | apply below_drew1 | refine below_set ?_ GE362.out | refine below_set ?_ GE363.out) | exact HB.out)) hb); clear HO_0; clear HO_364000; clear HO_364001; clear BK362; clear BK363; clear HB; have HO_0 := n0_; have HO_364000 := n1_; have HO_364001 := n2_; have HO384 := n3_; have BK362 := n4_; have BK363 := n5_; have HB := n6_; clear n0_ n1_ n2_ n3_ n4_ n5_ n6_; (try clear hb); (try clear hb2); (try clear hk); (try clear hi); (try clear ho0); obtain ⟨Ao54, co54, eo54⟩ := Kd.R_slice HO384.out; subst eo54) | ((with_reducible refine gate_callee (f := 81) rfl ?_); refine goesL_ (some 77) rfl rfl Try.func81 (by kernel_rfl) rfl #[.slice Ao54 t382.length co54, .int .i64 4] rfl (by (try simp only [List.map_toArray, List.map_cons, List.map_nil]); first | done | rfl | (simp only [List.length_drop, List.length_take]; rfl)) ?_; (with_reducible refine (impl_FilterOf.calls k1 _ _ t382 4 t385 t386 t387 t388 _ ?side1 ?side2 A43.out).mono ?_); (case side1 => repeat (first | exact (Kd.R_reads' HO384.out).2.2 | (with_reducible refine Kd.C_alloc ?_ _) | (with_reducible refine Kd.C_drewN ?_ _) | (with_reducible refine Kd.C_drew ?_))); (case side2 => exact (Kd.R_reads' HO384.out).2.1); rintro e w55 ⟨rfl, hb⟩; refine ⟨_, rfl, ?_⟩; have n0_ := Aside0.mk (Kd.V_below (by (with_reducible repeat (first | apply Kd.V_alloc | apply Kd.V_drewN | apply Kd.V_drew)); exact HO_0.out) hb); have n1_ := Aside0.mk (Kd.V_below (by (with_reducible repeat (first | apply Kd.V_alloc | apply Kd.V_drewN | apply Kd.V_drew)); exact HO_364000.out) hb); have n2_ := Aside0.mk (Kd.R_below (by (with_reducible repeat (first | apply Kd.R_alloc | apply Kd.R_drewN | apply Kd.R_drew)); exact HO_364001.out) hb); have n3_ := Aside0.mk (Kd.R_below (by (with_reducible repeat (first | apply Kd.R_alloc | apply Kd.R_drewN | apply Kd.R_drew)); exact HO384.out) hb); have n4_ := Aside0.mk (blk_below (g := gb362) (o := .cells #[.slice none 0 0, .slice none 0 0, .int .i64 0, .string (⟨#[]⟩ : ByteArray), .int .i64 0] 82 (0, 0)) (by (with_reducible repeat (first | refine blk_drewN ?_ _ | refine blk_drew ?_ | refine blk_alloc ?_ _)); exact BK362.out) hb); have n5_ := Aside0.mk (blk_below (g := gb363) (o := .cells #[.slice A0 l0.length c0, u364001, .int .i64 0, .string (⟨#[]⟩ : ByteArray), .int .i64 0] 82 (0, 0)) (by (with_reducible repeat (first | refine blk_drewN ?_ _ | refine blk_drew ?_ | refine blk_alloc ?_ _)); exact BK363.out) hb); have n6_ := Aside0.mk (below_step (by repeat (first | (with_reducible first | exact HB.out | apply below_alloc | apply pw_below_drewN | apply below_drew1 | refine below_set ?_ GE362.out | refine below_set ?_ GE363.out) | exact HB.out)) hb); clear HO_0; clear HO_364000; clear HO_364001; clear HO384; clear BK362; clear BK363; clear HB; have HO_0 := n0_; have HO_364000 := n1_; have HO_364001 := n2_; have HO384 := n3_; have BK362 := n4_; have BK363 := n5_; have HB := n6_; clear n0_ n1_ n2_ n3_ n4_ n5_ n6_; (try clear hb); (try clear hb2); (try clear hk); (try clear hi); have hnb56 := NB363_362.out; have hnc56 := NB362_363.out; have hcz57_0 : w55.cell? ⟨gb363, 0, none⟩ = some (.slice A0 l0.length c0) := (blk_cell BK363.out 0).trans rfl; have hcz57_1 : w55.cell? ⟨gb363, 1, none⟩ = some (u364001) := (blk_cell BK363.out 1).trans rfl; have hcz57_2 : w55.cell? ⟨gb363, 2, none⟩ = some (.int .i64 0) := (blk_cell BK363.out 2).trans rfl; have hcz57_3 : w55.cell? ⟨gb363, 3, none⟩ = some (.string (⟨#[]⟩ : ByteArray)) := (blk_cell BK363.out 3).trans rfl; have hcz57_4 : w55.cell? ⟨gb363, 4, none⟩ = some (.int .i64 0) := (blk_cell BK363.out 4).trans rfl; have hfz57_0 := blk_frozen BK363.out 0; have hfz57_1 := blk_frozen BK363.out 1; have hfz57_2 := blk_frozen BK363.out 2; have hfz57_3 := blk_frozen BK363.out 3; have hfz57_4 := blk_frozen BK363.out 4) | ((with_reducible refine gate_callee (f := 74) rfl ?_); refine goesL_ (some 84) rfl rfl Try.func74 (by kernel_rfl) rfl #[.int .u32 (((x5_1.size : Int)) % 4294967296), .int .i64 4] rfl (by (try simp only [List.map_toArray, List.map_cons, List.map_nil]); first | done | rfl | (simp only [List.length_drop, List.length_take]; rfl)) ?_; (with_reducible refine (impl_lowFirst.calls k1 (((x5_1.size : Int)) % 4294967296) 4 t389 _ A44.out).mono ?_); rintro e w58 ⟨rfl, hb⟩; refine ⟨_, rfl, ?_⟩; have n0_ := Aside0.mk (Kd.V_below (by (with_reducible repeat (first | apply Kd.V_alloc | apply Kd.V_drewN | apply Kd.V_drew)); exact (Kd.V_mono (Kd.V_far (p := ⟨gb363, 4, none⟩) (Kd.V_far (p := ⟨gb363, 3, none⟩) (Kd.V_far (p := ⟨gb363, 2, none⟩) (Kd.V_mono HO_0.out (fun k_ hk => (⟨hk, hk.1.2.2.2⟩ : _ ∧ k_ ≠ gb363))) (fun _ hk => hk.2) (.int .i64 t385)) (fun _ hk => hk.2) (.string t386)) (fun _ hk => hk.2) (.int .i64 t387)) (fun _ h_ => h_.1))) hb); have n1_ := Aside0.mk (Kd.V_below (by (with_reducible repeat (first | apply Kd.V_alloc | apply Kd.V_drewN | apply Kd.V_drew)); exact (Kd.V_mono (Kd.V_far (p := ⟨gb363, 4, none⟩) (Kd.V_far (p := ⟨gb363, 3, none⟩) (Kd.V_far (p := ⟨gb363, 2, none⟩) (Kd.V_mono HO_364000.out (fun k_ hk => (⟨hk, hk.1.2.2.2⟩ : _ ∧ k_ ≠ gb363))) (fun _ hk => hk.2) (.int .i64 t385)) (fun _ hk => hk.2) (.string t386)) (fun _ hk => hk.2) (.int .i64 t387)) (fun _ h_ => h_.1))) hb); have n2_ := Aside0.mk (Kd.R_below (by (with_reducible repeat (first | apply Kd.R_alloc | apply Kd.R_drewN | apply Kd.R_drew)); exact (Kd.R_mono (Kd.R_far (p := ⟨gb363, 4, none⟩) (Kd.R_far (p := ⟨gb363, 3, none⟩) (Kd.R_far (p := ⟨gb363, 2, none⟩) (Kd.R_types HO_364001.out BK363.out (by decide)) (fun _ hk => hk.2) (.int .i64 t385)) (fun _ hk => hk.2) (.string t386)) (fun _ hk => hk.2) (.int .i64 t387)) (fun _ h_ => h_.1))) hb); have n3_ := Aside0.mk (Kd.R_below (by (with_reducible repeat (first | apply Kd.R_alloc | apply Kd.R_drewN | apply Kd.R_drew)); exact (Kd.R_mono (Kd.R_far (p := ⟨gb363, 4, none⟩) (Kd.R_far (p := ⟨gb363, 3, none⟩) (Kd.R_far (p := ⟨gb363, 2, none⟩) (Kd.R_types HO384.out BK363.out (by decide)) (fun _ hk => hk.2) (.int .i64 t385)) (fun _ hk => hk.2) (.string t386)) (fun _ hk => hk.2) (.int .i64 t387)) (fun _ h_ => h_.1))) hb); have n4_ := Aside0.mk (blk_below (g := gb362) (o := .cells #[.slice none 0 0, .slice none 0 0, .int .i64 0, .string (⟨#[]⟩ : ByteArray), .int .i64 0] 82 (0, 0)) (by (with_reducible repeat (first | refine blk_drewN ?_ _ | refine blk_drew ?_ | refine blk_alloc ?_ _)); refine blk_far ?_ NB362_363.out _; (with_reducible repeat (first | refine blk_drewN ?_ _ | refine blk_drew ?_ | refine blk_alloc ?_ _)); refine blk_far ?_ NB362_363.out _; (with_reducible repeat (first | refine blk_drewN ?_ _ | refine blk_drew ?_ | refine blk_alloc ?_ _)); refine blk_far ?_ NB362_363.out _; (with_reducible repeat (first | refine blk_drewN ?_ _ | refine blk_drew ?_ | refine blk_alloc ?_ _)); exact BK362.out) hb); have n5_ := Aside0.mk (blk_below (g := gb363) (o := .cells #[.slice A0 l0.length c0, u364001, .int .i64 t385, .string t386, .int .i64 t387] 82 (0, 0)) (by (with_reducible repeat (first | refine blk_drewN ?_ _ | refine blk_drew ?_ | refine blk_alloc ?_ _)); refine blk_put (cs := #[.slice A0 l0.length c0, u364001, .int .i64 t385, .string t386, .int .i64 0]) ?_ 4 _ rfl; (with_reducible repeat (first | refine blk_drewN ?_ _ | refine blk_drew ?_ | refine blk_alloc ?_ _)); refine blk_put (cs := #[.slice A0 l0.length c0, u364001, .int .i64 t385, .string (⟨#[]⟩ : ByteArray), .int .i64 0]) ?_ 3 _ rfl; (with_reducible repeat (first | refine blk_drewN ?_ _ | refine blk_drew ?_ | refine blk_alloc ?_ _)); refine blk_put (cs := #[.slice A0 l0.length c0, u364001, .int .i64 0, .string (⟨#[]⟩ : ByteArray), .int .i64 0]) ?_ 2 _ rfl; (with_reducible repeat (first | refine blk_drewN ?_ _ | refine blk_drew ?_ | refine blk_alloc ?_ _)); exact BK363.out) hb); have n6_ := Aside0.mk (below_step (by repeat (first | (with_reducible first | exact HB.out | apply below_alloc | apply pw_below_drewN | apply below_drew1 | refine below_set ?_ GE362.out | refine below_set ?_ GE363.out) | exact HB.out)) hb); clear HO_0; clear HO_364000; clear HO_364001; clear HO384; clear BK362; clear BK363; clear HB; have HO_0 := n0_; have HO_364000 := n1_; have HO_364001 := n2_; have HO384 := n3_; have BK362 := n4_; have BK363 := n5_; have HB := n6_; clear n0_ n1_ n2_ n3_ n4_ n5_ n6_; (try clear hb); (try clear hb2); (try clear hk); (try clear hi)))
        have n0_ := Aside0.mk (Kd.V_drew HO_0.out)
        have n1_ := Aside0.mk (Kd.V_drew HO_364000.out)
        have n2_ := Aside0.mk (Kd.R_drew HO_364001.out)
        have n3_ := Aside0.mk (Kd.R_drew HO384.out)
        have n4_ := Aside0.mk (blk_drew BK362.out)
        have n5_ := Aside0.mk (blk_drew BK363.out)
        have n6_ := Aside0.mk (below_drew1 HB.out)
        clear HO_0
        clear HO_364000
        clear HO_364001
        clear HO384
        clear BK362
        clear BK363
        clear HB
        have HO_0 := n0_
        have HO_364000 := n1_
        have HO_364001 := n2_
        have HO384 := n3_
        have BK362 := n4_
        have BK363 := n5_
        have HB := n6_
        clear n0_ n1_ n2_ n3_ n4_ n5_ n6_
        refine start_ (n := 18) (S := fun w' => w'.cell? ⟨gb363, 0, none⟩ = some (.slice A0 l0.length c0) ∧ w'.cell? ⟨gb363, 1, none⟩ = some (u364001) ∧ w'.cell? ⟨gb363, 2, none⟩ = some (.int .i64 t385) ∧ w'.cell? ⟨gb363, 3, none⟩ = some (.string t386) ∧ w'.cell? ⟨gb363, 4, none⟩ = some (.int .i64 t387)) (ds := []) #[false, false, false, false, false, false, false, false, false, false, false, false, false, false, false, false, false, false] (by kernel_rfl) rfl rfl ⟨(blk_cell BK363.out 0).trans rfl, (blk_cell BK363.out 1).trans rfl, (blk_cell BK363.out 2).trans rfl, (blk_cell BK363.out 3).trans rfl, (blk_cell BK363.out 4).trans rfl⟩ (fun hHeld => ?_); refine with_tabW impl_build.tab13 impl_build.bits13 (fun HT_ HW_ => ?_)
        generalize w58.drew = w59 at HO_0 HO_364000 HO_364001 HO384 BK362 BK363 HB hHeld ⊢
        refine pure_ (i := 1) (N := some 86) (v := ?_) (a' := ?_) #[false, true, false, false, false, false, false, false, false, false, false, false, false, false, false, false, false, false] rfl rfl (any_of HT_.out (by kernel_rfl)) (fun _ _ _ h => h) (Or.inl ⟨by rfl, ?_⟩) ?_ ?_
        rotate_left
        ·intro w'
         go_simp
         with_reducible rfl
        rotate_left
        ·simp only [Act.put, List.setIfInBounds_toArray, List.set_cons_zero, List.set_cons_succ, i64_w, i32_w]
         rfl
        refine pure_ (i := 2) (N := some 87) (v := ?_) (a' := ?_) #[false, true, true, false, false, false, false, false, false, false, false, false, false, false, false, false, false, false] rfl rfl (any_of HT_.out (by kernel_rfl)) (fun _ _ _ h => h) (Or.inl ⟨by rfl, ?_⟩) ?_ ?_
        rotate_left
        ·intro w'
         go_simp
         with_reducible rfl
        rotate_left
        ·simp only [Act.put, List.setIfInBounds_toArray, List.set_cons_zero, List.set_cons_succ, i64_w, i32_w]
         rfl
        refine pure_ (i := 5) (N := some 90) (v := ?_) (a' := ?_) #[false, true, true, false, false, true, false, false, false, false, false, false, false, false, false, false, false, false] rfl rfl (any_of HT_.out (by kernel_rfl)) (fun _ _ _ h => h) (Or.inl ⟨by rfl, ?_⟩) ?_ ?_
        rotate_left
        ·intro w'
         go_simp
         with_reducible rfl
        rotate_left
        ·simp only [Act.put, List.setIfInBounds_toArray, List.set_cons_zero, List.set_cons_succ, i64_w, i32_w]
         rfl
        refine pure_ (i := 6) (N := some 91) (v := ?_) (a' := ?_) #[false, true, true, false, false, true, true, false, false, false, false, false, false, false, false, false, false, false] rfl rfl (any_of HT_.out (by kernel_rfl)) (fun _ _ _ h => h) (Or.inl ⟨by rfl, ?_⟩) ?_ ?_
        rotate_left
        ·intro w'
         go_simp
         with_reducible rfl
        rotate_left
        ·simp only [Act.put, List.setIfInBounds_toArray, List.set_cons_zero, List.set_cons_succ, i64_w, i32_w]
         rfl
        refine pure_ (i := 10) (N := some 95) (v := ?_) (a' := ?_) #[false, true, true, false, false, true, true, false, false, false, true, false, false, false, false, false, false, false] rfl rfl (any_of HT_.out (by kernel_rfl)) (fun _ _ _ h => h) (Or.inl ⟨by rfl, ?_⟩) ?_ ?_
        rotate_left
        ·intro w'
         go_simp
         with_reducible rfl
        rotate_left
        ·simp only [Act.put, List.setIfInBounds_toArray, List.set_cons_zero, List.set_cons_succ, i64_w, i32_w]
         rfl
        refine pure_ (i := 12) (N := some 97) (v := ?_) (a' := ?_) #[false, true, true, false, false, true, true, false, false, false, true, false, true, false, false, false, false, false] rfl rfl (any_of HT_.out (by kernel_rfl)) (fun _ _ _ h => h) (Or.inl ⟨by rfl, ?_⟩) ?_ ?_
        rotate_left
        ·intro w'
         go_simp
         with_reducible rfl
        rotate_left
        ·simp only [Act.put, List.setIfInBounds_toArray, List.set_cons_zero, List.set_cons_succ, i64_w, i32_w]
         rfl
        refine take_ (i := 0) (N := some 85) (v := ?_) (a' := ?_) #[true, true, true, false, false, true, true, false, false, false, true, false, true, false, false, false, false, false] rfl rfl (take_ofW HT_.out HW_.out (by kernel_rfl)) (fun _ _ _ h => h) (Or.inl ⟨by rfl, ?_⟩) hHeld ?_ ?_
        rotate_left
        ·rintro w' ⟨s0, s1, s2, s3, s4⟩
         go_simp
         with_reducible rfl
        rotate_left
        ·simp only [Act.put, List.setIfInBounds_toArray, List.set_cons_zero, List.set_cons_succ, i64_w, i32_w]
         rfl
        refine take_ (i := 7) (N := some 92) (v := ?_) (a' := ?_) #[true, true, true, false, false, true, true, true, false, false, true, false, true, false, false, false, false, false] rfl rfl (take_ofW HT_.out HW_.out (by kernel_rfl)) (fun _ _ _ h => h) (Or.inl ⟨by rfl, ?_⟩) hHeld ?_ ?_
        rotate_left
        ·rintro w' ⟨s0, s1, s2, s3, s4⟩
         go_simp
         with_reducible rfl
        rotate_left
        ·simp only [Act.put, List.setIfInBounds_toArray, List.set_cons_zero, List.set_cons_succ, i64_w, i32_w]
         rfl
        refine one_ (i := 3) (N := some 88) #[true, true, true, true, false, true, true, true, false, false, true, false, true, false, false, false, false, false] rfl rfl (one_of HT_.out (by kernel_rfl)) (by decide) (fun K hK => ?_)
        refine goes_ Try.func83 (by kernel_rfl) rfl #[.string x6_1] (by rfl) rfl rfl (by (try simp only [List.map_toArray, List.map_cons, List.map_nil]); first | done | rfl | (simp only [List.length_drop, List.length_take]; rfl)) ?_
        with_reducible refine (impl_frame.calls k1 x6_1 t390 _ A45.out).mono ?_
        rintro e w60 ⟨rfl, hb⟩
        refine ⟨_, rfl, ?_⟩
        have n0_ := Aside0.mk (Kd.V_below (by (with_reducible repeat (first | apply Kd.V_alloc | apply Kd.V_drewN | apply Kd.V_drew)); exact HO_0.out) hb)
        have n1_ := Aside0.mk (Kd.V_below (by (with_reducible repeat (first | apply Kd.V_alloc | apply Kd.V_drewN | apply Kd.V_drew)); exact HO_364000.out) hb)
        have n2_ := Aside0.mk (Kd.R_below (by (with_reducible repeat (first | apply Kd.R_alloc | apply Kd.R_drewN | apply Kd.R_drew)); exact HO_364001.out) hb)
        have n3_ := Aside0.mk (Kd.R_below (by (with_reducible repeat (first | apply Kd.R_alloc | apply Kd.R_drewN | apply Kd.R_drew)); exact HO384.out) hb)
        have n4_ := Aside0.mk (blk_below (g := gb362) (o := .cells #[.slice none 0 0, .slice none 0 0, .int .i64 0, .string (⟨#[]⟩ : ByteArray), .int .i64 0] 82 (0, 0)) (by (with_reducible repeat (first | refine blk_drewN ?_ _ | refine blk_drew ?_ | refine blk_alloc ?_ _)); exact BK362.out) hb)
        have n5_ := Aside0.mk (blk_below (g := gb363) (o := .cells #[.slice A0 l0.length c0, u364001, .int .i64 t385, .string t386, .int .i64 t387] 82 (0, 0)) (by (with_reducible repeat (first | refine blk_drewN ?_ _ | refine blk_drew ?_ | refine blk_alloc ?_ _)); exact BK363.out) hb)
        have n6_ := Aside0.mk (below_step (by repeat (first | (with_reducible first | exact HB.out | apply below_alloc | apply pw_below_drewN | apply below_drew1 | refine below_set ?_ GE362.out | refine below_set ?_ GE363.out) | exact HB.out)) hb)
        clear HO_0
        clear HO_364000
        clear HO_364001
        clear HO384
        clear BK362
        clear BK363
        clear HB
        have HO_0 := n0_
        have HO_364000 := n1_
        have HO_364001 := n2_
        have HO384 := n3_
        have BK362 := n4_
        have BK363 := n5_
        have HB := n6_
        clear n0_ n1_ n2_ n3_ n4_ n5_ n6_
        (try clear hb)
        (try clear hb2)
        (try clear hk)
        (try clear hi)
        refine hK.out _ _ ⟨(blk_cell BK363.out 0).trans rfl, (blk_cell BK363.out 1).trans rfl, (blk_cell BK363.out 2).trans rfl, (blk_cell BK363.out 3).trans rfl, (blk_cell BK363.out 4).trans rfl⟩ (fun hHeld => ?_)
        clear hK K
        refine norm_ (a' := ?_) ?_ ?_
        rotate_left
        ·show Act.put _ (some 88) _ = _
         simp only [Act.put, List.setIfInBounds_toArray, List.set_cons_zero, List.set_cons_succ, i64_w, i32_w]
         rfl
        refine pure_ (i := 4) (N := some 89) (v := ?_) (a' := ?_) #[true, true, true, true, true, true, true, true, false, false, true, false, true, false, false, false, false, false] rfl rfl (any_of HT_.out (by kernel_rfl)) (fun _ _ _ h => h) (Or.inl ⟨by rfl, ?_⟩) ?_ ?_
        rotate_left
        ·intro w'
         go_simp
         with_reducible rfl
        rotate_left
        ·simp only [Act.put, List.setIfInBounds_toArray, List.set_cons_zero, List.set_cons_succ, i64_w, i32_w]
         rfl
        refine one_ (i := 8) (N := some 93) #[true, true, true, true, true, true, true, true, true, false, true, false, true, false, false, false, false, false] rfl rfl (one_of HT_.out (by kernel_rfl)) (by decide) (fun K hK => ?_)
        refine goes_ Try.func83 (by kernel_rfl) rfl #[.string t386] (by rfl) rfl rfl (by (try simp only [List.map_toArray, List.map_cons, List.map_nil]); first | done | rfl | (simp only [List.length_drop, List.length_take]; rfl)) ?_
        with_reducible refine (impl_frame.calls k1 t386 t391 _ A47.out).mono ?_
        rintro e w61 ⟨rfl, hb⟩
        refine ⟨_, rfl, ?_⟩
        have n0_ := Aside0.mk (Kd.V_below (by (with_reducible repeat (first | apply Kd.V_alloc | apply Kd.V_drewN | apply Kd.V_drew)); exact HO_0.out) hb)
        have n1_ := Aside0.mk (Kd.V_below (by (with_reducible repeat (first | apply Kd.V_alloc | apply Kd.V_drewN | apply Kd.V_drew)); exact HO_364000.out) hb)
        have n2_ := Aside0.mk (Kd.R_below (by (with_reducible repeat (first | apply Kd.R_alloc | apply Kd.R_drewN | apply Kd.R_drew)); exact HO_364001.out) hb)
        have n3_ := Aside0.mk (Kd.R_below (by (with_reducible repeat (first | apply Kd.R_alloc | apply Kd.R_drewN | apply Kd.R_drew)); exact HO384.out) hb)
        have n4_ := Aside0.mk (blk_below (g := gb362) (o := .cells #[.slice none 0 0, .slice none 0 0, .int .i64 0, .string (⟨#[]⟩ : ByteArray), .int .i64 0] 82 (0, 0)) (by (with_reducible repeat (first | refine blk_drewN ?_ _ | refine blk_drew ?_ | refine blk_alloc ?_ _)); exact BK362.out) hb)
        have n5_ := Aside0.mk (blk_below (g := gb363) (o := .cells #[.slice A0 l0.length c0, u364001, .int .i64 t385, .string t386, .int .i64 t387] 82 (0, 0)) (by (with_reducible repeat (first | refine blk_drewN ?_ _ | refine blk_drew ?_ | refine blk_alloc ?_ _)); exact BK363.out) hb)
        have n6_ := Aside0.mk (below_step (by repeat (first | (with_reducible first | exact HB.out | apply below_alloc | apply pw_below_drewN | apply below_drew1 | refine below_set ?_ GE362.out | refine below_set ?_ GE363.out) | exact HB.out)) hb)
        clear HO_0
        clear HO_364000
        clear HO_364001
        clear HO384
        clear BK362
        clear BK363
        clear HB
        have HO_0 := n0_
        have HO_364000 := n1_
        have HO_364001 := n2_
        have HO384 := n3_
        have BK362 := n4_
        have BK363 := n5_
        have HB := n6_
        clear n0_ n1_ n2_ n3_ n4_ n5_ n6_
        (try clear hb)
        (try clear hb2)
        (try clear hk)
        (try clear hi)
        refine hK.out _ _ ⟨(blk_cell BK363.out 0).trans rfl, (blk_cell BK363.out 1).trans rfl, (blk_cell BK363.out 2).trans rfl, (blk_cell BK363.out 3).trans rfl, (blk_cell BK363.out 4).trans rfl⟩ (fun hHeld => ?_)
        clear hK K
        refine norm_ (a' := ?_) ?_ ?_
        rotate_left
        ·show Act.put _ (some 93) _ = _
         simp only [Act.put, List.setIfInBounds_toArray, List.set_cons_zero, List.set_cons_succ, i64_w, i32_w]
         rfl
        refine pure_ (i := 9) (N := some 94) (v := ?_) (a' := ?_) #[true, true, true, true, true, true, true, true, true, true, true, false, true, false, false, false, false, false] rfl rfl (any_of HT_.out (by kernel_rfl)) (fun _ _ _ h => h) (Or.inl ⟨by rfl, ?_⟩) ?_ ?_
        rotate_left
        ·intro w'
         go_simp
         with_reducible rfl
        rotate_left
        ·simp only [Act.put, List.setIfInBounds_toArray, List.set_cons_zero, List.set_cons_succ, i64_w, i32_w]
         rfl
        refine pure_ (i := 11) (N := some 96) (v := ?_) (a' := ?_) #[true, true, true, true, true, true, true, true, true, true, true, true, true, false, false, false, false, false] rfl rfl (any_of HT_.out (by kernel_rfl)) (fun _ _ _ h => h) (Or.inl ⟨by rfl, ?_⟩) ?_ ?_
        rotate_left
        ·intro w'
         go_simp
         with_reducible rfl
        rotate_left
        ·simp only [Act.put, List.setIfInBounds_toArray, List.set_cons_zero, List.set_cons_succ, i64_w, i32_w]
         rfl
        refine one_ (i := 13) (N := some 98) #[true, true, true, true, true, true, true, true, true, true, true, true, true, true, false, false, false, false] rfl rfl (one_of HT_.out (by kernel_rfl)) (by decide) (fun K hK => ?_)
        refine goes_ Try.func75 (by kernel_rfl) rfl #[.string t389] (by rfl) rfl rfl (by (try simp only [List.map_toArray, List.map_cons, List.map_nil]); first | done | rfl | (simp only [List.length_drop, List.length_take]; rfl)) ?_
        with_reducible refine (impl_SumOf.calls k1 t389 t392 _ A50.out).mono ?_
        rintro e w62 ⟨rfl, hb⟩
        refine ⟨_, rfl, ?_⟩
        have n0_ := Aside0.mk (Kd.V_below (by (with_reducible repeat (first | apply Kd.V_alloc | apply Kd.V_drewN | apply Kd.V_drew)); exact HO_0.out) hb)
        have n1_ := Aside0.mk (Kd.V_below (by (with_reducible repeat (first | apply Kd.V_alloc | apply Kd.V_drewN | apply Kd.V_drew)); exact HO_364000.out) hb)
        have n2_ := Aside0.mk (Kd.R_below (by (with_reducible repeat (first | apply Kd.R_alloc | apply Kd.R_drewN | apply Kd.R_drew)); exact HO_364001.out) hb)
        have n3_ := Aside0.mk (Kd.R_below (by (with_reducible repeat (first | apply Kd.R_alloc | apply Kd.R_drewN | apply Kd.R_drew)); exact HO384.out) hb)
        have n4_ := Aside0.mk (blk_below (g := gb362) (o := .cells #[.slice none 0 0, .slice none 0 0, .int .i64 0, .string (⟨#[]⟩ : ByteArray), .int .i64 0] 82 (0, 0)) (by (with_reducible repeat (first | refine blk_drewN ?_ _ | refine blk_drew ?_ | refine blk_alloc ?_ _)); exact BK362.out) hb)
        have n5_ := Aside0.mk (blk_below (g := gb363) (o := .cells #[.slice A0 l0.length c0, u364001, .int .i64 t385, .string t386, .int .i64 t387] 82 (0, 0)) (by (with_reducible repeat (first | refine blk_drewN ?_ _ | refine blk_drew ?_ | refine blk_alloc ?_ _)); exact BK363.out) hb)
        have n6_ := Aside0.mk (below_step (by repeat (first | (with_reducible first | exact HB.out | apply below_alloc | apply pw_below_drewN | apply below_drew1 | refine below_set ?_ GE362.out | refine below_set ?_ GE363.out) | exact HB.out)) hb)
        clear HO_0
        clear HO_364000
        clear HO_364001
        clear HO384
        clear BK362
        clear BK363
        clear HB
        have HO_0 := n0_
        have HO_364000 := n1_
        have HO_364001 := n2_
        have HO384 := n3_
        have BK362 := n4_
        have BK363 := n5_
        have HB := n6_
        clear n0_ n1_ n2_ n3_ n4_ n5_ n6_
        (try clear hb)
        (try clear hb2)
        (try clear hk)
        (try clear hi)
        refine hK.out _ _ ⟨(blk_cell BK363.out 0).trans rfl, (blk_cell BK363.out 1).trans rfl, (blk_cell BK363.out 2).trans rfl, (blk_cell BK363.out 3).trans rfl, (blk_cell BK363.out 4).trans rfl⟩ (fun hHeld => ?_)
        clear hK K
        refine norm_ (a' := ?_) ?_ ?_
        rotate_left
        ·show Act.put _ (some 98) _ = _
         simp only [Act.put, List.setIfInBounds_toArray, List.set_cons_zero, List.set_cons_succ, i64_w, i32_w]
         rfl
        refine one_ (i := 14) (N := some 99) #[true, true, true, true, true, true, true, true, true, true, true, true, true, true, true, false, false, false] rfl rfl (one_of HT_.out (by kernel_rfl)) (by decide) (fun K hK => ?_)
        refine goes_ Try.func74 (by kernel_rfl) rfl #[.int .u32 t392, .int .i64 4] (by rfl) rfl rfl (by (try simp only [List.map_toArray, List.map_cons, List.map_nil]); first | done | rfl | (simp only [List.length_drop, List.length_take]; rfl)) ?_
        with_reducible refine (impl_lowFirst.calls k1 t392 4 t393 _ A51.out).mono ?_
        rintro e w63 ⟨rfl, hb⟩
        refine ⟨_, rfl, ?_⟩
        have n0_ := Aside0.mk (Kd.V_below (by (with_reducible repeat (first | apply Kd.V_alloc | apply Kd.V_drewN | apply Kd.V_drew)); exact HO_0.out) hb)
        have n1_ := Aside0.mk (Kd.V_below (by (with_reducible repeat (first | apply Kd.V_alloc | apply Kd.V_drewN | apply Kd.V_drew)); exact HO_364000.out) hb)
        have n2_ := Aside0.mk (Kd.R_below (by (with_reducible repeat (first | apply Kd.R_alloc | apply Kd.R_drewN | apply Kd.R_drew)); exact HO_364001.out) hb)
        have n3_ := Aside0.mk (Kd.R_below (by (with_reducible repeat (first | apply Kd.R_alloc | apply Kd.R_drewN | apply Kd.R_drew)); exact HO384.out) hb)
        have n4_ := Aside0.mk (blk_below (g := gb362) (o := .cells #[.slice none 0 0, .slice none 0 0, .int .i64 0, .string (⟨#[]⟩ : ByteArray), .int .i64 0] 82 (0, 0)) (by (with_reducible repeat (first | refine blk_drewN ?_ _ | refine blk_drew ?_ | refine blk_alloc ?_ _)); exact BK362.out) hb)
        have n5_ := Aside0.mk (blk_below (g := gb363) (o := .cells #[.slice A0 l0.length c0, u364001, .int .i64 t385, .string t386, .int .i64 t387] 82 (0, 0)) (by (with_reducible repeat (first | refine blk_drewN ?_ _ | refine blk_drew ?_ | refine blk_alloc ?_ _)); exact BK363.out) hb)
        have n6_ := Aside0.mk (below_step (by repeat (first | (with_reducible first | exact HB.out | apply below_alloc | apply pw_below_drewN | apply below_drew1 | refine below_set ?_ GE362.out | refine below_set ?_ GE363.out) | exact HB.out)) hb)
        clear HO_0
        clear HO_364000
        clear HO_364001
        clear HO384
        clear BK362
        clear BK363
        clear HB
        have HO_0 := n0_
        have HO_364000 := n1_
        have HO_364001 := n2_
        have HO384 := n3_
        have BK362 := n4_
        have BK363 := n5_
        have HB := n6_
        clear n0_ n1_ n2_ n3_ n4_ n5_ n6_
        (try clear hb)
        (try clear hb2)
        (try clear hk)
        (try clear hi)
        obtain ⟨Ao65, co65, eo65⟩ := Kd.R_slice HO_364001.out
        (first | subst eo65 | (injection eo65 with f1_ f2_ f3_; have f4_ := f1_.symm; have f5_ := f3_.symm; clear f1_ f2_ f3_; subst f4_; subst f5_))
        refine hK.out _ _ ⟨(blk_cell BK363.out 0).trans rfl, (blk_cell BK363.out 1).trans rfl, (blk_cell BK363.out 2).trans rfl, (blk_cell BK363.out 3).trans rfl, (blk_cell BK363.out 4).trans rfl⟩ (fun hHeld => ?_)
        clear hK K
        refine norm_ (a' := ?_) ?_ ?_
        rotate_left
        ·show Act.put _ (some 99) _ = _
         simp only [Act.put, List.setIfInBounds_toArray, List.set_cons_zero, List.set_cons_succ, i64_w, i32_w]
         rfl
        refine pure_ (i := 15) (N := some 100) (v := ?_) (a' := ?_) #[true, true, true, true, true, true, true, true, true, true, true, true, true, true, true, true, false, false] rfl rfl (any_of HT_.out (by kernel_rfl)) (fun _ _ _ h => h) (Or.inl ⟨by rfl, ?_⟩) ?_ ?_
        rotate_left
        ·intro w'
         go_simp
         with_reducible rfl
        rotate_left
        ·simp only [Act.put, List.setIfInBounds_toArray, List.set_cons_zero, List.set_cons_succ, i64_w, i32_w]
         rfl
        refine one_ (i := 16) (N := none) #[true, true, true, true, true, true, true, true, true, true, true, true, true, true, true, true, true, false] rfl rfl (one_of HT_.out (by kernel_rfl)) (by decide) (fun K hK => ?_)
        have hs64 : w63.cell? ⟨gb362, 0, none⟩ = some (.slice none 0 0) := (blk_cell BK362.out 0).trans rfl
        have hfs64 := blk_frozen BK362.out 0
        have hns64_1 := NB363_362.out
        have hms64_1 := NB362_363.out
        have hs66 : w63.cell? ⟨gb362, 1, none⟩ = some (.slice none 0 0) := (blk_cell BK362.out 1).trans rfl
        have hfs66 := blk_frozen BK362.out 1
        have hns66_1 := NB363_362.out
        have hms66_1 := NB362_363.out
        have hs67 : w63.cell? ⟨gb362, 2, none⟩ = some (.int .i64 0) := (blk_cell BK362.out 2).trans rfl
        have hfs67 := blk_frozen BK362.out 2
        have hns67_1 := NB363_362.out
        have hms67_1 := NB362_363.out
        have hs68 : w63.cell? ⟨gb362, 3, none⟩ = some (.string (⟨#[]⟩ : ByteArray)) := (blk_cell BK362.out 3).trans rfl
        have hfs68 := blk_frozen BK362.out 3
        have hns68_1 := NB363_362.out
        have hms68_1 := NB362_363.out
        have hs69 : w63.cell? ⟨gb362, 4, none⟩ = some (.int .i64 0) := (blk_cell BK362.out 4).trans rfl
        have hfs69 := blk_frozen BK362.out 4
        have hns69_1 := NB363_362.out
        have hms69_1 := NB362_363.out
        refine skip_ (w1 := ?_) (by rfl) rfl ?_ ?_
        rotate_left
        ·go_simp
         rfl
        refine hK.out _ _ ⟨((cell_far (p := ⟨gb362, _, none⟩) NB363_362.out _).trans (((cell_far (p := ⟨gb362, _, none⟩) NB363_362.out _).trans (((cell_far (p := ⟨gb362, _, none⟩) NB363_362.out _).trans (((cell_far (p := ⟨gb362, _, none⟩) NB363_362.out _).trans (((cell_far (p := ⟨gb362, _, none⟩) NB363_362.out _).trans (hHeld.1)))))))))), ((cell_far (p := ⟨gb362, _, none⟩) NB363_362.out _).trans (((cell_far (p := ⟨gb362, _, none⟩) NB363_362.out _).trans (((cell_far (p := ⟨gb362, _, none⟩) NB363_362.out _).trans (((cell_far (p := ⟨gb362, _, none⟩) NB363_362.out _).trans (((cell_far (p := ⟨gb362, _, none⟩) NB363_362.out _).trans (hHeld.2.1)))))))))), ((cell_far (p := ⟨gb362, _, none⟩) NB363_362.out _).trans (((cell_far (p := ⟨gb362, _, none⟩) NB363_362.out _).trans (((cell_far (p := ⟨gb362, _, none⟩) NB363_362.out _).trans (((cell_far (p := ⟨gb362, _, none⟩) NB363_362.out _).trans (((cell_far (p := ⟨gb362, _, none⟩) NB363_362.out _).trans (hHeld.2.2.1)))))))))), ((cell_far (p := ⟨gb362, _, none⟩) NB363_362.out _).trans (((cell_far (p := ⟨gb362, _, none⟩) NB363_362.out _).trans (((cell_far (p := ⟨gb362, _, none⟩) NB363_362.out _).trans (((cell_far (p := ⟨gb362, _, none⟩) NB363_362.out _).trans (((cell_far (p := ⟨gb362, _, none⟩) NB363_362.out _).trans (hHeld.2.2.2.1)))))))))), ((cell_far (p := ⟨gb362, _, none⟩) NB363_362.out _).trans (((cell_far (p := ⟨gb362, _, none⟩) NB363_362.out _).trans (((cell_far (p := ⟨gb362, _, none⟩) NB363_362.out _).trans (((cell_far (p := ⟨gb362, _, none⟩) NB363_362.out _).trans (((cell_far (p := ⟨gb362, _, none⟩) NB363_362.out _).trans (hHeld.2.2.2.2))))))))))⟩ (fun hHeld => ?_)
        clear hK K
        refine pure_ (i := 17) (N := some 3) (v := ?_) (a' := ?_) #[true, true, true, true, true, true, true, true, true, true, true, true, true, true, true, true, true, true] rfl rfl (any_of HT_.out (by kernel_rfl)) (fun _ _ _ h => h) (Or.inl ⟨by rfl, ?_⟩) ?_ ?_
        rotate_left
        ·intro w'
         go_simp
         with_reducible rfl
        rotate_left
        ·simp only [Act.put, List.setIfInBounds_toArray, List.set_cons_zero, List.set_cons_succ, i64_w, i32_w]
         rfl
        refine done_ (done_of HT_.out (by kernel_rfl)) ?_
        try go_wp2
        refine bodyPost_ret (results_ct rfl _ _ gb362 82 #[.slice A0 l0.length c0, .slice Ao65 x364001_1.length co65, .int .i64 t385, .string t386, .int .i64 t387] (0, 0) _ rfl (by (with_reducible repeat (first | refine blk_drewN ?_ _ | refine blk_drew ?_ | refine blk_alloc ?_ _)); refine blk_put (cs := #[.slice A0 l0.length c0, .slice Ao65 x364001_1.length co65, .int .i64 t385, .string t386, .int .i64 0]) ?_ 4 _ rfl; (with_reducible repeat (first | refine blk_drewN ?_ _ | refine blk_drew ?_ | refine blk_alloc ?_ _)); refine blk_put (cs := #[.slice A0 l0.length c0, .slice Ao65 x364001_1.length co65, .int .i64 t385, .string (⟨#[]⟩ : ByteArray), .int .i64 0]) ?_ 3 _ rfl; (with_reducible repeat (first | refine blk_drewN ?_ _ | refine blk_drew ?_ | refine blk_alloc ?_ _)); refine blk_put (cs := #[.slice A0 l0.length c0, .slice Ao65 x364001_1.length co65, .int .i64 0, .string (⟨#[]⟩ : ByteArray), .int .i64 0]) ?_ 2 _ rfl; (with_reducible repeat (first | refine blk_drewN ?_ _ | refine blk_drew ?_ | refine blk_alloc ?_ _)); refine blk_put (cs := #[.slice A0 l0.length c0, .slice none 0 0, .int .i64 0, .string (⟨#[]⟩ : ByteArray), .int .i64 0]) ?_ 1 _ rfl; (with_reducible repeat (first | refine blk_drewN ?_ _ | refine blk_drew ?_ | refine blk_alloc ?_ _)); refine blk_put (cs := #[.slice none 0 0, .slice none 0 0, .int .i64 0, .string (⟨#[]⟩ : ByteArray), .int .i64 0]) ?_ 0 _ rfl; (with_reducible repeat (first | refine blk_drewN ?_ _ | refine blk_drew ?_ | refine blk_alloc ?_ _)); exact BK362.out) Try.underlying82 rfl (by kernel_rfl)) rfl ?_
        exact ⟨_, _, by first | rfl | (simp [errW_none, errW_some] <;> rfl) | (simp [*, errW_none, errW_some] <;> rfl), by (with_reducible repeat (first | apply Kd.V_alloc | apply Kd.V_drewN | apply Kd.V_drew)); exact Kd.V_mono (Kd.V_far (p := ⟨gb362, 4, none⟩) (Kd.V_far (p := ⟨gb362, 3, none⟩) (Kd.V_far (p := ⟨gb362, 2, none⟩) (Kd.V_far (p := ⟨gb362, 1, none⟩) (Kd.V_far (p := ⟨gb362, 0, none⟩) (Kd.V_mono HO_364000.out (fun k_ hk => (⟨hk, hk.1.2.2.1⟩ : _ ∧ k_ ≠ gb362))) (fun _ hk => hk.2) (.slice A0 l0.length c0)) (fun _ hk => hk.2) (.slice Ao65 x364001_1.length co65)) (fun _ hk => hk.2) (.int .i64 t385)) (fun _ hk => hk.2) (.string t386)) (fun _ hk => hk.2) (.int .i64 t387)) (fun _ hk => ⟨hk.1.1.1, hk.1.1.2.1⟩), by (with_reducible repeat (first | apply Kd.R_alloc | apply Kd.R_drewN | apply Kd.R_drew)); exact Kd.R_mono (Kd.R_far (p := ⟨gb362, 4, none⟩) (Kd.R_far (p := ⟨gb362, 3, none⟩) (Kd.R_far (p := ⟨gb362, 2, none⟩) (Kd.R_far (p := ⟨gb362, 1, none⟩) (Kd.R_far (p := ⟨gb362, 0, none⟩) (Kd.R_types HO_364001.out BK362.out (by decide)) (fun _ hk => hk.2) (.slice A0 l0.length c0)) (fun _ hk => hk.2) (.slice Ao65 x364001_1.length co65)) (fun _ hk => hk.2) (.int .i64 t385)) (fun _ hk => hk.2) (.string t386)) (fun _ hk => hk.2) (.int .i64 t387)) (fun _ hk => hk.1), by repeat (first | (with_reducible first | exact HB.out | apply below_alloc | apply pw_below_drewN | apply below_drew1 | refine below_set ?_ GE362.out | refine below_set ?_ GE363.out) | exact HB.out)⟩
       ·rw [if_neg c52] at H
        exact absurd H (by simp)
      ·rw [if_neg c49] at H
       exact absurd H (by simp)
     ·rw [if_neg c48] at H
      exact absurd H (by simp)
    ·rw [if_neg c46] at H
     exact absurd H (by simp)
end Go.Proofs.Ytjacppphgccphaa.MFnExactTableBytes
