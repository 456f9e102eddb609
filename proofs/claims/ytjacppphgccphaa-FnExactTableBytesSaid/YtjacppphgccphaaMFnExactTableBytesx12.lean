-- Written by a program of this session out of the translation. Not trusted: Lean checks it.
import Derived.Test.YtjacppphgccphaaMFnExactTableBytesx0
import Derived.Test.YtjacppphgccphaaMFnExactTableBytesx10
import Derived.Test.YtjacppphgccphaaMFnExactTableBytesx11
namespace Go.Proofs.Ytjacppphgccphaa.MFnExactTableBytes
-- shrunk
open Go.RowKit Go.Proofs.YtjacppphgccphaaW.PrintWords Go.Proofs.YtjacppphgccphaaW.PrintLast Go.Proofs.YtjacppphgccphaaW.PrintMore Go.Proofs.YtjacppphgccphaaX
attribute [local go_sem] max2_int min2_int max_two min_two max_three min_three max_four min_four str_gtr str_leq str_geq cell_twice
set_option linter.unusedVariables false
set_option linter.unusedSimpArgs false
/-! ### impl_block: function 52 -/
mutual
def impl_block.l0 : Nat → ByteArray → List Int → ByteArray → List (S27) → Int → Int → Option (ByteArray × List Int)
 | 0, _, _, _, _, _, _ => none
 | k + 1, x4, x5, x6, x13, x14, x15 => if x15 < x14 then (if 0 ≤ x15 then (if x15 < (x13.length : Int) then ((impl_CommonOf.f k x6 ((rd_T27 x13 x15).f0)).bind fun t297 => (if (Int.tmod x15 4) = 0 then (if x5.length < 17592186044416 then (impl_block.j1 k x4 (x5 ++ [(x4.size : Int)]) 0 x13 x14 x15 ((rd_T27 x13 x15).f0) ((rd_T27 x13 x15).f1) ((rd_T27 x13 x15).f2) ((rd_T27 x13 x15).f3)) else (none)) else (impl_block.j1 k x4 x5 t297 x13 x14 x15 ((rd_T27 x13 x15).f0) ((rd_T27 x13 x15).f1) ((rd_T27 x13 x15).f2) ((rd_T27 x13 x15).f3)))) else (none)) else (none)) else (impl_block.l1 k x4 x5 x5 (x5.length : Int) 0)
def impl_block.j1 : Nat → ByteArray → List Int → Int → List (S27) → Int → Int → ByteArray → Int → Int → ByteArray → Option (ByteArray × List Int)
 | 0, _, _, _, _, _, _, _, _, _, _ => none
 | k + 1, x4, x5, x9, x13, x14, x15, x297000, x297001, x297002, x297003 => (impl_varBytes.f k x9).bind fun t301 => ((impl_varBytes.f k (wrap64 ((x297000.size : Int) - x9))).bind fun t302 => (if t301.size + t302.size ≤ 9223372036854775807 then ((impl_varBytes.f k (wrap64 ((wrap64 (2 * x297001)) + x297002))).bind fun t303 => (if t301.size + t302.size + t303.size ≤ 9223372036854775807 then ((impl_varBytes.f k (x297003.size : Int)).bind fun t304 => (if (t301.size + t302.size) + t303.size + t304.size ≤ 9223372036854775807 then (if 0 ≤ x9 then (if x9 ≤ (x297000.size : Int) then (if ((t301.size + t302.size) + t303.size) + t304.size + (x297000.size - (x9 : Int).toNat) ≤ 9223372036854775807 then (if (((t301.size + t302.size) + t303.size) + t304.size) + (x297000.size - (x9 : Int).toNat) + x297003.size ≤ 9223372036854775807 then (if x4.size + (((((t301.size + t302.size) + t303.size) + t304.size) + (x297000.size - (x9 : Int).toNat)) + x297003.size) ≤ 9223372036854775807 then (impl_block.l0 k (x4 ++ (((((t301 ++ t302) ++ t303) ++ t304) ++ (x297000.extract (x9 : Int).toNat x297000.size)) ++ x297003)) x5 x297000 x13 x14 (wrap64 (x15 + 1))) else (none)) else (none)) else (none)) else (none)) else (none)) else (none))) else (none))) else (none)))
def impl_block.l1 : Nat → ByteArray → List Int → List Int → Int → Int → Option (ByteArray × List Int)
 | 0, _, _, _, _, _ => none
 | k + 1, x4, x5, x67, x68, x69 => if x69 < x68 then (if 0 ≤ x69 then (if x69 < (x67.length : Int) then ((impl_lowFirst.f k ((rd x67 x69) % 4294967296) 2).bind fun t306 => (if x4.size + t306.size ≤ 9223372036854775807 then (impl_block.l1 k (x4 ++ t306) x5 x67 x68 (wrap64 (x69 + 1))) else (none))) else (none)) else (none)) else ((impl_lowFirst.f k (((x5.length : Int)) % 4294967296) 2).bind fun t307 => (if x4.size + t307.size ≤ 9223372036854775807 then ((impl_SumOf.f k (x4 ++ t307)).bind fun t308 => ((impl_lowFirst.f k t308 4).bind fun t309 => (if x4.size + t307.size + t309.size ≤ 9223372036854775807 then (some ((x4 ++ t307) ++ t309, x5)) else (none)))) else (none)))
end
def impl_block.f (k : Nat) (l0 : List (S27)) : Option (ByteArray × List Int) := impl_block.l0 k (⟨#[]⟩ : ByteArray) (([] : List Int)) (⟨#[]⟩ : ByteArray) l0 (l0.length : Int) 0
theorem impl_block.mono_l : ∀ k, (∀ y0 y1 y2 y3 y4 y5, LeO (impl_block.l0 k y0 y1 y2 y3 y4 y5) (impl_block.l0 (k + 1) y0 y1 y2 y3 y4 y5)) ∧ (∀ y0 y1 y2 y3 y4 y5 y6 y7 y8 y9, LeO (impl_block.j1 k y0 y1 y2 y3 y4 y5 y6 y7 y8 y9) (impl_block.j1 (k + 1) y0 y1 y2 y3 y4 y5 y6 y7 y8 y9)) ∧ (∀ y0 y1 y2 y3 y4, LeO (impl_block.l1 k y0 y1 y2 y3 y4) (impl_block.l1 (k + 1) y0 y1 y2 y3 y4))
 | 0 => ⟨fun _ _ _ _ _ _ r h => by simp [impl_block.l0] at h, fun _ _ _ _ _ _ _ _ _ _ r h => by simp [impl_block.j1] at h, fun _ _ _ _ _ r h => by simp [impl_block.l1] at h⟩
 | k + 1 => by
  obtain ⟨ih0, ih1, ih2⟩ := impl_block.mono_l k
  refine ⟨?_, ?_, ?_⟩
  ·intro y0 y1 y2 y3 y4 y5
   unfold impl_block.l0
   repeat' first
   | (with_reducible exact ih0 _ _ _ _ _ _)
   | (with_reducible exact ih1 _ _ _ _ _ _ _ _ _ _)
   | (with_reducible exact ih2 _ _ _ _ _)
   | (with_reducible exact impl_CommonOf.mono _ _ _)
   | (with_reducible exact impl_SumOf.mono _ _)
   | (with_reducible exact impl_lowFirst.mono _ _ _)
   | (with_reducible exact impl_varBytes.mono _ _)
   | (with_reducible exact LeO.refl _)
   | (with_reducible exact LeO.none _)
   | (with_reducible refine LeO.ite ?_ ?_)
   | (with_reducible refine LeO.bind ?_ (fun _ => ?_))
   | exact ih0 _ _ _ _ _ _
   | exact ih1 _ _ _ _ _ _ _ _ _ _
   | exact ih2 _ _ _ _ _
   | exact impl_CommonOf.mono _ _ _
   | exact impl_SumOf.mono _ _
   | exact impl_lowFirst.mono _ _ _
   | exact impl_varBytes.mono _ _
   | exact LeO.none _
   | refine LeO.ite ?_ ?_
   | refine LeO.bind ?_ (fun _ => ?_)
  ·intro y0 y1 y2 y3 y4 y5 y6 y7 y8 y9
   unfold impl_block.j1
   repeat' first
   | (with_reducible exact ih0 _ _ _ _ _ _)
   | (with_reducible exact ih1 _ _ _ _ _ _ _ _ _ _)
   | (with_reducible exact ih2 _ _ _ _ _)
   | (with_reducible exact impl_CommonOf.mono _ _ _)
   | (with_reducible exact impl_SumOf.mono _ _)
   | (with_reducible exact impl_lowFirst.mono _ _ _)
   | (with_reducible exact impl_varBytes.mono _ _)
   | (with_reducible exact LeO.refl _)
   | (with_reducible exact LeO.none _)
   | (with_reducible refine LeO.ite ?_ ?_)
   | (with_reducible refine LeO.bind ?_ (fun _ => ?_))
   | exact ih0 _ _ _ _ _ _
   | exact ih1 _ _ _ _ _ _ _ _ _ _
   | exact ih2 _ _ _ _ _
   | exact impl_CommonOf.mono _ _ _
   | exact impl_SumOf.mono _ _
   | exact impl_lowFirst.mono _ _ _
   | exact impl_varBytes.mono _ _
   | exact LeO.none _
   | refine LeO.ite ?_ ?_
   | refine LeO.bind ?_ (fun _ => ?_)
  ·intro y0 y1 y2 y3 y4
   unfold impl_block.l1
   repeat' first
   | (with_reducible exact ih0 _ _ _ _ _ _)
   | (with_reducible exact ih1 _ _ _ _ _ _ _ _ _ _)
   | (with_reducible exact ih2 _ _ _ _ _)
   | (with_reducible exact impl_CommonOf.mono _ _ _)
   | (with_reducible exact impl_SumOf.mono _ _)
   | (with_reducible exact impl_lowFirst.mono _ _ _)
   | (with_reducible exact impl_varBytes.mono _ _)
   | (with_reducible exact LeO.refl _)
   | (with_reducible exact LeO.none _)
   | (with_reducible refine LeO.ite ?_ ?_)
   | (with_reducible refine LeO.bind ?_ (fun _ => ?_))
   | exact ih0 _ _ _ _ _ _
   | exact ih1 _ _ _ _ _ _ _ _ _ _
   | exact ih2 _ _ _ _ _
   | exact impl_CommonOf.mono _ _ _
   | exact impl_SumOf.mono _ _
   | exact impl_lowFirst.mono _ _ _
   | exact impl_varBytes.mono _ _
   | exact LeO.none _
   | refine LeO.ite ?_ ?_
   | refine LeO.bind ?_ (fun _ => ?_)
theorem impl_block.mono : ∀ a0 k, LeO (impl_block.f k a0) (impl_block.f (k + 1) a0) := by
 intro a0 k
 obtain ⟨ih0, ih1, ih2⟩ := impl_block.mono_l k
 unfold impl_block.f
 repeat' first
   | (with_reducible exact ih0 _ _ _ _ _ _)
   | (with_reducible exact ih1 _ _ _ _ _ _ _ _ _ _)
   | (with_reducible exact ih2 _ _ _ _ _)
   | (with_reducible exact impl_CommonOf.mono _ _ _)
   | (with_reducible exact impl_SumOf.mono _ _)
   | (with_reducible exact impl_lowFirst.mono _ _ _)
   | (with_reducible exact impl_varBytes.mono _ _)
   | (with_reducible exact LeO.refl _)
   | (with_reducible exact LeO.none _)
   | (with_reducible refine LeO.ite ?_ ?_)
   | (with_reducible refine LeO.bind ?_ (fun _ => ?_))
   | exact ih0 _ _ _ _ _ _
   | exact ih1 _ _ _ _ _ _ _ _ _ _
   | exact ih2 _ _ _ _ _
   | exact impl_CommonOf.mono _ _ _
   | exact impl_SumOf.mono _ _
   | exact impl_lowFirst.mono _ _ _
   | exact impl_varBytes.mono _ _
   | exact LeO.none _
   | refine LeO.ite ?_ ?_
   | refine LeO.bind ?_ (fun _ => ?_)
def impl_block.T8 : Bool × List (List Nat × List Nat) := (true, [([], []), ([], []), ([1], [1]), ([], []), ([3], [3]), ([4], [4]), ([], []), ([5, 6], [5, 6]), ([7, 2], [7]), ([2, 8], [2, 8]), ([], []), ([10], [10]), ([11], [11]), ([], []), ([13], [13]), ([12, 14], [12, 14]), ([15, 8], [15]), ([9, 16], [9, 16]), ([], []), ([18], [18]), ([19], [19]), ([20, 16], [20]), ([17, 21], [17, 21]), ([], []), ([23], [23]), ([], []), ([24, 25], [24, 25]), ([22, 26], [22, 26]), ([], []), ([28], [28]), ([27, 29], [27, 29]), ([0, 30], [0, 30]), ([31, 21, 0, 1, 2, 3, 4, 5, 6, 7, 8, 9, 10, 11, 12, 13, 14, 15, 16, 17, 18, 19, 20, 21, 22, 23, 24, 25, 26, 27, 28, 29, 30, 31], [0, 31])])
def impl_block.B8 : List Nat := [0, 0, 2, 0, 8, 24, 0, 120, 254, 510, 0, 1024, 3072, 0, 8192, 31744, 65022, 131070, 0, 262144, 786432, 1965566, 4194302, 0, 8388608, 0, 58720256, 134217726, 0, 268435456, 1073741822, 2147483647, 4294967295]
theorem impl_block.tab8 : rtab .any (opsOf Try.f52 8) = impl_block.T8 := by kernel_rfl
theorem impl_block.bits8 : waitsOk impl_block.T8.2 impl_block.B8 = true := by kernel_rfl
set_option maxHeartbeats 8000000 in
set_option maxRecDepth 100000 in
theorem impl_block.calls (k : Nat) (A0 : Option Addr) (c0 : Nat) (l0 : List (S27)) (r1 : ByteArray) (r2 : List Int) (w : World) (hr0 : Kd.C k27 w A0 l0.length l0) (hc0 : l0.length ≤ c0) (h : impl_block.f k l0 = some (r1, r2)) :
  Calls Try.prog 52 #[.slice A0 l0.length c0] w fun e w' => ∃ v1_ : Value, e = .returned (.tuple #[.string r1, v1_]) ∧ Kd.R (Kd.int .i64) 3 w' w.heap.size (fun _ => True) v1_ r2 ∧ Below w.heap.size w w' := by
 have hu27 := Try.underlying27
 have HR0 := Aside0.mk hr0
 have HC0 := Aside0.mk hc0
 clear hr0 hc0
 have HB := Aside0.mk (Below.refl w.heap.size w)
 have H : (impl_block.l0 k (⟨#[]⟩ : ByteArray) (([] : List Int)) (⟨#[]⟩ : ByteArray) l0 (l0.length : Int) 0) = some (r1, r2) := h
 clear h
 obtain ⟨y292, hy292⟩ : ∃ y_ : List Int, y_ = (([] : List Int)) := ⟨_, rfl⟩
 replace H : (impl_block.l0 k (⟨#[]⟩ : ByteArray) y292 (⟨#[]⟩ : ByteArray) l0 (l0.length : Int) 0) = some (r1, r2) := by first | (rw [hy292]; with_reducible exact H) | (have H2_ := (Option.bind_some _ _).symm.trans H; rw [hy292]; with_reducible exact H2_) | (have H2_ := (Option.bind_some _ _).symm.trans H; with_reducible exact H2_) | with_reducible exact H | (rw [hy292]; exact H) | exact H
 have Ny292 := Aside0.mk hy292
 clear hy292
 have H' := Aside0.mk H
 clear H
 go_enter Try.func52, Try.ntmps52
 go_wp2_with (first | ((with_reducible refine gate_dst (N := 12) rfl ?_); refine Kd.R_lit (Kd.int .i64) _ 3 ?hg (N := 12) ?hd (xs := ([] : List Int)) (inner := []) (ok := fun _ => True) (okp := fun _ => True) ?hr ?hp (fun _ hk => hk) trivial (Below.refl _ _) (Nat.le_refl _) (by simp) ?_; (case hd => rfl); (case hg => rfl); (case hr => first | (go_simp; done) | (go_simp; rfl)); (case hp => exact (Reps.none _ _)); intro v293 w2 ho3 hb hg_ hnew_; clear hg_ hnew_; (first | rw [← Ny292.out] at ho3 | (simp only [Int.reduceToNat] at ho3; rw [← Ny292.out] at ho3)); have n0_ := Aside0.mk (Kd.R_lower ho3 (below_size (by repeat (first | (with_reducible first | exact HB.out | apply below_alloc | apply pw_below_drewN | apply below_drew1) | exact HB.out)))); have n1_ := Aside0.mk (below_step (by repeat (first | (with_reducible first | exact HB.out | apply below_alloc | apply pw_below_drewN | apply below_drew1) | exact HB.out)) hb); clear HB; have HO294 := n0_; have HB := n1_; clear n0_ n1_; clear hb ho3))
 go_loopg [4, 5, 6, 15] k (fun kq v4 v5 v6 v15 w' => ∃ (x4_1 : ByteArray) (x5_1 : List Int) (x6_1 : ByteArray) (x15_1 : Int), v4 = .string x4_1 ∧ v6 = .string x6_1 ∧ v15 = .int .i64 x15_1 ∧ Aside0 (impl_block.l0 kq x4_1 x5_1 x6_1 l0 (l0.length : Int) x15_1 = some (r1, r2)) ∧ Aside0 (kq ≤ k) ∧ Aside0 (Kd.R (Kd.int .i64) 3 w' w.heap.size (fun _ => True) v5 x5_1) ∧ Aside0 (Below w.heap.size w w'))
 case atStart => exact ⟨((⟨#[]⟩ : ByteArray)), (y292), ((⟨#[]⟩ : ByteArray)), (0), (by first | rfl | (simp; done) | (simp [*]; done)), (by first | rfl | (simp; done) | (simp [*]; done)), (by first | rfl | (simp; done) | (simp [*]; done)), H', ⟨Nat.le_refl _⟩, ⟨by (with_reducible repeat (first | apply Kd.R_alloc | apply Kd.R_drewN | apply Kd.R_drew)); exact HO294.out⟩, ⟨by repeat (first | (with_reducible first | exact HB.out | apply below_alloc | apply pw_below_drewN | apply below_drew1) | exact HB.out)⟩⟩
 case round =>
  clear H'
  try clear p2
  obtain ⟨x4_1, x5_1, x6_1, x15_1, rfl, rfl, rfl, HA, HK1, HO_5, HB⟩ := hrel
  cases gk with
  | zero => exact absurd HA.out (by simp [impl_block.l0])
  | succ k1 =>
   have H := HA.out
   clear HA
   simp only [impl_block.l0] at H
   by_cases c4 : x15_1 < (l0.length : Int)
   ·rw [if_pos c4] at H
    have c4b0 : decide (x15_1 < (l0.length : Int)) = true := decide_eq_true c4
    clear c4
    by_cases c5 : 0 ≤ x15_1
    ·rw [if_pos c5] at H
     have c5b0 : decide (0 ≤ x15_1) = true := decide_eq_true c5
     clear c5
     by_cases c6 : x15_1 < (l0.length : Int)
     ·rw [if_pos c6] at H
      have c6b0 : decide (x15_1 < (l0.length : Int)) = true := decide_eq_true c6
      clear c6
      replace H := Option.bind_eq_some_iff.mp H
      obtain ⟨t297, A70, H⟩ := H
      replace H : (if (Int.tmod x15_1 4) = 0 then (if x5_1.length < 17592186044416 then (impl_block.j1 k1 x4_1 (x5_1 ++ [(x4_1.size : Int)]) 0 l0 (l0.length : Int) x15_1 ((rd_T27 l0 x15_1).f0) ((rd_T27 l0 x15_1).f1) ((rd_T27 l0 x15_1).f2) ((rd_T27 l0 x15_1).f3)) else (none)) else (impl_block.j1 k1 x4_1 x5_1 t297 l0 (l0.length : Int) x15_1 ((rd_T27 l0 x15_1).f0) ((rd_T27 l0 x15_1).f1) ((rd_T27 l0 x15_1).f2) ((rd_T27 l0 x15_1).f3))) = some (r1, r2) := H
      have A7 := Aside0.mk A70
      clear A70
      have HC8 := Aside0.mk H
      clear H
      have p295 : 0 ≤ (x15_1 : Int) := of_decide_eq_true (by first | (with_reducible assumption) | assumption)
      have q295 : x15_1 < (l0.length : Int) := of_decide_eq_true (by first | (with_reducible assumption) | assumption)
      obtain ⟨ad295, e295, hx295_0, hx295_1, hx295_2, hx295_3⟩ := at_T27 HR0.out x15_1 p295 q295
      cases e295
      replace hx295_0 := (HB.out.cell (World.block_lt_of_cell? w _ hx295_0)).trans hx295_0
      replace hx295_1 := (HB.out.cell (World.block_lt_of_cell? w _ hx295_1)).trans hx295_1
      replace hx295_2 := (HB.out.cell (World.block_lt_of_cell? w _ hx295_2)).trans hx295_2
      replace hx295_3 := (HB.out.cell (World.block_lt_of_cell? w _ hx295_3)).trans hx295_3
      replace p295 := eq_true p295
      replace q295 := eq_true q295
      go_upto_if 26 with (first | ((with_reducible refine gate_dst (N := 8) rfl ?_); refine box_event ?hg (N := 8) ?hd (cs := #[.string (⟨#[]⟩ : ByteArray), .int .i64 0, .int .i64 0, .string (⟨#[]⟩ : ByteArray)]) (t := 27) ?hr ?_; (case hd => rfl); (case hg => rfl); (case hr => first | (go_simp; done) | (go_simp; rfl)); intro gb296 hg w9 hbox hb; have n0_ := Aside0.mk (Kd.R_below (by (with_reducible repeat (first | apply Kd.R_alloc | apply Kd.R_drewN | apply Kd.R_drew)); exact HO_5.out) hb); have n1_ := Aside0.mk (below_step (by repeat (first | (with_reducible first | exact HB.out | apply below_alloc | apply pw_below_drewN | apply below_drew1) | exact HB.out)) hb); have n2_ := Aside0.mk (hbox); have n3_ := Aside0.mk ((by rw [hg]; exact (below_size (by repeat (first | (with_reducible first | exact HB.out | apply below_alloc | apply pw_below_drewN | apply below_drew1) | exact HB.out))) : w.heap.size ≤ gb296)); have n4_ := Aside0.mk ((by rw [hg]; exact (below_size (by repeat (first | (with_reducible first | exact HB.out | apply below_alloc | apply pw_below_drewN | apply below_drew1) | exact HB.out))) : w.heap.size ≤ gb296)); clear HO_5; clear HB; have HO_5 := n0_; have HB := n1_; have BK296 := n2_; have GW296 := n3_; have GE296 := n4_; clear n0_ n1_ n2_ n3_ n4_; clear hb hbox hg; have hcz10_0 : w9.cell? ⟨gb296, 0, none⟩ = some (.string (⟨#[]⟩ : ByteArray)) := (blk_cell BK296.out 0).trans rfl; have hcz10_1 : w9.cell? ⟨gb296, 1, none⟩ = some (.int .i64 0) := (blk_cell BK296.out 1).trans rfl; have hcz10_2 : w9.cell? ⟨gb296, 2, none⟩ = some (.int .i64 0) := (blk_cell BK296.out 2).trans rfl; have hcz10_3 : w9.cell? ⟨gb296, 3, none⟩ = some (.string (⟨#[]⟩ : ByteArray)) := (blk_cell BK296.out 3).trans rfl; have hfz10_0 := blk_frozen BK296.out 0; have hfz10_1 := blk_frozen BK296.out 1; have hfz10_2 := blk_frozen BK296.out 2; have hfz10_3 := blk_frozen BK296.out 3) | ((with_reducible refine gate_callee (f := 28) rfl ?_); refine goesL_ (some 23) rfl rfl Try.func28 (by kernel_rfl) rfl #[.string x6_1, .string ((rd_T27 l0 x15_1).f0)] rfl (by (try simp only [List.map_toArray, List.map_cons, List.map_nil]); first | done | rfl | (simp only [List.length_drop, List.length_take]; rfl)) ?_; (with_reducible refine (impl_CommonOf.calls k1 x6_1 ((rd_T27 l0 x15_1).f0) t297 _ A7.out).mono ?_); rintro e w11 ⟨rfl, hb⟩; refine ⟨_, rfl, ?_⟩; have n0_ := Aside0.mk (Kd.R_below (by (with_reducible repeat (first | apply Kd.R_alloc | apply Kd.R_drewN | apply Kd.R_drew)); exact (Kd.R_mono (Kd.R_far (p := ⟨gb296, 3, none⟩) (Kd.R_far (p := ⟨gb296, 2, none⟩) (Kd.R_far (p := ⟨gb296, 1, none⟩) (Kd.R_far (p := ⟨gb296, 0, none⟩) (Kd.R_types HO_5.out BK296.out (by decide)) (fun _ hk => hk.2) (.string ((rd_T27 l0 x15_1).f0))) (fun _ hk => hk.2) (.int .i64 ((rd_T27 l0 x15_1).f1))) (fun _ hk => hk.2) (.int .i64 ((rd_T27 l0 x15_1).f2))) (fun _ hk => hk.2) (.string ((rd_T27 l0 x15_1).f3))) (fun _ h_ => h_.1))) hb); have n1_ := Aside0.mk (blk_below (g := gb296) (o := .cells #[.string ((rd_T27 l0 x15_1).f0), .int .i64 ((rd_T27 l0 x15_1).f1), .int .i64 ((rd_T27 l0 x15_1).f2), .string ((rd_T27 l0 x15_1).f3)] 27 (0, 0)) (by (with_reducible repeat (first | refine blk_drewN ?_ _ | refine blk_drew ?_ | refine blk_alloc ?_ _)); refine blk_put (cs := #[.string ((rd_T27 l0 x15_1).f0), .int .i64 ((rd_T27 l0 x15_1).f1), .int .i64 ((rd_T27 l0 x15_1).f2), .string (⟨#[]⟩ : ByteArray)]) ?_ 3 _ rfl; (with_reducible repeat (first | refine blk_drewN ?_ _ | refine blk_drew ?_ | refine blk_alloc ?_ _)); refine blk_put (cs := #[.string ((rd_T27 l0 x15_1).f0), .int .i64 ((rd_T27 l0 x15_1).f1), .int .i64 0, .string (⟨#[]⟩ : ByteArray)]) ?_ 2 _ rfl; (with_reducible repeat (first | refine blk_drewN ?_ _ | refine blk_drew ?_ | refine blk_alloc ?_ _)); refine blk_put (cs := #[.string ((rd_T27 l0 x15_1).f0), .int .i64 0, .int .i64 0, .string (⟨#[]⟩ : ByteArray)]) ?_ 1 _ rfl; (with_reducible repeat (first | refine blk_drewN ?_ _ | refine blk_drew ?_ | refine blk_alloc ?_ _)); refine blk_put (cs := #[.string (⟨#[]⟩ : ByteArray), .int .i64 0, .int .i64 0, .string (⟨#[]⟩ : ByteArray)]) ?_ 0 _ rfl; (with_reducible repeat (first | refine blk_drewN ?_ _ | refine blk_drew ?_ | refine blk_alloc ?_ _)); exact BK296.out) hb); have n2_ := Aside0.mk (below_step (by repeat (first | (with_reducible first | exact HB.out | apply below_alloc | apply pw_below_drewN | apply below_drew1 | refine below_set ?_ GE296.out) | exact HB.out)) hb); clear HO_5; clear BK296; clear HB; have HO_5 := n0_; have BK296 := n1_; have HB := n2_; clear n0_ n1_ n2_; (try clear hb); (try clear hb2); (try clear hk); (try clear hi)))
      (try simp only [Act.put, List.setIfInBounds_toArray, List.set_cons_zero, List.set_cons_succ])
      go_cut [5, 9] (fun v5 v9 wc => ∃ (kq : Nat) (x5_7 : List Int) (x9_7 : Int), v9 = .int .i64 x9_7 ∧ Aside0 (impl_block.j1 kq x4_1 x5_7 x9_7 l0 (l0.length : Int) x15_1 ((rd_T27 l0 x15_1).f0) ((rd_T27 l0 x15_1).f1) ((rd_T27 l0 x15_1).f2) ((rd_T27 l0 x15_1).f3) = some (r1, r2)) ∧ Aside0 (kq ≤ k1) ∧ Aside0 (Kd.R (Kd.int .i64) 3 wc w.heap.size (fun _ => True) v5 x5_7) ∧ Aside0 (wc.heap[gb296]? = some (.cells #[.string ((rd_T27 l0 x15_1).f0), .int .i64 ((rd_T27 l0 x15_1).f1), .int .i64 ((rd_T27 l0 x15_1).f2), .string ((rd_T27 l0 x15_1).f3)] 27 (0, 0))) ∧ Aside0 (Below w.heap.size w wc))
      case first =>
       have H := HC8.out
       clear HC8
       by_cases c12 : (Int.tmod x15_1 4) = 0
       ·rw [if_pos c12] at H
        have c12b0 : ((Int.tmod x15_1 4) == 0) = true := beq_iff_eq.mpr c12
        have c12b1 : ((Int.tmod x15_1 4) != 0) = false := bne_eq_false_iff_eq.mpr c12
        clear c12
        (first | rw [c12b0] | (simp only [i64_w, i32_w]; rw [c12b0]) | rw [c12b1] | skip)
        by_cases c13 : x5_1.length < 17592186044416
        ·rw [if_pos c13] at H
         have LMc13 := Aside0.mk c13
         clear c13
         obtain ⟨y298, hy298⟩ : ∃ y_ : List Int, y_ = (x5_1 ++ [(x4_1.size : Int)]) := ⟨_, rfl⟩
         replace H : (impl_block.j1 k1 x4_1 y298 0 l0 (l0.length : Int) x15_1 ((rd_T27 l0 x15_1).f0) ((rd_T27 l0 x15_1).f1) ((rd_T27 l0 x15_1).f2) ((rd_T27 l0 x15_1).f3)) = some (r1, r2) := by first | (rw [hy298]; with_reducible exact H) | (have H2_ := (Option.bind_some _ _).symm.trans H; rw [hy298]; with_reducible exact H2_) | (have H2_ := (Option.bind_some _ _).symm.trans H; with_reducible exact H2_) | with_reducible exact H | (rw [hy298]; exact H) | exact H
         have Ny298 := Aside0.mk hy298
         clear hy298
         have H' := Aside0.mk H
         clear H
         go_wp2_with (first | ((with_reducible refine gate_builtin (b := .append) (xs := #[.tmp 27, .tmp 30]) rfl ?_); at_builtin; refine Kd.R_append (Kd.int .i64) (w0 := w) w.heap.size rfl (.tmp 27) (.tmp 30) 74 3 (.int .i64 0) 8 rfl Try.underlying74 info3 rfl (by decide) (by omega) u5 x5_1 (x4_1.size : Int) [.int .i64 (x4_1.size : Int)] (fun _ => True) (fun _ => False) rfl rfl ?aP (fun _ hk => hk.elim) ?aF ?aO ?aB ?aS ?aL ?_; (case aP => exact rfl); (case aB => exact (by repeat (first | (with_reducible first | exact HB.out | apply below_alloc | apply pw_below_drewN | apply below_drew1 | refine below_set ?_ GE296.out) | exact HB.out))); (case aF => exact (fun _ _ => trivial)); (case aO => exact (by (with_reducible repeat (first | apply Kd.R_alloc | apply Kd.R_drewN | apply Kd.R_drew)); exact HO_5.out)); (case aS => exact (below_size (by repeat (first | (with_reducible first | exact HB.out | apply below_alloc | apply pw_below_drewN | apply below_drew1 | refine below_set ?_ GE296.out) | exact HB.out)))); (case aL => have := LMc13.out; omega); intro v299 w14 ho hb hg hat; rw [← Ny298.out] at ho; have n0_ := Aside0.mk (blk_grown (g := gb296) (o := .cells #[.string ((rd_T27 l0 x15_1).f0), .int .i64 ((rd_T27 l0 x15_1).f1), .int .i64 ((rd_T27 l0 x15_1).f2), .string ((rd_T27 l0 x15_1).f3)] 27 (0, 0)) (by (with_reducible repeat (first | refine blk_drewN ?_ _ | refine blk_drew ?_ | refine blk_alloc ?_ _)); exact BK296.out) hg (Kd.R_ne HO_5.out BK296.out (by decide))); have n1_ := Aside0.mk (hb); have n2_ := Aside0.mk (ho); clear BK296; clear HB; clear HO_5; have BK296 := n0_; have HB := n1_; have HO300 := n2_; clear n0_ n1_ n2_; clear ho hb hg hat))
         go_meet
         case rel => exact ⟨_, (y298), (0), (by first | rfl | (simp; done) | (simp [*]; done)), H', ⟨by have := HK1.out; first | omega | exact Nat.le_refl _⟩, ⟨by (with_reducible repeat (first | apply Kd.R_alloc | apply Kd.R_drewN | apply Kd.R_drew)); exact HO300.out⟩, ⟨by (with_reducible repeat (first | refine blk_drewN ?_ _ | refine blk_drew ?_ | refine blk_alloc ?_ _)); exact BK296.out⟩, ⟨by repeat (first | (with_reducible first | exact HB.out | apply below_alloc | apply pw_below_drewN | apply below_drew1 | refine below_set ?_ GE296.out) | exact HB.out)⟩⟩
        ·rw [if_neg c13] at H
         exact absurd H (by simp)
       ·rw [if_neg c12] at H
        have c12b0 : ((Int.tmod x15_1 4) == 0) = false := beq_eq_false_iff_ne.mpr c12
        have c12b1 : ((Int.tmod x15_1 4) != 0) = true := bne_iff_ne.mpr c12
        (first | rw [c12b0] | (simp only [i64_w, i32_w]; rw [c12b0]) | rw [c12b1] | skip)
        have H' := Aside0.mk H
        clear H
        go_wp2
        go_meet
        case rel => exact ⟨_, (x5_1), (t297), (by first | rfl | (simp; done) | (simp [*]; done)), H', ⟨by have := HK1.out; first | omega | exact Nat.le_refl _⟩, ⟨by (with_reducible repeat (first | apply Kd.R_alloc | apply Kd.R_drewN | apply Kd.R_drew)); exact HO_5.out⟩, ⟨by (with_reducible repeat (first | refine blk_drewN ?_ _ | refine blk_drew ?_ | refine blk_alloc ?_ _)); exact BK296.out⟩, ⟨by repeat (first | (with_reducible first | exact HB.out | apply below_alloc | apply pw_below_drewN | apply below_drew1 | refine below_set ?_ GE296.out) | exact HB.out)⟩⟩
      case rest =>
       clear HC8
       try clear c1
       try clear c2
       try clear p2
       try clear q2
       try clear hx2
       try clear c4
       try clear c4b0
       try clear c5
       try clear c5b0
       try clear c6
       try clear c6b0
       try clear c12
       try clear c12b0
       try clear c12b1
       try clear c13
       try clear hcz10_0
       try clear hcz10_1
       try clear hcz10_2
       try clear hcz10_3
       try clear hfz10_0
       try clear hfz10_1
       try clear hfz10_2
       try clear hfz10_3
       try clear hx295_0
       try clear hx295_1
       try clear hx295_2
       try clear hx295_3
       try clear p2
       try clear p295
       try clear q295
       obtain ⟨kq, x5_7, x9_7, rfl, HA, HJ7, HO_5, BK296, HB⟩ := hcut
       cases kq with
       | zero => exact absurd HA.out (by simp [impl_block.j1])
       | succ kj7 =>
        have H := HA.out
        clear HA
        simp only [impl_block.j1] at H
        replace H := Option.bind_eq_some_iff.mp H
        obtain ⟨t301, A150, H⟩ := H
        replace H : ((impl_varBytes.f kj7 (wrap64 ((((rd_T27 l0 x15_1).f0).size : Int) - x9_7))).bind fun t302 => (if t301.size + t302.size ≤ 9223372036854775807 then ((impl_varBytes.f kj7 (wrap64 ((wrap64 (2 * ((rd_T27 l0 x15_1).f1))) + ((rd_T27 l0 x15_1).f2)))).bind fun t303 => (if t301.size + t302.size + t303.size ≤ 9223372036854775807 then ((impl_varBytes.f kj7 (((rd_T27 l0 x15_1).f3).size : Int)).bind fun t304 => (if (t301.size + t302.size) + t303.size + t304.size ≤ 9223372036854775807 then (if 0 ≤ x9_7 then (if x9_7 ≤ (((rd_T27 l0 x15_1).f0).size : Int) then (if ((t301.size + t302.size) + t303.size) + t304.size + (((rd_T27 l0 x15_1).f0).size - (x9_7 : Int).toNat) ≤ 9223372036854775807 then (if (((t301.size + t302.size) + t303.size) + t304.size) + (((rd_T27 l0 x15_1).f0).size - (x9_7 : Int).toNat) + ((rd_T27 l0 x15_1).f3).size ≤ 9223372036854775807 then (if x4_1.size + (((((t301.size + t302.size) + t303.size) + t304.size) + (((rd_T27 l0 x15_1).f0).size - (x9_7 : Int).toNat)) + ((rd_T27 l0 x15_1).f3).size) ≤ 9223372036854775807 then (impl_block.l0 kj7 (x4_1 ++ (((((t301 ++ t302) ++ t303) ++ t304) ++ (((rd_T27 l0 x15_1).f0).extract (x9_7 : Int).toNat ((rd_T27 l0 x15_1).f0).size)) ++ ((rd_T27 l0 x15_1).f3))) x5_7 ((rd_T27 l0 x15_1).f0) l0 (l0.length : Int) (wrap64 (x15_1 + 1))) else (none)) else (none)) else (none)) else (none)) else (none)) else (none))) else (none))) else (none))) = some (r1, r2) := H
        have A15 := Aside0.mk A150
        clear A150
        replace H := Option.bind_eq_some_iff.mp H
        obtain ⟨t302, A160, H⟩ := H
        replace H : (if t301.size + t302.size ≤ 9223372036854775807 then ((impl_varBytes.f kj7 (wrap64 ((wrap64 (2 * ((rd_T27 l0 x15_1).f1))) + ((rd_T27 l0 x15_1).f2)))).bind fun t303 => (if t301.size + t302.size + t303.size ≤ 9223372036854775807 then ((impl_varBytes.f kj7 (((rd_T27 l0 x15_1).f3).size : Int)).bind fun t304 => (if (t301.size + t302.size) + t303.size + t304.size ≤ 9223372036854775807 then (if 0 ≤ x9_7 then (if x9_7 ≤ (((rd_T27 l0 x15_1).f0).size : Int) then (if ((t301.size + t302.size) + t303.size) + t304.size + (((rd_T27 l0 x15_1).f0).size - (x9_7 : Int).toNat) ≤ 9223372036854775807 then (if (((t301.size + t302.size) + t303.size) + t304.size) + (((rd_T27 l0 x15_1).f0).size - (x9_7 : Int).toNat) + ((rd_T27 l0 x15_1).f3).size ≤ 9223372036854775807 then (if x4_1.size + (((((t301.size + t302.size) + t303.size) + t304.size) + (((rd_T27 l0 x15_1).f0).size - (x9_7 : Int).toNat)) + ((rd_T27 l0 x15_1).f3).size) ≤ 9223372036854775807 then (impl_block.l0 kj7 (x4_1 ++ (((((t301 ++ t302) ++ t303) ++ t304) ++ (((rd_T27 l0 x15_1).f0).extract (x9_7 : Int).toNat ((rd_T27 l0 x15_1).f0).size)) ++ ((rd_T27 l0 x15_1).f3))) x5_7 ((rd_T27 l0 x15_1).f0) l0 (l0.length : Int) (wrap64 (x15_1 + 1))) else (none)) else (none)) else (none)) else (none)) else (none)) else (none))) else (none))) else (none)) = some (r1, r2) := H
        have A16 := Aside0.mk A160
        clear A160
        by_cases c17 : t301.size + t302.size ≤ 9223372036854775807
        ·rw [if_pos c17] at H
         have c17b0 := eq_true c17
         have c17b1 : decide (t301.size + t302.size ≤ 9223372036854775807) = true := decide_eq_true c17
         try have c17b2 : (9223372036854775807 < t301.size + t302.size) = False := eq_false (Nat.not_lt.2 c17)
         replace H := Option.bind_eq_some_iff.mp H
         obtain ⟨t303, A180, H⟩ := H
         replace H : (if t301.size + t302.size + t303.size ≤ 9223372036854775807 then ((impl_varBytes.f kj7 (((rd_T27 l0 x15_1).f3).size : Int)).bind fun t304 => (if (t301.size + t302.size) + t303.size + t304.size ≤ 9223372036854775807 then (if 0 ≤ x9_7 then (if x9_7 ≤ (((rd_T27 l0 x15_1).f0).size : Int) then (if ((t301.size + t302.size) + t303.size) + t304.size + (((rd_T27 l0 x15_1).f0).size - (x9_7 : Int).toNat) ≤ 9223372036854775807 then (if (((t301.size + t302.size) + t303.size) + t304.size) + (((rd_T27 l0 x15_1).f0).size - (x9_7 : Int).toNat) + ((rd_T27 l0 x15_1).f3).size ≤ 9223372036854775807 then (if x4_1.size + (((((t301.size + t302.size) + t303.size) + t304.size) + (((rd_T27 l0 x15_1).f0).size - (x9_7 : Int).toNat)) + ((rd_T27 l0 x15_1).f3).size) ≤ 9223372036854775807 then (impl_block.l0 kj7 (x4_1 ++ (((((t301 ++ t302) ++ t303) ++ t304) ++ (((rd_T27 l0 x15_1).f0).extract (x9_7 : Int).toNat ((rd_T27 l0 x15_1).f0).size)) ++ ((rd_T27 l0 x15_1).f3))) x5_7 ((rd_T27 l0 x15_1).f0) l0 (l0.length : Int) (wrap64 (x15_1 + 1))) else (none)) else (none)) else (none)) else (none)) else (none)) else (none))) else (none)) = some (r1, r2) := H
         have A18 := Aside0.mk A180
         clear A180
         by_cases c19 : t301.size + t302.size + t303.size ≤ 9223372036854775807
         ·rw [if_pos c19] at H
          have c19b0 := eq_true c19
          have c19b1 : decide (t301.size + t302.size + t303.size ≤ 9223372036854775807) = true := decide_eq_true c19
          try have c19b2 : (9223372036854775807 < t301.size + t302.size + t303.size) = False := eq_false (Nat.not_lt.2 c19)
          replace H := Option.bind_eq_some_iff.mp H
          obtain ⟨t304, A200, H⟩ := H
          replace H : (if (t301.size + t302.size) + t303.size + t304.size ≤ 9223372036854775807 then (if 0 ≤ x9_7 then (if x9_7 ≤ (((rd_T27 l0 x15_1).f0).size : Int) then (if ((t301.size + t302.size) + t303.size) + t304.size + (((rd_T27 l0 x15_1).f0).size - (x9_7 : Int).toNat) ≤ 9223372036854775807 then (if (((t301.size + t302.size) + t303.size) + t304.size) + (((rd_T27 l0 x15_1).f0).size - (x9_7 : Int).toNat) + ((rd_T27 l0 x15_1).f3).size ≤ 9223372036854775807 then (if x4_1.size + (((((t301.size + t302.size) + t303.size) + t304.size) + (((rd_T27 l0 x15_1).f0).size - (x9_7 : Int).toNat)) + ((rd_T27 l0 x15_1).f3).size) ≤ 9223372036854775807 then (impl_block.l0 kj7 (x4_1 ++ (((((t301 ++ t302) ++ t303) ++ t304) ++ (((rd_T27 l0 x15_1).f0).extract (x9_7 : Int).toNat ((rd_T27 l0 x15_1).f0).size)) ++ ((rd_T27 l0 x15_1).f3))) x5_7 ((rd_T27 l0 x15_1).f0) l0 (l0.length : Int) (wrap64 (x15_1 + 1))) else (none)) else (none)) else (none)) else (none)) else (none)) else (none)) = some (r1, r2) := H
          have A20 := Aside0.mk A200
          clear A200
          by_cases c21 : (t301.size + t302.size) + t303.size + t304.size ≤ 9223372036854775807
          ·rw [if_pos c21] at H
           have c21b0 := eq_true c21
           have c21b1 : decide ((t301.size + t302.size) + t303.size + t304.size ≤ 9223372036854775807) = true := decide_eq_true c21
           try have c21b2 : (9223372036854775807 < (t301.size + t302.size) + t303.size + t304.size) = False := eq_false (Nat.not_lt.2 c21)
           by_cases c22 : 0 ≤ x9_7
           ·rw [if_pos c22] at H
            have c22b0 := eq_true c22
            have c22b1 : decide (0 ≤ x9_7) = true := decide_eq_true c22
            clear c22
            by_cases c23 : x9_7 ≤ (((rd_T27 l0 x15_1).f0).size : Int)
            ·rw [if_pos c23] at H
             have c23b0 := eq_true c23
             have c23b1 : decide (x9_7 ≤ (((rd_T27 l0 x15_1).f0).size : Int)) = true := decide_eq_true c23
             clear c23
             by_cases c24 : ((t301.size + t302.size) + t303.size) + t304.size + (((rd_T27 l0 x15_1).f0).size - (x9_7 : Int).toNat) ≤ 9223372036854775807
             ·rw [if_pos c24] at H
              have c24b0 := eq_true c24
              have c24b1 : decide (((t301.size + t302.size) + t303.size) + t304.size + (((rd_T27 l0 x15_1).f0).size - (x9_7 : Int).toNat) ≤ 9223372036854775807) = true := decide_eq_true c24
              try have c24b2 : (9223372036854775807 < ((t301.size + t302.size) + t303.size) + t304.size + (((rd_T27 l0 x15_1).f0).size - (x9_7 : Int).toNat)) = False := eq_false (Nat.not_lt.2 c24)
              by_cases c25 : (((t301.size + t302.size) + t303.size) + t304.size) + (((rd_T27 l0 x15_1).f0).size - (x9_7 : Int).toNat) + ((rd_T27 l0 x15_1).f3).size ≤ 9223372036854775807
              ·rw [if_pos c25] at H
               have c25b0 := eq_true c25
               have c25b1 : decide ((((t301.size + t302.size) + t303.size) + t304.size) + (((rd_T27 l0 x15_1).f0).size - (x9_7 : Int).toNat) + ((rd_T27 l0 x15_1).f3).size ≤ 9223372036854775807) = true := decide_eq_true c25
               try have c25b2 : (9223372036854775807 < (((t301.size + t302.size) + t303.size) + t304.size) + (((rd_T27 l0 x15_1).f0).size - (x9_7 : Int).toNat) + ((rd_T27 l0 x15_1).f3).size) = False := eq_false (Nat.not_lt.2 c25)
               by_cases c26 : x4_1.size + (((((t301.size + t302.size) + t303.size) + t304.size) + (((rd_T27 l0 x15_1).f0).size - (x9_7 : Int).toNat)) + ((rd_T27 l0 x15_1).f3).size) ≤ 9223372036854775807
               ·rw [if_pos c26] at H
                have c26b0 := eq_true c26
                have c26b1 : decide (x4_1.size + (((((t301.size + t302.size) + t303.size) + t304.size) + (((rd_T27 l0 x15_1).f0).size - (x9_7 : Int).toNat)) + ((rd_T27 l0 x15_1).f3).size) ≤ 9223372036854775807) = true := decide_eq_true c26
                try have c26b2 : (9223372036854775807 < x4_1.size + (((((t301.size + t302.size) + t303.size) + t304.size) + (((rd_T27 l0 x15_1).f0).size - (x9_7 : Int).toNat)) + ((rd_T27 l0 x15_1).f3).size)) = False := eq_false (Nat.not_lt.2 c26)
                have H' := Aside0.mk H
                clear H
                try go_wp2
                have n0_ := Aside0.mk (Kd.R_drew HO_5.out)
                have n1_ := Aside0.mk (blk_drew BK296.out)
                have n2_ := Aside0.mk (below_drew1 HB.out)
                clear HO_5
                clear BK296
                clear HB
                have HO_5 := n0_
                have BK296 := n1_
                have HB := n2_
                clear n0_ n1_ n2_
                refine start_ (n := 33) (S := fun w' => w'.cell? ⟨gb296, 0, none⟩ = some (.string ((rd_T27 l0 x15_1).f0)) ∧ w'.cell? ⟨gb296, 1, none⟩ = some (.int .i64 ((rd_T27 l0 x15_1).f1)) ∧ w'.cell? ⟨gb296, 2, none⟩ = some (.int .i64 ((rd_T27 l0 x15_1).f2)) ∧ w'.cell? ⟨gb296, 3, none⟩ = some (.string ((rd_T27 l0 x15_1).f3))) (ds := []) #[false, false, false, false, false, false, false, false, false, false, false, false, false, false, false, false, false, false, false, false, false, false, false, false, false, false, false, false, false, false, false, false, false] (by kernel_rfl) rfl rfl ⟨(blk_cell BK296.out 0).trans rfl, (blk_cell BK296.out 1).trans rfl, (blk_cell BK296.out 2).trans rfl, (blk_cell BK296.out 3).trans rfl⟩ (fun hHeld => ?_); refine with_tabW impl_block.tab8 impl_block.bits8 (fun HT_ HW_ => ?_)
                generalize wc.drew = w27 at HO_5 BK296 HB hHeld ⊢
                refine pure_ (i := 0) (N := some 32) (v := ?_) (a' := ?_) #[true, false, false, false, false, false, false, false, false, false, false, false, false, false, false, false, false, false, false, false, false, false, false, false, false, false, false, false, false, false, false, false, false] rfl rfl (any_of HT_.out (by kernel_rfl)) (fun _ _ _ h => h) (Or.inl ⟨by rfl, ?_⟩) ?_ ?_
                rotate_left
                ·intro w'
                 go_simp
                 with_reducible rfl
                rotate_left
                ·simp only [Act.put, List.setIfInBounds_toArray, List.set_cons_zero, List.set_cons_succ, i64_w, i32_w]
                 rfl
                refine pure_ (i := 1) (N := some 33) (v := ?_) (a' := ?_) #[true, true, false, false, false, false, false, false, false, false, false, false, false, false, false, false, false, false, false, false, false, false, false, false, false, false, false, false, false, false, false, false, false] rfl rfl (any_of HT_.out (by kernel_rfl)) (fun _ _ _ h => h) (Or.inl ⟨by rfl, ?_⟩) ?_ ?_
                rotate_left
                ·intro w'
                 go_simp
                 with_reducible rfl
                rotate_left
                ·simp only [Act.put, List.setIfInBounds_toArray, List.set_cons_zero, List.set_cons_succ, i64_w, i32_w]
                 rfl
                refine pure_ (i := 3) (N := some 35) (v := ?_) (a' := ?_) #[true, true, false, true, false, false, false, false, false, false, false, false, false, false, false, false, false, false, false, false, false, false, false, false, false, false, false, false, false, false, false, false, false] rfl rfl (any_of HT_.out (by kernel_rfl)) (fun _ _ _ h => h) (Or.inl ⟨by rfl, ?_⟩) ?_ ?_
                rotate_left
                ·intro w'
                 go_simp
                 with_reducible rfl
                rotate_left
                ·simp only [Act.put, List.setIfInBounds_toArray, List.set_cons_zero, List.set_cons_succ, i64_w, i32_w]
                 rfl
                refine pure_ (i := 6) (N := some 38) (v := ?_) (a' := ?_) #[true, true, false, true, false, false, true, false, false, false, false, false, false, false, false, false, false, false, false, false, false, false, false, false, false, false, false, false, false, false, false, false, false] rfl rfl (any_of HT_.out (by kernel_rfl)) (fun _ _ _ h => h) (Or.inl ⟨by rfl, ?_⟩) ?_ ?_
                rotate_left
                ·intro w'
                 go_simp
                 with_reducible rfl
                rotate_left
                ·simp only [Act.put, List.setIfInBounds_toArray, List.set_cons_zero, List.set_cons_succ, i64_w, i32_w]
                 rfl
                refine pure_ (i := 10) (N := some 42) (v := ?_) (a' := ?_) #[true, true, false, true, false, false, true, false, false, false, true, false, false, false, false, false, false, false, false, false, false, false, false, false, false, false, false, false, false, false, false, false, false] rfl rfl (any_of HT_.out (by kernel_rfl)) (fun _ _ _ h => h) (Or.inl ⟨by rfl, ?_⟩) ?_ ?_
                rotate_left
                ·intro w'
                 go_simp
                 with_reducible rfl
                rotate_left
                ·simp only [Act.put, List.setIfInBounds_toArray, List.set_cons_zero, List.set_cons_succ, i64_w, i32_w]
                 rfl
                refine pure_ (i := 13) (N := some 45) (v := ?_) (a' := ?_) #[true, true, false, true, false, false, true, false, false, false, true, false, false, true, false, false, false, false, false, false, false, false, false, false, false, false, false, false, false, false, false, false, false] rfl rfl (any_of HT_.out (by kernel_rfl)) (fun _ _ _ h => h) (Or.inl ⟨by rfl, ?_⟩) ?_ ?_
                rotate_left
                ·intro w'
                 go_simp
                 with_reducible rfl
                rotate_left
                ·simp only [Act.put, List.setIfInBounds_toArray, List.set_cons_zero, List.set_cons_succ, i64_w, i32_w]
                 rfl
                refine pure_ (i := 18) (N := some 50) (v := ?_) (a' := ?_) #[true, true, false, true, false, false, true, false, false, false, true, false, false, true, false, false, false, false, true, false, false, false, false, false, false, false, false, false, false, false, false, false, false] rfl rfl (any_of HT_.out (by kernel_rfl)) (fun _ _ _ h => h) (Or.inl ⟨by rfl, ?_⟩) ?_ ?_
                rotate_left
                ·intro w'
                 go_simp
                 with_reducible rfl
                rotate_left
                ·simp only [Act.put, List.setIfInBounds_toArray, List.set_cons_zero, List.set_cons_succ, i64_w, i32_w]
                 rfl
                refine pure_ (i := 23) (N := some 55) (v := ?_) (a' := ?_) #[true, true, false, true, false, false, true, false, false, false, true, false, false, true, false, false, false, false, true, false, false, false, false, true, false, false, false, false, false, false, false, false, false] rfl rfl (any_of HT_.out (by kernel_rfl)) (fun _ _ _ h => h) (Or.inl ⟨by rfl, ?_⟩) ?_ ?_
                rotate_left
                ·intro w'
                 go_simp
                 with_reducible rfl
                rotate_left
                ·simp only [Act.put, List.setIfInBounds_toArray, List.set_cons_zero, List.set_cons_succ, i64_w, i32_w]
                 rfl
                refine pure_ (i := 25) (N := some 57) (v := ?_) (a' := ?_) #[true, true, false, true, false, false, true, false, false, false, true, false, false, true, false, false, false, false, true, false, false, false, false, true, false, true, false, false, false, false, false, false, false] rfl rfl (any_of HT_.out (by kernel_rfl)) (fun _ _ _ h => h) (Or.inl ⟨by rfl, ?_⟩) ?_ ?_
                rotate_left
                ·intro w'
                 go_simp
                 with_reducible rfl
                rotate_left
                ·simp only [Act.put, List.setIfInBounds_toArray, List.set_cons_zero, List.set_cons_succ, i64_w, i32_w]
                 rfl
                refine pure_ (i := 28) (N := some 60) (v := ?_) (a' := ?_) #[true, true, false, true, false, false, true, false, false, false, true, false, false, true, false, false, false, false, true, false, false, false, false, true, false, true, false, false, true, false, false, false, false] rfl rfl (any_of HT_.out (by kernel_rfl)) (fun _ _ _ h => h) (Or.inl ⟨by rfl, ?_⟩) ?_ ?_
                rotate_left
                ·intro w'
                 go_simp
                 with_reducible rfl
                rotate_left
                ·simp only [Act.put, List.setIfInBounds_toArray, List.set_cons_zero, List.set_cons_succ, i64_w, i32_w]
                 rfl
                refine take_ (i := 4) (N := some 36) (v := ?_) (a' := ?_) #[true, true, false, true, true, false, true, false, false, false, true, false, false, true, false, false, false, false, true, false, false, false, false, true, false, true, false, false, true, false, false, false, false] rfl rfl (take_ofW HT_.out HW_.out (by kernel_rfl)) (fun _ _ _ h => h) (Or.inl ⟨by rfl, ?_⟩) hHeld ?_ ?_
                rotate_left
                ·rintro w' ⟨s0, s1, s2, s3⟩
                 go_simp
                 with_reducible rfl
                rotate_left
                ·simp only [Act.put, List.setIfInBounds_toArray, List.set_cons_zero, List.set_cons_succ, i64_w, i32_w]
                 rfl
                refine pure_ (i := 5) (N := some 37) (v := ?_) (a' := ?_) #[true, true, false, true, true, true, true, false, false, false, true, false, false, true, false, false, false, false, true, false, false, false, false, true, false, true, false, false, true, false, false, false, false] rfl rfl (any_of HT_.out (by kernel_rfl)) (fun _ _ _ h => h) (Or.inl ⟨by rfl, ?_⟩) ?_ ?_
                rotate_left
                ·intro w'
                 go_simp
                 with_reducible rfl
                rotate_left
                ·simp only [Act.put, List.setIfInBounds_toArray, List.set_cons_zero, List.set_cons_succ, i64_w, i32_w]
                 rfl
                refine pure_ (i := 7) (N := some 39) (v := ?_) (a' := ?_) #[true, true, false, true, true, true, true, true, false, false, true, false, false, true, false, false, false, false, true, false, false, false, false, true, false, true, false, false, true, false, false, false, false] rfl rfl (any_of HT_.out (by kernel_rfl)) (fun _ _ _ h => h) (Or.inl ⟨by rfl, ?_⟩) ?_ ?_
                rotate_left
                ·intro w'
                 go_simp
                 with_reducible rfl
                rotate_left
                ·simp only [Act.put, List.setIfInBounds_toArray, List.set_cons_zero, List.set_cons_succ, i64_w, i32_w]
                 rfl
                refine take_ (i := 11) (N := some 43) (v := ?_) (a' := ?_) #[true, true, false, true, true, true, true, true, false, false, true, true, false, true, false, false, false, false, true, false, false, false, false, true, false, true, false, false, true, false, false, false, false] rfl rfl (take_ofW HT_.out HW_.out (by kernel_rfl)) (fun _ _ _ h => h) (Or.inl ⟨by rfl, ?_⟩) hHeld ?_ ?_
                rotate_left
                ·rintro w' ⟨s0, s1, s2, s3⟩
                 go_simp
                 with_reducible rfl
                rotate_left
                ·simp only [Act.put, List.setIfInBounds_toArray, List.set_cons_zero, List.set_cons_succ, i64_w, i32_w]
                 rfl
                refine pure_ (i := 12) (N := some 44) (v := ?_) (a' := ?_) #[true, true, false, true, true, true, true, true, false, false, true, true, true, true, false, false, false, false, true, false, false, false, false, true, false, true, false, false, true, false, false, false, false] rfl rfl (any_of HT_.out (by kernel_rfl)) (fun _ _ _ h => h) (Or.inl ⟨by rfl, ?_⟩) ?_ ?_
                rotate_left
                ·intro w'
                 go_simp
                 with_reducible rfl
                rotate_left
                ·simp only [Act.put, List.setIfInBounds_toArray, List.set_cons_zero, List.set_cons_succ, i64_w, i32_w]
                 rfl
                refine take_ (i := 14) (N := some 46) (v := ?_) (a' := ?_) #[true, true, false, true, true, true, true, true, false, false, true, true, true, true, true, false, false, false, true, false, false, false, false, true, false, true, false, false, true, false, false, false, false] rfl rfl (take_ofW HT_.out HW_.out (by kernel_rfl)) (fun _ _ _ h => h) (Or.inl ⟨by rfl, ?_⟩) hHeld ?_ ?_
                rotate_left
                ·rintro w' ⟨s0, s1, s2, s3⟩
                 go_simp
                 with_reducible rfl
                rotate_left
                ·simp only [Act.put, List.setIfInBounds_toArray, List.set_cons_zero, List.set_cons_succ, i64_w, i32_w]
                 rfl
                refine pure_ (i := 15) (N := some 47) (v := ?_) (a' := ?_) #[true, true, false, true, true, true, true, true, false, false, true, true, true, true, true, true, false, false, true, false, false, false, false, true, false, true, false, false, true, false, false, false, false] rfl rfl (any_of HT_.out (by kernel_rfl)) (fun _ _ _ h => h) (Or.inl ⟨by rfl, ?_⟩) ?_ ?_
                rotate_left
                ·intro w'
                 go_simp
                 with_reducible rfl
                rotate_left
                ·simp only [Act.put, List.setIfInBounds_toArray, List.set_cons_zero, List.set_cons_succ, i64_w, i32_w]
                 rfl
                refine take_ (i := 19) (N := some 51) (v := ?_) (a' := ?_) #[true, true, false, true, true, true, true, true, false, false, true, true, true, true, true, true, false, false, true, true, false, false, false, true, false, true, false, false, true, false, false, false, false] rfl rfl (take_ofW HT_.out HW_.out (by kernel_rfl)) (fun _ _ _ h => h) (Or.inl ⟨by rfl, ?_⟩) hHeld ?_ ?_
                rotate_left
                ·rintro w' ⟨s0, s1, s2, s3⟩
                 go_simp
                 with_reducible rfl
                rotate_left
                ·simp only [Act.put, List.setIfInBounds_toArray, List.set_cons_zero, List.set_cons_succ, i64_w, i32_w]
                 rfl
                refine pure_ (i := 20) (N := some 52) (v := ?_) (a' := ?_) #[true, true, false, true, true, true, true, true, false, false, true, true, true, true, true, true, false, false, true, true, true, false, false, true, false, true, false, false, true, false, false, false, false] rfl rfl (any_of HT_.out (by kernel_rfl)) (fun _ _ _ h => h) (Or.inl ⟨by rfl, ?_⟩) ?_ ?_
                rotate_left
                ·intro w'
                 go_simp
                 with_reducible rfl
                rotate_left
                ·simp only [Act.put, List.setIfInBounds_toArray, List.set_cons_zero, List.set_cons_succ, i64_w, i32_w]
                 rfl
                refine take_ (i := 24) (N := some 56) (v := ?_) (a' := ?_) #[true, true, false, true, true, true, true, true, false, false, true, true, true, true, true, true, false, false, true, true, true, false, false, true, true, true, false, false, true, false, false, false, false] rfl rfl (take_ofW HT_.out HW_.out (by kernel_rfl)) (fun _ _ _ h => h) (Or.inl ⟨by rfl, ?_⟩) hHeld ?_ ?_
                rotate_left
                ·rintro w' ⟨s0, s1, s2, s3⟩
                 go_simp
                 with_reducible rfl
                rotate_left
                ·simp only [Act.put, List.setIfInBounds_toArray, List.set_cons_zero, List.set_cons_succ, i64_w, i32_w]
                 rfl
                refine pure_ (i := 26) (N := some 58) (v := ?_) (a' := ?_) #[true, true, false, true, true, true, true, true, false, false, true, true, true, true, true, true, false, false, true, true, true, false, false, true, true, true, true, false, true, false, false, false, false] rfl rfl (any_of HT_.out (by kernel_rfl)) (fun _ _ _ h => h) (Or.inl ⟨by rfl, ?_⟩) ?_ ?_
                rotate_left
                ·intro w'
                 go_simp
                 with_reducible rfl
                rotate_left
                ·simp only [Act.put, List.setIfInBounds_toArray, List.set_cons_zero, List.set_cons_succ, i64_w, i32_w]
                 rfl
                refine take_ (i := 29) (N := some 61) (v := ?_) (a' := ?_) #[true, true, false, true, true, true, true, true, false, false, true, true, true, true, true, true, false, false, true, true, true, false, false, true, true, true, true, false, true, true, false, false, false] rfl rfl (take_ofW HT_.out HW_.out (by kernel_rfl)) (fun _ _ _ h => h) (Or.inl ⟨by rfl, ?_⟩) hHeld ?_ ?_
                rotate_left
                ·rintro w' ⟨s0, s1, s2, s3⟩
                 go_simp
                 with_reducible rfl
                rotate_left
                ·simp only [Act.put, List.setIfInBounds_toArray, List.set_cons_zero, List.set_cons_succ, i64_w, i32_w]
                 rfl
                refine one_ (i := 2) (N := some 34) #[true, true, true, true, true, true, true, true, false, false, true, true, true, true, true, true, false, false, true, true, true, false, false, true, true, true, true, false, true, true, false, false, false] rfl rfl (one_of HT_.out (by kernel_rfl)) (by decide) (fun K hK => ?_)
                refine goes_ Try.func73 (by kernel_rfl) rfl #[.int .i64 x9_7] (by rfl) rfl rfl (by (try simp only [List.map_toArray, List.map_cons, List.map_nil]); first | done | rfl | (simp only [List.length_drop, List.length_take]; rfl)) ?_
                with_reducible refine (impl_varBytes.calls kj7 x9_7 t301 _ A15.out).mono ?_
                rintro e w28 ⟨rfl, hb⟩
                refine ⟨_, rfl, ?_⟩
                have n0_ := Aside0.mk (Kd.R_below (by (with_reducible repeat (first | apply Kd.R_alloc | apply Kd.R_drewN | apply Kd.R_drew)); exact HO_5.out) hb)
                have n1_ := Aside0.mk (blk_below (g := gb296) (o := .cells #[.string ((rd_T27 l0 x15_1).f0), .int .i64 ((rd_T27 l0 x15_1).f1), .int .i64 ((rd_T27 l0 x15_1).f2), .string ((rd_T27 l0 x15_1).f3)] 27 (0, 0)) (by (with_reducible repeat (first | refine blk_drewN ?_ _ | refine blk_drew ?_ | refine blk_alloc ?_ _)); exact BK296.out) hb)
                have n2_ := Aside0.mk (below_step (by repeat (first | (with_reducible first | exact HB.out | apply below_alloc | apply pw_below_drewN | apply below_drew1 | refine below_set ?_ GE296.out) | exact HB.out)) hb)
                clear HO_5
                clear BK296
                clear HB
                have HO_5 := n0_
                have BK296 := n1_
                have HB := n2_
                clear n0_ n1_ n2_
                (try clear hb)
                (try clear hb2)
                (try clear hk)
                (try clear hi)
                refine hK.out _ _ ⟨(blk_cell BK296.out 0).trans rfl, (blk_cell BK296.out 1).trans rfl, (blk_cell BK296.out 2).trans rfl, (blk_cell BK296.out 3).trans rfl⟩ (fun hHeld => ?_)
                clear hK K
                refine norm_ (a' := ?_) ?_ ?_
                rotate_left
                ·show Act.put _ (some 34) _ = _
                 simp only [Act.put, List.setIfInBounds_toArray, List.set_cons_zero, List.set_cons_succ, i64_w, i32_w]
                 rfl
                refine one_ (i := 8) (N := some 40) #[true, true, true, true, true, true, true, true, true, false, true, true, true, true, true, true, false, false, true, true, true, false, false, true, true, true, true, false, true, true, false, false, false] rfl rfl (one_of HT_.out (by kernel_rfl)) (by decide) (fun K hK => ?_)
                refine goes_ Try.func73 (by kernel_rfl) rfl #[.int .i64 (wrap64 ((((rd_T27 l0 x15_1).f0).size : Int) - x9_7))] (by rfl) rfl rfl (by (try simp only [List.map_toArray, List.map_cons, List.map_nil]); first | done | rfl | (simp only [List.length_drop, List.length_take]; rfl)) ?_
                with_reducible refine (impl_varBytes.calls kj7 (wrap64 ((((rd_T27 l0 x15_1).f0).size : Int) - x9_7)) t302 _ A16.out).mono ?_
                rintro e w29 ⟨rfl, hb⟩
                refine ⟨_, rfl, ?_⟩
                have n0_ := Aside0.mk (Kd.R_below (by (with_reducible repeat (first | apply Kd.R_alloc | apply Kd.R_drewN | apply Kd.R_drew)); exact HO_5.out) hb)
                have n1_ := Aside0.mk (blk_below (g := gb296) (o := .cells #[.string ((rd_T27 l0 x15_1).f0), .int .i64 ((rd_T27 l0 x15_1).f1), .int .i64 ((rd_T27 l0 x15_1).f2), .string ((rd_T27 l0 x15_1).f3)] 27 (0, 0)) (by (with_reducible repeat (first | refine blk_drewN ?_ _ | refine blk_drew ?_ | refine blk_alloc ?_ _)); exact BK296.out) hb)
                have n2_ := Aside0.mk (below_step (by repeat (first | (with_reducible first | exact HB.out | apply below_alloc | apply pw_below_drewN | apply below_drew1 | refine below_set ?_ GE296.out) | exact HB.out)) hb)
                clear HO_5
                clear BK296
                clear HB
                have HO_5 := n0_
                have BK296 := n1_
                have HB := n2_
                clear n0_ n1_ n2_
                (try clear hb)
                (try clear hb2)
                (try clear hk)
                (try clear hi)
                refine hK.out _ _ ⟨(blk_cell BK296.out 0).trans rfl, (blk_cell BK296.out 1).trans rfl, (blk_cell BK296.out 2).trans rfl, (blk_cell BK296.out 3).trans rfl⟩ (fun hHeld => ?_)
                clear hK K
                refine norm_ (a' := ?_) ?_ ?_
                rotate_left
                ·show Act.put _ (some 40) _ = _
                 simp only [Act.put, List.setIfInBounds_toArray, List.set_cons_zero, List.set_cons_succ, i64_w, i32_w]
                 rfl
                refine pure_ (i := 9) (N := some 41) (v := ?_) (a' := ?_) #[true, true, true, true, true, true, true, true, true, true, true, true, true, true, true, true, false, false, true, true, true, false, false, true, true, true, true, false, true, true, false, false, false] rfl rfl (any_of HT_.out (by kernel_rfl)) (fun _ _ _ h => h) (Or.inl ⟨by rfl, ?_⟩) ?_ ?_
                rotate_left
                ·intro w'
                 go_simp
                 with_reducible rfl
                rotate_left
                ·simp only [Act.put, List.setIfInBounds_toArray, List.set_cons_zero, List.set_cons_succ, i64_w, i32_w]
                 rfl
                refine one_ (i := 16) (N := some 48) #[true, true, true, true, true, true, true, true, true, true, true, true, true, true, true, true, true, false, true, true, true, false, false, true, true, true, true, false, true, true, false, false, false] rfl rfl (one_of HT_.out (by kernel_rfl)) (by decide) (fun K hK => ?_)
                refine goes_ Try.func73 (by kernel_rfl) rfl #[.int .i64 (wrap64 ((wrap64 (2 * ((rd_T27 l0 x15_1).f1))) + ((rd_T27 l0 x15_1).f2)))] (by rfl) rfl rfl (by (try simp only [List.map_toArray, List.map_cons, List.map_nil]); first | done | rfl | (simp only [List.length_drop, List.length_take]; rfl)) ?_
                with_reducible refine (impl_varBytes.calls kj7 (wrap64 ((wrap64 (2 * ((rd_T27 l0 x15_1).f1))) + ((rd_T27 l0 x15_1).f2))) t303 _ A18.out).mono ?_
                rintro e w30 ⟨rfl, hb⟩
                refine ⟨_, rfl, ?_⟩
                have n0_ := Aside0.mk (Kd.R_below (by (with_reducible repeat (first | apply Kd.R_alloc | apply Kd.R_drewN | apply Kd.R_drew)); exact HO_5.out) hb)
                have n1_ := Aside0.mk (blk_below (g := gb296) (o := .cells #[.string ((rd_T27 l0 x15_1).f0), .int .i64 ((rd_T27 l0 x15_1).f1), .int .i64 ((rd_T27 l0 x15_1).f2), .string ((rd_T27 l0 x15_1).f3)] 27 (0, 0)) (by (with_reducible repeat (first | refine blk_drewN ?_ _ | refine blk_drew ?_ | refine blk_alloc ?_ _)); exact BK296.out) hb)
                have n2_ := Aside0.mk (below_step (by repeat (first | (with_reducible first | exact HB.out | apply below_alloc | apply pw_below_drewN | apply below_drew1 | refine below_set ?_ GE296.out) | exact HB.out)) hb)
                clear HO_5
                clear BK296
                clear HB
                have HO_5 := n0_
                have BK296 := n1_
                have HB := n2_
                clear n0_ n1_ n2_
                (try clear hb)
                (try clear hb2)
                (try clear hk)
                (try clear hi)
                refine hK.out _ _ ⟨(blk_cell BK296.out 0).trans rfl, (blk_cell BK296.out 1).trans rfl, (blk_cell BK296.out 2).trans rfl, (blk_cell BK296.out 3).trans rfl⟩ (fun hHeld => ?_)
                clear hK K
                refine norm_ (a' := ?_) ?_ ?_
                rotate_left
                ·show Act.put _ (some 48) _ = _
                 simp only [Act.put, List.setIfInBounds_toArray, List.set_cons_zero, List.set_cons_succ, i64_w, i32_w]
                 rfl
                refine pure_ (i := 17) (N := some 49) (v := ?_) (a' := ?_) #[true, true, true, true, true, true, true, true, true, true, true, true, true, true, true, true, true, true, true, true, true, false, false, true, true, true, true, false, true, true, false, false, false] rfl rfl (any_of HT_.out (by kernel_rfl)) (fun _ _ _ h => h) (Or.inl ⟨by rfl, ?_⟩) ?_ ?_
                rotate_left
                ·intro w'
                 go_simp
                 with_reducible rfl
                rotate_left
                ·simp only [Act.put, List.setIfInBounds_toArray, List.set_cons_zero, List.set_cons_succ, i64_w, i32_w]
                 rfl
                refine one_ (i := 21) (N := some 53) #[true, true, true, true, true, true, true, true, true, true, true, true, true, true, true, true, true, true, true, true, true, true, false, true, true, true, true, false, true, true, false, false, false] rfl rfl (one_of HT_.out (by kernel_rfl)) (by decide) (fun K hK => ?_)
                refine goes_ Try.func73 (by kernel_rfl) rfl #[.int .i64 (((rd_T27 l0 x15_1).f3).size : Int)] (by rfl) rfl rfl (by (try simp only [List.map_toArray, List.map_cons, List.map_nil]); first | done | rfl | (simp only [List.length_drop, List.length_take]; rfl)) ?_
                with_reducible refine (impl_varBytes.calls kj7 (((rd_T27 l0 x15_1).f3).size : Int) t304 _ A20.out).mono ?_
                rintro e w31 ⟨rfl, hb⟩
                refine ⟨_, rfl, ?_⟩
                have n0_ := Aside0.mk (Kd.R_below (by (with_reducible repeat (first | apply Kd.R_alloc | apply Kd.R_drewN | apply Kd.R_drew)); exact HO_5.out) hb)
                have n1_ := Aside0.mk (blk_below (g := gb296) (o := .cells #[.string ((rd_T27 l0 x15_1).f0), .int .i64 ((rd_T27 l0 x15_1).f1), .int .i64 ((rd_T27 l0 x15_1).f2), .string ((rd_T27 l0 x15_1).f3)] 27 (0, 0)) (by (with_reducible repeat (first | refine blk_drewN ?_ _ | refine blk_drew ?_ | refine blk_alloc ?_ _)); exact BK296.out) hb)
                have n2_ := Aside0.mk (below_step (by repeat (first | (with_reducible first | exact HB.out | apply below_alloc | apply pw_below_drewN | apply below_drew1 | refine below_set ?_ GE296.out) | exact HB.out)) hb)
                clear HO_5
                clear BK296
                clear HB
                have HO_5 := n0_
                have BK296 := n1_
                have HB := n2_
                clear n0_ n1_ n2_
                (try clear hb)
                (try clear hb2)
                (try clear hk)
                (try clear hi)
                refine hK.out _ _ ⟨(blk_cell BK296.out 0).trans rfl, (blk_cell BK296.out 1).trans rfl, (blk_cell BK296.out 2).trans rfl, (blk_cell BK296.out 3).trans rfl⟩ (fun hHeld => ?_)
                clear hK K
                refine norm_ (a' := ?_) ?_ ?_
                rotate_left
                ·show Act.put _ (some 53) _ = _
                 simp only [Act.put, List.setIfInBounds_toArray, List.set_cons_zero, List.set_cons_succ, i64_w, i32_w]
                 rfl
                refine pure_ (i := 22) (N := some 54) (v := ?_) (a' := ?_) #[true, true, true, true, true, true, true, true, true, true, true, true, true, true, true, true, true, true, true, true, true, true, true, true, true, true, true, false, true, true, false, false, false] rfl rfl (any_of HT_.out (by kernel_rfl)) (fun _ _ _ h => h) (Or.inl ⟨by rfl, ?_⟩) ?_ ?_
                rotate_left
                ·intro w'
                 go_simp
                 with_reducible rfl
                rotate_left
                ·simp only [Act.put, List.setIfInBounds_toArray, List.set_cons_zero, List.set_cons_succ, i64_w, i32_w]
                 rfl
                refine pure_ (i := 27) (N := some 59) (v := ?_) (a' := ?_) #[true, true, true, true, true, true, true, true, true, true, true, true, true, true, true, true, true, true, true, true, true, true, true, true, true, true, true, true, true, true, false, false, false] rfl rfl (any_of HT_.out (by kernel_rfl)) (fun _ _ _ h => h) (Or.inl ⟨by rfl, ?_⟩) ?_ ?_
                rotate_left
                ·intro w'
                 go_simp
                 with_reducible rfl
                rotate_left
                ·simp only [Act.put, List.setIfInBounds_toArray, List.set_cons_zero, List.set_cons_succ, i64_w, i32_w]
                 rfl
                refine pure_ (i := 30) (N := some 62) (v := ?_) (a' := ?_) #[true, true, true, true, true, true, true, true, true, true, true, true, true, true, true, true, true, true, true, true, true, true, true, true, true, true, true, true, true, true, true, false, false] rfl rfl (any_of HT_.out (by kernel_rfl)) (fun _ _ _ h => h) (Or.inl ⟨by rfl, ?_⟩) ?_ ?_
                rotate_left
                ·intro w'
                 go_simp
                 with_reducible rfl
                rotate_left
                ·simp only [Act.put, List.setIfInBounds_toArray, List.set_cons_zero, List.set_cons_succ, i64_w, i32_w]
                 rfl
                refine pure_ (i := 31) (N := some 63) (v := ?_) (a' := ?_) #[true, true, true, true, true, true, true, true, true, true, true, true, true, true, true, true, true, true, true, true, true, true, true, true, true, true, true, true, true, true, true, true, false] rfl rfl (any_of HT_.out (by kernel_rfl)) (fun _ _ _ h => h) (Or.inl ⟨by rfl, ?_⟩) ?_ ?_
                rotate_left
                ·intro w'
                 go_simp
                 with_reducible rfl
                rotate_left
                ·simp only [Act.put, List.setIfInBounds_toArray, List.set_cons_zero, List.set_cons_succ, i64_w, i32_w]
                 rfl
                refine pure_ (i := 32) (N := some 4) (v := ?_) (a' := ?_) #[true, true, true, true, true, true, true, true, true, true, true, true, true, true, true, true, true, true, true, true, true, true, true, true, true, true, true, true, true, true, true, true, true] rfl rfl (any_of HT_.out (by kernel_rfl)) (fun _ _ _ h => h) (Or.inl ⟨by rfl, ?_⟩) ?_ ?_
                rotate_left
                ·intro w'
                 go_simp
                 with_reducible rfl
                rotate_left
                ·simp only [Act.put, List.setIfInBounds_toArray, List.set_cons_zero, List.set_cons_succ, i64_w, i32_w]
                 rfl
                refine done_ (done_of HT_.out (by kernel_rfl)) ?_
                have hcz32_0 : w31.cell? ⟨gb296, 0, none⟩ = some (.string ((rd_T27 l0 x15_1).f0)) := (blk_cell BK296.out 0).trans rfl
                have hcz32_1 : w31.cell? ⟨gb296, 1, none⟩ = some (.int .i64 ((rd_T27 l0 x15_1).f1)) := (blk_cell BK296.out 1).trans rfl
                have hcz32_2 : w31.cell? ⟨gb296, 2, none⟩ = some (.int .i64 ((rd_T27 l0 x15_1).f2)) := (blk_cell BK296.out 2).trans rfl
                have hcz32_3 : w31.cell? ⟨gb296, 3, none⟩ = some (.string ((rd_T27 l0 x15_1).f3)) := (blk_cell BK296.out 3).trans rfl
                have hfz32_0 := blk_frozen BK296.out 0
                have hfz32_1 := blk_frozen BK296.out 1
                have hfz32_2 := blk_frozen BK296.out 2
                have hfz32_3 := blk_frozen BK296.out 3
                try go_wp2
                go_roundg kj7
                case measure => have := HK1.out; have := HJ7.out; omega
                case rel => exact ⟨(x4_1 ++ (((((t301 ++ t302) ++ t303) ++ t304) ++ (((rd_T27 l0 x15_1).f0).extract (x9_7 : Int).toNat ((rd_T27 l0 x15_1).f0).size)) ++ ((rd_T27 l0 x15_1).f3))), (x5_7), (((rd_T27 l0 x15_1).f0)), (wrap64 (x15_1 + 1)), (by first | rfl | (simp; done) | (simp [*]; done)), (by first | rfl | (simp; done) | (simp [*]; done)), (by first | rfl | (simp; done) | (simp [*]; done)), H', ⟨by have := HK1.out; have := HJ7.out; omega⟩, ⟨by (with_reducible repeat (first | apply Kd.R_alloc | apply Kd.R_drewN | apply Kd.R_drew)); exact HO_5.out⟩, ⟨by repeat (first | (with_reducible first | exact HB.out | apply below_alloc | apply pw_below_drewN | apply below_drew1 | refine below_set ?_ GE296.out) | exact HB.out)⟩⟩
               ·rw [if_neg c26] at H
                exact absurd H (by simp)
              ·rw [if_neg c25] at H
               exact absurd H (by simp)
             ·rw [if_neg c24] at H
              exact absurd H (by simp)
            ·rw [if_neg c23] at H
             exact absurd H (by simp)
           ·rw [if_neg c22] at H
            exact absurd H (by simp)
          ·rw [if_neg c21] at H
           exact absurd H (by simp)
         ·rw [if_neg c19] at H
          exact absurd H (by simp)
        ·rw [if_neg c17] at H
         exact absurd H (by simp)
     ·rw [if_neg c6] at H
      exact absurd H (by simp)
    ·rw [if_neg c5] at H
     exact absurd H (by simp)
   ·rw [if_neg c4] at H
    have c4b0 : decide (x15_1 < (l0.length : Int)) = false := decide_eq_false c4
    clear c4
    have H' := Aside0.mk H
    clear H
    obtain ⟨Ao33, co33, eo33⟩ := Kd.R_slice HO_5.out
    subst eo33
    go_wp2
    go_loopg [4, 69] k1 (fun kq v4 v69 w' => ∃ (x4_2 : ByteArray) (x69_2 : Int), v4 = .string x4_2 ∧ v69 = .int .i64 x69_2 ∧ Aside0 (impl_block.l1 kq x4_2 x5_1 x5_1 (x5_1.length : Int) x69_2 = some (r1, r2)) ∧ Aside0 (kq ≤ k1) ∧ Aside0 (Kd.R (Kd.int .i64) 3 w' w.heap.size (fun _ => True) (.slice Ao33 x5_1.length co33) x5_1) ∧ Aside0 (Kd.R (Kd.int .i64) 3 w' w.heap.size (fun _ => True) (.slice Ao33 x5_1.length co33) x5_1) ∧ Aside0 (Below w.heap.size w w'))
    case atStart => exact ⟨(x4_1), (0), (by first | rfl | (simp; done) | (simp [*]; done)), (by first | rfl | (simp; done) | (simp [*]; done)), H', ⟨Nat.le_refl _⟩, ⟨by (with_reducible repeat (first | apply Kd.R_alloc | apply Kd.R_drewN | apply Kd.R_drew)); exact HO_5.out⟩, ⟨by (with_reducible repeat (first | apply Kd.R_alloc | apply Kd.R_drewN | apply Kd.R_drew)); exact HO_5.out⟩, ⟨by repeat (first | (with_reducible first | exact HB.out | apply below_alloc | apply pw_below_drewN | apply below_drew1) | exact HB.out)⟩⟩
    case round =>
     clear H'
     try clear c1
     try clear c2
     try clear p2
     try clear q2
     try clear hx2
     try clear c4
     try clear c4b0
     try clear c5
     try clear c5b0
     try clear c6
     try clear c6b0
     try clear p6
     try clear c7
     try clear c12
     try clear c12b0
     try clear c12b1
     try clear c13
     try clear c17
     try clear c17b0
     try clear c17b1
     try clear c17b2
     try clear c19
     try clear c19b0
     try clear c19b1
     try clear c19b2
     try clear c21
     try clear c21b0
     try clear c21b1
     try clear c21b2
     try clear c22
     try clear c22b0
     try clear c22b1
     try clear c23
     try clear c23b0
     try clear c23b1
     try clear c24
     try clear c24b0
     try clear c24b1
     try clear c24b2
     try clear c25
     try clear c25b0
     try clear c25b1
     try clear c25b2
     try clear c26
     try clear c26b0
     try clear c26b1
     try clear c26b2
     try clear c28
     try clear p29
     try clear q29
     try clear hx29
     try clear hcz10_0
     try clear hcz10_1
     try clear hcz10_2
     try clear hcz10_3
     try clear hcz32_0
     try clear hcz32_1
     try clear hcz32_2
     try clear hcz32_3
     try clear hfz10_0
     try clear hfz10_1
     try clear hfz10_2
     try clear hfz10_3
     try clear hfz32_0
     try clear hfz32_1
     try clear hfz32_2
     try clear hfz32_3
     try clear hx295_0
     try clear hx295_1
     try clear hx295_2
     try clear hx295_3
     try clear p2
     try clear p295
     try clear q2
     try clear q295
     obtain ⟨x4_2, x69_2, rfl, rfl, HA, HK2, HO_5, HO_67, HB⟩ := hrel
     cases gk with
     | zero => exact absurd HA.out (by simp [impl_block.l1])
     | succ k2 =>
      have H := HA.out
      clear HA
      simp only [impl_block.l1] at H
      by_cases c34 : x69_2 < (x5_1.length : Int)
      ·rw [if_pos c34] at H
       have c34b0 : decide (x69_2 < (x5_1.length : Int)) = true := decide_eq_true c34
       clear c34
       by_cases c35 : 0 ≤ x69_2
       ·rw [if_pos c35] at H
        have c35b0 : decide (0 ≤ x69_2) = true := decide_eq_true c35
        clear c35
        by_cases c36 : x69_2 < (x5_1.length : Int)
        ·rw [if_pos c36] at H
         have c36b0 : decide (x69_2 < (x5_1.length : Int)) = true := decide_eq_true c36
         clear c36
         replace H := Option.bind_eq_some_iff.mp H
         obtain ⟨t306, A370, H⟩ := H
         replace H : (if x4_2.size + t306.size ≤ 9223372036854775807 then (impl_block.l1 k2 (x4_2 ++ t306) x5_1 x5_1 (x5_1.length : Int) (wrap64 (x69_2 + 1))) else (none)) = some (r1, r2) := H
         have A37 := Aside0.mk A370
         clear A370
         by_cases c38 : x4_2.size + t306.size ≤ 9223372036854775807
         ·rw [if_pos c38] at H
          have c38b0 := eq_true c38
          have c38b1 : decide (x4_2.size + t306.size ≤ 9223372036854775807) = true := decide_eq_true c38
          try have c38b2 : (9223372036854775807 < x4_2.size + t306.size) = False := eq_false (Nat.not_lt.2 c38)
          have H' := Aside0.mk H
          clear H
          have p305 : 0 ≤ (x69_2 : Int) := of_decide_eq_true (by first | (with_reducible assumption) | assumption)
          have q305 : x69_2 < (x5_1.length : Int) := of_decide_eq_true (by first | (with_reducible assumption) | assumption)
          obtain ⟨ad305, e305, hx305_0⟩ := Kd.at_int (Kd.R_reads' HO_67.out).2.2 x69_2 p305 q305
          cases e305
          replace p305 := eq_true p305
          replace q305 := eq_true q305
          go_wp2_with (first | ((with_reducible refine gate_callee (f := 74) rfl ?_); refine goesL_ (some 76) rfl rfl Try.func74 (by kernel_rfl) rfl #[.int .u32 ((rd x5_1 x69_2) % 4294967296), .int .i64 2] rfl (by (try simp only [List.map_toArray, List.map_cons, List.map_nil]); first | done | rfl | (simp only [List.length_drop, List.length_take]; rfl)) ?_; (with_reducible refine (impl_lowFirst.calls k2 ((rd x5_1 x69_2) % 4294967296) 2 t306 _ A37.out).mono ?_); rintro e w39 ⟨rfl, hb⟩; refine ⟨_, rfl, ?_⟩; have n0_ := Aside0.mk (Kd.R_below (by (with_reducible repeat (first | apply Kd.R_alloc | apply Kd.R_drewN | apply Kd.R_drew)); exact HO_5.out) hb); have n1_ := Aside0.mk (Kd.R_below (by (with_reducible repeat (first | apply Kd.R_alloc | apply Kd.R_drewN | apply Kd.R_drew)); exact HO_67.out) hb); have n2_ := Aside0.mk (below_step (by repeat (first | (with_reducible first | exact HB.out | apply below_alloc | apply pw_below_drewN | apply below_drew1) | exact HB.out)) hb); clear HO_5; clear HO_67; clear HB; have HO_5 := n0_; have HO_67 := n1_; have HB := n2_; clear n0_ n1_ n2_; (try clear hb); (try clear hb2); (try clear hk); (try clear hi)))
          go_roundg k2
          case measure => have := HK1.out; have := HK2.out; omega
          case rel => exact ⟨(x4_2 ++ t306), (wrap64 (x69_2 + 1)), (by first | rfl | (simp; done) | (simp [*]; done)), (by first | rfl | (simp; done) | (simp [*]; done)), H', ⟨by have := HK1.out; have := HK2.out; omega⟩, ⟨by (with_reducible repeat (first | apply Kd.R_alloc | apply Kd.R_drewN | apply Kd.R_drew)); exact HO_5.out⟩, ⟨by (with_reducible repeat (first | apply Kd.R_alloc | apply Kd.R_drewN | apply Kd.R_drew)); exact HO_67.out⟩, ⟨by repeat (first | (with_reducible first | exact HB.out | apply below_alloc | apply pw_below_drewN | apply below_drew1) | exact HB.out)⟩⟩
         ·rw [if_neg c38] at H
          exact absurd H (by simp)
        ·rw [if_neg c36] at H
         exact absurd H (by simp)
       ·rw [if_neg c35] at H
        exact absurd H (by simp)
      ·rw [if_neg c34] at H
       have c34b0 : decide (x69_2 < (x5_1.length : Int)) = false := decide_eq_false c34
       clear c34
       replace H := Option.bind_eq_some_iff.mp H
       obtain ⟨t307, A400, H⟩ := H
       replace H : (if x4_2.size + t307.size ≤ 9223372036854775807 then ((impl_SumOf.f k2 (x4_2 ++ t307)).bind fun t308 => ((impl_lowFirst.f k2 t308 4).bind fun t309 => (if x4_2.size + t307.size + t309.size ≤ 9223372036854775807 then (some ((x4_2 ++ t307) ++ t309, x5_1)) else (none)))) else (none)) = some (r1, r2) := H
       have A40 := Aside0.mk A400
       clear A400
       by_cases c41 : x4_2.size + t307.size ≤ 9223372036854775807
       ·rw [if_pos c41] at H
        have c41b0 := eq_true c41
        have c41b1 : decide (x4_2.size + t307.size ≤ 9223372036854775807) = true := decide_eq_true c41
        try have c41b2 : (9223372036854775807 < x4_2.size + t307.size) = False := eq_false (Nat.not_lt.2 c41)
        replace H := Option.bind_eq_some_iff.mp H
        obtain ⟨t308, A420, H⟩ := H
        replace H : ((impl_lowFirst.f k2 t308 4).bind fun t309 => (if x4_2.size + t307.size + t309.size ≤ 9223372036854775807 then (some ((x4_2 ++ t307) ++ t309, x5_1)) else (none))) = some (r1, r2) := H
        have A42 := Aside0.mk A420
        clear A420
        replace H := Option.bind_eq_some_iff.mp H
        obtain ⟨t309, A430, H⟩ := H
        replace H : (if x4_2.size + t307.size + t309.size ≤ 9223372036854775807 then (some ((x4_2 ++ t307) ++ t309, x5_1)) else (none)) = some (r1, r2) := H
        have A43 := Aside0.mk A430
        clear A430
        by_cases c44 : x4_2.size + t307.size + t309.size ≤ 9223372036854775807
        ·rw [if_pos c44] at H
         have c44b0 := eq_true c44
         have c44b1 : decide (x4_2.size + t307.size + t309.size ≤ 9223372036854775807) = true := decide_eq_true c44
         try have c44b2 : (9223372036854775807 < x4_2.size + t307.size + t309.size) = False := eq_false (Nat.not_lt.2 c44)
         simp only [Option.some.injEq, Prod.mk.injEq] at H
         obtain ⟨rfl, rfl⟩ := H
         go_wp2_with (first | ((with_reducible refine gate_callee (f := 74) rfl ?_); refine goesL_ (some 83) rfl rfl Try.func74 (by kernel_rfl) rfl #[.int .u32 (((x5_1.length : Int)) % 4294967296), .int .i64 2] rfl (by (try simp only [List.map_toArray, List.map_cons, List.map_nil]); first | done | rfl | (simp only [List.length_drop, List.length_take]; rfl)) ?_; (with_reducible refine (impl_lowFirst.calls k2 (((x5_1.length : Int)) % 4294967296) 2 t307 _ A40.out).mono ?_); rintro e w45 ⟨rfl, hb⟩; refine ⟨_, rfl, ?_⟩; have n0_ := Aside0.mk (Kd.R_below (by (with_reducible repeat (first | apply Kd.R_alloc | apply Kd.R_drewN | apply Kd.R_drew)); exact HO_5.out) hb); have n1_ := Aside0.mk (Kd.R_below (by (with_reducible repeat (first | apply Kd.R_alloc | apply Kd.R_drewN | apply Kd.R_drew)); exact HO_67.out) hb); have n2_ := Aside0.mk (below_step (by repeat (first | (with_reducible first | exact HB.out | apply below_alloc | apply pw_below_drewN | apply below_drew1) | exact HB.out)) hb); clear HO_5; clear HO_67; clear HB; have HO_5 := n0_; have HO_67 := n1_; have HB := n2_; clear n0_ n1_ n2_; (try clear hb); (try clear hb2); (try clear hk); (try clear hi)) | ((with_reducible refine gate_callee (f := 75) rfl ?_); refine goesL_ (some 87) rfl rfl Try.func75 (by kernel_rfl) rfl #[.string (x4_2 ++ t307)] rfl (by (try simp only [List.map_toArray, List.map_cons, List.map_nil]); first | done | rfl | (simp only [List.length_drop, List.length_take]; rfl)) ?_; (with_reducible refine (impl_SumOf.calls k2 (x4_2 ++ t307) t308 _ A42.out).mono ?_); rintro e w46 ⟨rfl, hb⟩; refine ⟨_, rfl, ?_⟩; have n0_ := Aside0.mk (Kd.R_below (by (with_reducible repeat (first | apply Kd.R_alloc | apply Kd.R_drewN | apply Kd.R_drew)); exact HO_5.out) hb); have n1_ := Aside0.mk (Kd.R_below (by (with_reducible repeat (first | apply Kd.R_alloc | apply Kd.R_drewN | apply Kd.R_drew)); exact HO_67.out) hb); have n2_ := Aside0.mk (below_step (by repeat (first | (with_reducible first | exact HB.out | apply below_alloc | apply pw_below_drewN | apply below_drew1) | exact HB.out)) hb); clear HO_5; clear HO_67; clear HB; have HO_5 := n0_; have HO_67 := n1_; have HB := n2_; clear n0_ n1_ n2_; (try clear hb); (try clear hb2); (try clear hk); (try clear hi)) | ((with_reducible refine gate_callee (f := 74) rfl ?_); refine goesL_ (some 88) rfl rfl Try.func74 (by kernel_rfl) rfl #[.int .u32 t308, .int .i64 4] rfl (by (try simp only [List.map_toArray, List.map_cons, List.map_nil]); first | done | rfl | (simp only [List.length_drop, List.length_take]; rfl)) ?_; (with_reducible refine (impl_lowFirst.calls k2 t308 4 t309 _ A43.out).mono ?_); rintro e w47 ⟨rfl, hb⟩; refine ⟨_, rfl, ?_⟩; have n0_ := Aside0.mk (Kd.R_below (by (with_reducible repeat (first | apply Kd.R_alloc | apply Kd.R_drewN | apply Kd.R_drew)); exact HO_5.out) hb); have n1_ := Aside0.mk (Kd.R_below (by (with_reducible repeat (first | apply Kd.R_alloc | apply Kd.R_drewN | apply Kd.R_drew)); exact HO_67.out) hb); have n2_ := Aside0.mk (below_step (by repeat (first | (with_reducible first | exact HB.out | apply below_alloc | apply pw_below_drewN | apply below_drew1) | exact HB.out)) hb); clear HO_5; clear HO_67; clear HB; have HO_5 := n0_; have HO_67 := n1_; have HB := n2_; clear n0_ n1_ n2_; (try clear hb); (try clear hb2); (try clear hk); (try clear hi)))
         go_ret2
         exact ⟨_, by first | rfl | (simp [errW_none, errW_some] <;> rfl) | (simp [*, errW_none, errW_some] <;> rfl), by (with_reducible repeat (first | apply Kd.R_alloc | apply Kd.R_drewN | apply Kd.R_drew)); exact HO_5.out, by repeat (first | (with_reducible first | exact HB.out | apply below_alloc | apply pw_below_drewN | apply below_drew1) | exact HB.out)⟩
        ·rw [if_neg c44] at H
         exact absurd H (by simp)
       ·rw [if_neg c41] at H
        exact absurd H (by simp)
end Go.Proofs.Ytjacppphgccphaa.MFnExactTableBytes
