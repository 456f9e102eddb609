-- Written by a program of this session out of the translation. Not trusted: Lean checks it.
import Derived.Test.YtjacppphgccphaaMFnExactTableBytesx0
import Derived.Test.YtjacppphgccphaaMFnExactTableBytesx4
import Derived.Test.YtjacppphgccphaaMFnExactTableBytesx5
import Derived.Test.YtjacppphgccphaaMFnExactTableBytesx6
import Derived.Test.YtjacppphgccphaaMFnExactTableBytesx7
namespace Go.Proofs.Ytjacppphgccphaa.MFnExactTableBytes
-- shrunk
open Go.RowKit Go.Proofs.YtjacppphgccphaaW.PrintWords Go.Proofs.YtjacppphgccphaaW.PrintLast Go.Proofs.YtjacppphgccphaaW.PrintMore Go.Proofs.YtjacppphgccphaaX
attribute [local go_sem] max2_int min2_int max_two min_two max_three min_three max_four min_four str_gtr str_leq str_geq cell_twice
set_option linter.unusedVariables false
set_option linter.unusedSimpArgs false
/-! ### spec_l7Table: function 54 -/
mutual
def spec_l7Table.l0 : Nat → List (S27) → ByteArray → ByteArray → Int → Option (ByteArray)
 | 0, _, _, _, _ => none
 | k + 1, x0, x3, x4, x5 => if x5 < (x0.length : Int) then (if (wrap64 (x5 + 8)) > (x0.length : Int) then (spec_l7Table.j1 k x0 x3 x4 x5 (x0.length : Int)) else (spec_l7Table.j1 k x0 x3 x4 x5 (wrap64 (x5 + 8)))) else ((spec_l7Keys.f k x0).bind fun t226 => ((spec_FilterOf.f k t226 4).bind fun bt229 => ((spec_l7Word.f (x3.size : Int)).bind fun t234 => ((spec_l2Frame.f k x4).bind fun t235 => (if x3.size + t235.size ≤ 9223372036854775807 then ((spec_l2Frame.f k bt229.2.1).bind fun t236 => (if x3.size + t235.size + t236.size ≤ 9223372036854775807 then (if (x3.size + t235.size) + t236.size + t234.size ≤ 9223372036854775807 then ((spec_l2Sum.f k t234).bind fun t237 => ((spec_l2Word.f t237).bind fun t238 => (if ((x3.size + t235.size) + t236.size) + t234.size + t238.size ≤ 9223372036854775807 then (some ((((x3 ++ t235) ++ t236) ++ t234) ++ t238)) else (none)))) else (none)) else (none))) else (none))))))
def spec_l7Table.j1 : Nat → List (S27) → ByteArray → ByteArray → Int → Int → Option (ByteArray)
 | 0, _, _, _, _, _ => none
 | k + 1, x0, x3, x4, x5, x6 => if 0 ≤ x5 then (if x5 ≤ x6 then (if x6 ≤ (x0.length : Int) then ((spec_l6Block.f k ((x0.take (x6 : Int).toNat).drop (x5 : Int).toNat)).bind fun t219 => (if 0 ≤ (wrap64 (x6 - 1)) then (if (wrap64 (x6 - 1)) < (x0.length : Int) then ((spec_l2Var.f k (((rd_T27 x0 (wrap64 (x6 - 1))).f0).size : Int)).bind fun t222 => (if t222.size + ((rd_T27 x0 (wrap64 (x6 - 1))).f0).size ≤ 9223372036854775807 then ((spec_l2Var.f k ((rd_T27 x0 (wrap64 (x6 - 1))).f1)).bind fun t223 => (if t222.size + ((rd_T27 x0 (wrap64 (x6 - 1))).f0).size + t223.size ≤ 9223372036854775807 then ((spec_l2Var.f k (x3.size : Int)).bind fun t224 => (if (t222.size + ((rd_T27 x0 (wrap64 (x6 - 1))).f0).size) + t223.size + t224.size ≤ 9223372036854775807 then ((spec_l2Var.f k (t219.size : Int)).bind fun t225 => (if ((t222.size + ((rd_T27 x0 (wrap64 (x6 - 1))).f0).size) + t223.size) + t224.size + t225.size ≤ 9223372036854775807 then (if x4.size + ((((t222.size + ((rd_T27 x0 (wrap64 (x6 - 1))).f0).size) + t223.size) + t224.size) + t225.size) ≤ 9223372036854775807 then (if x3.size + t219.size ≤ 9223372036854775807 then (spec_l7Table.l0 k x0 (x3 ++ t219) (x4 ++ ((((t222 ++ ((rd_T27 x0 (wrap64 (x6 - 1))).f0)) ++ t223) ++ t224) ++ t225)) (wrap64 (x5 + 8))) else (none)) else (none)) else (none))) else (none))) else (none))) else (none))) else (none)) else (none))) else (none)) else (none)) else (none)
end
def spec_l7Table.f (k : Nat) (l0 : List (S27)) : Option (ByteArray) := spec_l7Table.l0 k l0 (⟨#[]⟩ : ByteArray) (⟨#[]⟩ : ByteArray) 0
theorem spec_l7Table.mono_l : ∀ k, (∀ y0 y1 y2 y3, LeO (spec_l7Table.l0 k y0 y1 y2 y3) (spec_l7Table.l0 (k + 1) y0 y1 y2 y3)) ∧ (∀ y0 y1 y2 y3 y4, LeO (spec_l7Table.j1 k y0 y1 y2 y3 y4) (spec_l7Table.j1 (k + 1) y0 y1 y2 y3 y4))
 | 0 => ⟨fun _ _ _ _ r h => by simp [spec_l7Table.l0] at h, fun _ _ _ _ _ r h => by simp [spec_l7Table.j1] at h⟩
 | k + 1 => by
  obtain ⟨ih0, ih1⟩ := spec_l7Table.mono_l k
  refine ⟨?_, ?_⟩
  ·intro y0 y1 y2 y3
   unfold spec_l7Table.l0
   repeat' first
   | (with_reducible exact ih0 _ _ _ _)
   | (with_reducible exact ih1 _ _ _ _ _)
   | (with_reducible exact spec_FilterOf.mono _ _ _)
   | (with_reducible exact spec_l2Frame.mono _ _)
   | (with_reducible exact spec_l2Sum.mono _ _)
   | (with_reducible exact spec_l2Var.mono _ _)
   | (with_reducible exact spec_l6Block.mono _ _)
   | (with_reducible exact spec_l7Keys.mono _ _)
   | (with_reducible exact LeO.refl _)
   | (with_reducible exact LeO.none _)
   | (with_reducible refine LeO.ite ?_ ?_)
   | (with_reducible refine LeO.bind ?_ (fun _ => ?_))
   | exact ih0 _ _ _ _
   | exact ih1 _ _ _ _ _
   | exact spec_FilterOf.mono _ _ _
   | exact spec_l2Frame.mono _ _
   | exact spec_l2Sum.mono _ _
   | exact spec_l2Var.mono _ _
   | exact spec_l6Block.mono _ _
   | exact spec_l7Keys.mono _ _
   | exact LeO.none _
   | refine LeO.ite ?_ ?_
   | refine LeO.bind ?_ (fun _ => ?_)
  ·intro y0 y1 y2 y3 y4
   unfold spec_l7Table.j1
   repeat' first
   | (with_reducible exact ih0 _ _ _ _)
   | (with_reducible exact ih1 _ _ _ _ _)
   | (with_reducible exact spec_FilterOf.mono _ _ _)
   | (with_reducible exact spec_l2Frame.mono _ _)
   | (with_reducible exact spec_l2Sum.mono _ _)
   | (with_reducible exact spec_l2Var.mono _ _)
   | (with_reducible exact spec_l6Block.mono _ _)
   | (with_reducible exact spec_l7Keys.mono _ _)
   | (with_reducible exact LeO.refl _)
   | (with_reducible exact LeO.none _)
   | (with_reducible refine LeO.ite ?_ ?_)
   | (with_reducible refine LeO.bind ?_ (fun _ => ?_))
   | exact ih0 _ _ _ _
   | exact ih1 _ _ _ _ _
   | exact spec_FilterOf.mono _ _ _
   | exact spec_l2Frame.mono _ _
   | exact spec_l2Sum.mono _ _
   | exact spec_l2Var.mono _ _
   | exact spec_l6Block.mono _ _
   | exact spec_l7Keys.mono _ _
   | exact LeO.none _
   | refine LeO.ite ?_ ?_
   | refine LeO.bind ?_ (fun _ => ?_)
theorem spec_l7Table.mono : ∀ a0 k, LeO (spec_l7Table.f k a0) (spec_l7Table.f (k + 1) a0) := by
 intro a0 k
 obtain ⟨ih0, ih1⟩ := spec_l7Table.mono_l k
 unfold spec_l7Table.f
 repeat' first
   | (with_reducible exact ih0 _ _ _ _)
   | (with_reducible exact ih1 _ _ _ _ _)
   | (with_reducible exact spec_FilterOf.mono _ _ _)
   | (with_reducible exact spec_l2Frame.mono _ _)
   | (with_reducible exact spec_l2Sum.mono _ _)
   | (with_reducible exact spec_l2Var.mono _ _)
   | (with_reducible exact spec_l6Block.mono _ _)
   | (with_reducible exact spec_l7Keys.mono _ _)
   | (with_reducible exact LeO.refl _)
   | (with_reducible exact LeO.none _)
   | (with_reducible refine LeO.ite ?_ ?_)
   | (with_reducible refine LeO.bind ?_ (fun _ => ?_))
   | exact ih0 _ _ _ _
   | exact ih1 _ _ _ _ _
   | exact spec_FilterOf.mono _ _ _
   | exact spec_l2Frame.mono _ _
   | exact spec_l2Sum.mono _ _
   | exact spec_l2Var.mono _ _
   | exact spec_l6Block.mono _ _
   | exact spec_l7Keys.mono _ _
   | exact LeO.none _
   | refine LeO.ite ?_ ?_
   | refine LeO.bind ?_ (fun _ => ?_)
def spec_l7Table.T11 : Bool × List (List Nat × List Nat) := (true, [([], []), ([], []), ([1], [1]), ([2], [2]), ([3], [3]), ([], []), ([5], [5]), ([4, 6], [4, 6]), ([], []), ([8], [8]), ([9, 4], [9]), ([7, 10], [7, 10]), ([], []), ([12], [12]), ([13, 10], [13]), ([11, 14], [11, 14]), ([], []), ([16], [16]), ([17, 14], [17]), ([15, 18], [15, 18]), ([0, 19], [0, 19]), ([20, 18, 0, 1, 2, 3, 4, 5, 6, 7, 8, 9, 10, 11, 12, 13, 14, 15, 16, 17, 18, 19, 20], [0, 20])])
def spec_l7Table.B11 : List Nat := [0, 0, 2, 6, 14, 0, 32, 126, 0, 256, 798, 2046, 0, 4096, 14110, 32766, 0, 65536, 227102, 524286, 1048575, 2097151]
theorem spec_l7Table.tab11 : rtab .any (opsOf Try.f54 11) = spec_l7Table.T11 := by kernel_rfl
theorem spec_l7Table.bits11 : waitsOk spec_l7Table.T11.2 spec_l7Table.B11 = true := by kernel_rfl
def spec_l7Table.T15 : Bool × List (List Nat × List Nat) := (true, [([], []), ([], []), ([1], [1]), ([0, 2], [0, 2]), ([], []), ([4], [4]), ([5, 2], [5]), ([3, 6], [3, 6]), ([], []), ([7, 8], [7, 8]), ([], []), ([10, 6], [10]), ([11, 11], [11]), ([9, 12], [9, 12]), ([13, 12, 0, 1, 2, 3, 4, 5, 6, 7, 8, 9, 10, 11, 12, 13], [13])])
def spec_l7Table.B15 : List Nat := [0, 0, 2, 7, 0, 16, 54, 127, 0, 511, 0, 1142, 3190, 8191, 16383]
theorem spec_l7Table.tab15 : rtab .any (opsOf Try.f54 15) = spec_l7Table.T15 := by kernel_rfl
theorem spec_l7Table.bits15 : waitsOk spec_l7Table.T15.2 spec_l7Table.B15 = true := by kernel_rfl
set_option maxHeartbeats 8000000 in
set_option maxRecDepth 100000 in
theorem spec_l7Table.calls (k : Nat) (A0 : Option Addr) (c0 : Nat) (l0 : List (S27)) (r : ByteArray) (w : World) (hr0 : Kd.C k27 w A0 l0.length l0) (hc0 : l0.length ≤ c0) (h : spec_l7Table.f k l0 = some r) :
  Calls Try.prog 54 #[.slice A0 l0.length c0] w fun e w' => e = .returned (.string r) ∧ Below w.heap.size w w' := by
 have hu27 := Try.underlying27
 have hu80 := Try.underlying80
 have HR0 := Aside0.mk hr0
 have HC0 := Aside0.mk hc0
 clear hr0 hc0
 have HB := Aside0.mk (Below.refl w.heap.size w)
 have H : (spec_l7Table.l0 k l0 (⟨#[]⟩ : ByteArray) (⟨#[]⟩ : ByteArray) 0) = some r := h
 clear h
 have H' := Aside0.mk H
 clear H
 go_enter Try.func54, Try.ntmps54
 go_wp2
 go_loopg [3, 4, 5] k (fun kq v3 v4 v5 w' => ∃ (x3_1 : ByteArray) (x4_1 : ByteArray) (x5_1 : Int), v3 = .string x3_1 ∧ v4 = .string x4_1 ∧ v5 = .int .i64 x5_1 ∧ Aside0 (spec_l7Table.l0 kq l0 x3_1 x4_1 x5_1 = some r) ∧ Aside0 (kq ≤ k) ∧ Aside0 (Below w.heap.size w w'))
 case atStart => exact ⟨((⟨#[]⟩ : ByteArray)), ((⟨#[]⟩ : ByteArray)), (0), (by first | rfl | (simp; done) | (simp [*]; done)), (by first | rfl | (simp; done) | (simp [*]; done)), (by first | rfl | (simp; done) | (simp [*]; done)), H', ⟨Nat.le_refl _⟩, ⟨by repeat (first | (with_reducible first | exact HB.out | apply below_alloc | apply pw_below_drewN | apply below_drew1) | exact HB.out)⟩⟩
 case round =>
  clear H'
  obtain ⟨x3_1, x4_1, x5_1, rfl, rfl, rfl, HA, HK1, HB⟩ := hrel
  cases gk with
  | zero => exact absurd HA.out (by simp [spec_l7Table.l0])
  | succ k1 =>
   have H := HA.out
   clear HA
   simp only [spec_l7Table.l0] at H
   by_cases c2 : x5_1 < (l0.length : Int)
   ·rw [if_pos c2] at H
    have c2b0 : decide (x5_1 < (l0.length : Int)) = true := decide_eq_true c2
    clear c2
    have HC3 := Aside0.mk H
    clear H
    go_upto_if 23 with (fail)
    go_cut [6] (fun v6 wc => ∃ (kq : Nat) (x6_2 : Int), v6 = .int .i64 x6_2 ∧ Aside0 (spec_l7Table.j1 kq l0 x3_1 x4_1 x5_1 x6_2 = some r) ∧ Aside0 (kq ≤ k1) ∧ Aside0 (Below w.heap.size w wc))
    case first =>
     have H := HC3.out
     clear HC3
     by_cases c4 : (wrap64 (x5_1 + 8)) > (l0.length : Int)
     ·rw [if_pos c4] at H
      have c4b0 : decide ((l0.length : Int) < (wrap64 (x5_1 + 8))) = true := decide_eq_true c4
      clear c4
      (first | rw [c4b0] | (simp only [i64_w, i32_w]; rw [c4b0]) | rw [c4b1] | skip)
      have H' := Aside0.mk H
      clear H
      go_wp2
      go_meet
      case rel => exact ⟨_, ((l0.length : Int)), (by first | rfl | (simp; done) | (simp [*]; done)), H', ⟨by have := HK1.out; first | omega | exact Nat.le_refl _⟩, ⟨by repeat (first | (with_reducible first | exact HB.out | apply below_alloc | apply pw_below_drewN | apply below_drew1) | exact HB.out)⟩⟩
     ·rw [if_neg c4] at H
      have c4b0 : decide ((l0.length : Int) < (wrap64 (x5_1 + 8))) = false := decide_eq_false c4
      clear c4
      (first | rw [c4b0] | (simp only [i64_w, i32_w]; rw [c4b0]) | rw [c4b1] | skip)
      have H' := Aside0.mk H
      clear H
      go_wp2
      go_meet
      case rel => exact ⟨_, (wrap64 (x5_1 + 8)), (by first | rfl | (simp; done) | (simp [*]; done)), H', ⟨by have := HK1.out; first | omega | exact Nat.le_refl _⟩, ⟨by repeat (first | (with_reducible first | exact HB.out | apply below_alloc | apply pw_below_drewN | apply below_drew1) | exact HB.out)⟩⟩
    case rest =>
     clear HC3
     try clear c2
     try clear c2b0
     try clear p2
     try clear c4
     try clear c4b0
     try clear c4b1
     obtain ⟨kq, x6_2, rfl, HA, HJ2, HB⟩ := hcut
     cases kq with
     | zero => exact absurd HA.out (by simp [spec_l7Table.j1])
     | succ kj2 =>
      have H := HA.out
      clear HA
      simp only [spec_l7Table.j1] at H
      by_cases c5 : 0 ≤ x5_1
      ·rw [if_pos c5] at H
       have c5b0 := eq_true c5
       have c5b1 : decide (0 ≤ x5_1) = true := decide_eq_true c5
       clear c5
       by_cases c6 : x5_1 ≤ x6_2
       ·rw [if_pos c6] at H
        have c6b0 := eq_true c6
        have c6b1 : decide (x5_1 ≤ x6_2) = true := decide_eq_true c6
        clear c6
        by_cases c7 : x6_2 ≤ (l0.length : Int)
        ·rw [if_pos c7] at H
         have c7b0 := eq_true c7
         have c7b1 : decide (x6_2 ≤ (l0.length : Int)) = true := decide_eq_true c7
         clear c7
         obtain ⟨y215, hy215⟩ : ∃ y_ : List (S27), y_ = ((l0.take (x6_2 : Int).toNat).drop (x5_1 : Int).toNat) := ⟨_, rfl⟩
         replace H : ((spec_l6Block.f kj2 y215).bind fun t219 => (if 0 ≤ (wrap64 (x6_2 - 1)) then (if (wrap64 (x6_2 - 1)) < (l0.length : Int) then ((spec_l2Var.f kj2 (((rd_T27 l0 (wrap64 (x6_2 - 1))).f0).size : Int)).bind fun t222 => (if t222.size + ((rd_T27 l0 (wrap64 (x6_2 - 1))).f0).size ≤ 9223372036854775807 then ((spec_l2Var.f kj2 ((rd_T27 l0 (wrap64 (x6_2 - 1))).f1)).bind fun t223 => (if t222.size + ((rd_T27 l0 (wrap64 (x6_2 - 1))).f0).size + t223.size ≤ 9223372036854775807 then ((spec_l2Var.f kj2 (x3_1.size : Int)).bind fun t224 => (if (t222.size + ((rd_T27 l0 (wrap64 (x6_2 - 1))).f0).size) + t223.size + t224.size ≤ 9223372036854775807 then ((spec_l2Var.f kj2 (t219.size : Int)).bind fun t225 => (if ((t222.size + ((rd_T27 l0 (wrap64 (x6_2 - 1))).f0).size) + t223.size) + t224.size + t225.size ≤ 9223372036854775807 then (if x4_1.size + ((((t222.size + ((rd_T27 l0 (wrap64 (x6_2 - 1))).f0).size) + t223.size) + t224.size) + t225.size) ≤ 9223372036854775807 then (if x3_1.size + t219.size ≤ 9223372036854775807 then (spec_l7Table.l0 kj2 l0 (x3_1 ++ t219) (x4_1 ++ ((((t222 ++ ((rd_T27 l0 (wrap64 (x6_2 - 1))).f0)) ++ t223) ++ t224) ++ t225)) (wrap64 (x5_1 + 8))) else (none)) else (none)) else (none))) else (none))) else (none))) else (none))) else (none)) else (none))) = some r := by first | (rw [hy215]; with_reducible exact H) | (have H2_ := (Option.bind_some _ _).symm.trans H; rw [hy215]; with_reducible exact H2_) | (have H2_ := (Option.bind_some _ _).symm.trans H; with_reducible exact H2_) | with_reducible exact H | (rw [hy215]; exact H) | exact H
         have Ny215 := Aside0.mk hy215
         clear hy215
         replace H := Option.bind_eq_some_iff.mp H
         obtain ⟨t219, A80, H⟩ := H
         replace H : (if 0 ≤ (wrap64 (x6_2 - 1)) then (if (wrap64 (x6_2 - 1)) < (l0.length : Int) then ((spec_l2Var.f kj2 (((rd_T27 l0 (wrap64 (x6_2 - 1))).f0).size : Int)).bind fun t222 => (if t222.size + ((rd_T27 l0 (wrap64 (x6_2 - 1))).f0).size ≤ 9223372036854775807 then ((spec_l2Var.f kj2 ((rd_T27 l0 (wrap64 (x6_2 - 1))).f1)).bind fun t223 => (if t222.size + ((rd_T27 l0 (wrap64 (x6_2 - 1))).f0).size + t223.size ≤ 9223372036854775807 then ((spec_l2Var.f kj2 (x3_1.size : Int)).bind fun t224 => (if (t222.size + ((rd_T27 l0 (wrap64 (x6_2 - 1))).f0).size) + t223.size + t224.size ≤ 9223372036854775807 then ((spec_l2Var.f kj2 (t219.size : Int)).bind fun t225 => (if ((t222.size + ((rd_T27 l0 (wrap64 (x6_2 - 1))).f0).size) + t223.size) + t224.size + t225.size ≤ 9223372036854775807 then (if x4_1.size + ((((t222.size + ((rd_T27 l0 (wrap64 (x6_2 - 1))).f0).size) + t223.size) + t224.size) + t225.size) ≤ 9223372036854775807 then (if x3_1.size + t219.size ≤ 9223372036854775807 then (spec_l7Table.l0 kj2 l0 (x3_1 ++ t219) (x4_1 ++ ((((t222 ++ ((rd_T27 l0 (wrap64 (x6_2 - 1))).f0)) ++ t223) ++ t224) ++ t225)) (wrap64 (x5_1 + 8))) else (none)) else (none)) else (none))) else (none))) else (none))) else (none))) else (none)) else (none)) = some r := H
         have A8 := Aside0.mk A80
         clear A80
         obtain ⟨ji9, hji9⟩ : ∃ j_ : Int, (wrap64 (x6_2 - 1)) = j_ := ⟨_, rfl⟩
         replace H : (if 0 ≤ (ji9) then (if (ji9) < (l0.length : Int) then ((spec_l2Var.f kj2 (((rd_T27 l0 (ji9)).f0).size : Int)).bind fun t222 => (if t222.size + ((rd_T27 l0 (ji9)).f0).size ≤ 9223372036854775807 then ((spec_l2Var.f kj2 ((rd_T27 l0 (ji9)).f1)).bind fun t223 => (if t222.size + ((rd_T27 l0 (ji9)).f0).size + t223.size ≤ 9223372036854775807 then ((spec_l2Var.f kj2 (x3_1.size : Int)).bind fun t224 => (if (t222.size + ((rd_T27 l0 (ji9)).f0).size) + t223.size + t224.size ≤ 9223372036854775807 then ((spec_l2Var.f kj2 (t219.size : Int)).bind fun t225 => (if ((t222.size + ((rd_T27 l0 (ji9)).f0).size) + t223.size) + t224.size + t225.size ≤ 9223372036854775807 then (if x4_1.size + ((((t222.size + ((rd_T27 l0 (ji9)).f0).size) + t223.size) + t224.size) + t225.size) ≤ 9223372036854775807 then (if x3_1.size + t219.size ≤ 9223372036854775807 then (spec_l7Table.l0 kj2 l0 (x3_1 ++ t219) (x4_1 ++ ((((t222 ++ ((rd_T27 l0 (ji9)).f0)) ++ t223) ++ t224) ++ t225)) (wrap64 (x5_1 + 8))) else (none)) else (none)) else (none))) else (none))) else (none))) else (none))) else (none)) else (none)) = some r := by first | (rw [hji9] at H; exact H) | (simp only [hji9] at H ⊢; exact H)
         (try rw [hji9] at A8)
         have hji9w : (IntKind.i64.wrap (x6_2 - 1)) = ji9 := (i64_w _).trans hji9
         by_cases c10 : 0 ≤ (ji9)
         ·rw [if_pos c10] at H
          have c10b0 : decide (0 ≤ (ji9)) = true := decide_eq_true c10
          clear c10
          by_cases c11 : (ji9) < (l0.length : Int)
          ·rw [if_pos c11] at H
           have c11b0 : decide ((ji9) < (l0.length : Int)) = true := decide_eq_true c11
           clear c11
           replace H := Option.bind_eq_some_iff.mp H
           obtain ⟨t222, A120, H⟩ := H
           replace H : (if t222.size + ((rd_T27 l0 (ji9)).f0).size ≤ 9223372036854775807 then ((spec_l2Var.f kj2 ((rd_T27 l0 (ji9)).f1)).bind fun t223 => (if t222.size + ((rd_T27 l0 (ji9)).f0).size + t223.size ≤ 9223372036854775807 then ((spec_l2Var.f kj2 (x3_1.size : Int)).bind fun t224 => (if (t222.size + ((rd_T27 l0 (ji9)).f0).size) + t223.size + t224.size ≤ 9223372036854775807 then ((spec_l2Var.f kj2 (t219.size : Int)).bind fun t225 => (if ((t222.size + ((rd_T27 l0 (ji9)).f0).size) + t223.size) + t224.size + t225.size ≤ 9223372036854775807 then (if x4_1.size + ((((t222.size + ((rd_T27 l0 (ji9)).f0).size) + t223.size) + t224.size) + t225.size) ≤ 9223372036854775807 then (if x3_1.size + t219.size ≤ 9223372036854775807 then (spec_l7Table.l0 kj2 l0 (x3_1 ++ t219) (x4_1 ++ ((((t222 ++ ((rd_T27 l0 (ji9)).f0)) ++ t223) ++ t224) ++ t225)) (wrap64 (x5_1 + 8))) else (none)) else (none)) else (none))) else (none))) else (none))) else (none)) = some r := H
           have A12 := Aside0.mk A120
           clear A120
           by_cases c13 : t222.size + ((rd_T27 l0 (ji9)).f0).size ≤ 9223372036854775807
           ·rw [if_pos c13] at H
            have c13b0 := eq_true c13
            have c13b1 : decide (t222.size + ((rd_T27 l0 (ji9)).f0).size ≤ 9223372036854775807) = true := decide_eq_true c13
            try have c13b2 : (9223372036854775807 < t222.size + ((rd_T27 l0 (ji9)).f0).size) = False := eq_false (Nat.not_lt.2 c13)
            replace H := Option.bind_eq_some_iff.mp H
            obtain ⟨t223, A140, H⟩ := H
            replace H : (if t222.size + ((rd_T27 l0 (ji9)).f0).size + t223.size ≤ 9223372036854775807 then ((spec_l2Var.f kj2 (x3_1.size : Int)).bind fun t224 => (if (t222.size + ((rd_T27 l0 (ji9)).f0).size) + t223.size + t224.size ≤ 9223372036854775807 then ((spec_l2Var.f kj2 (t219.size : Int)).bind fun t225 => (if ((t222.size + ((rd_T27 l0 (ji9)).f0).size) + t223.size) + t224.size + t225.size ≤ 9223372036854775807 then (if x4_1.size + ((((t222.size + ((rd_T27 l0 (ji9)).f0).size) + t223.size) + t224.size) + t225.size) ≤ 9223372036854775807 then (if x3_1.size + t219.size ≤ 9223372036854775807 then (spec_l7Table.l0 kj2 l0 (x3_1 ++ t219) (x4_1 ++ ((((t222 ++ ((rd_T27 l0 (ji9)).f0)) ++ t223) ++ t224) ++ t225)) (wrap64 (x5_1 + 8))) else (none)) else (none)) else (none))) else (none))) else (none)) = some r := H
            have A14 := Aside0.mk A140
            clear A140
            by_cases c15 : t222.size + ((rd_T27 l0 (ji9)).f0).size + t223.size ≤ 9223372036854775807
            ·rw [if_pos c15] at H
             have c15b0 := eq_true c15
             have c15b1 : decide (t222.size + ((rd_T27 l0 (ji9)).f0).size + t223.size ≤ 9223372036854775807) = true := decide_eq_true c15
             try have c15b2 : (9223372036854775807 < t222.size + ((rd_T27 l0 (ji9)).f0).size + t223.size) = False := eq_false (Nat.not_lt.2 c15)
             replace H := Option.bind_eq_some_iff.mp H
             obtain ⟨t224, A160, H⟩ := H
             replace H : (if (t222.size + ((rd_T27 l0 (ji9)).f0).size) + t223.size + t224.size ≤ 9223372036854775807 then ((spec_l2Var.f kj2 (t219.size : Int)).bind fun t225 => (if ((t222.size + ((rd_T27 l0 (ji9)).f0).size) + t223.size) + t224.size + t225.size ≤ 9223372036854775807 then (if x4_1.size + ((((t222.size + ((rd_T27 l0 (ji9)).f0).size) + t223.size) + t224.size) + t225.size) ≤ 9223372036854775807 then (if x3_1.size + t219.size ≤ 9223372036854775807 then (spec_l7Table.l0 kj2 l0 (x3_1 ++ t219) (x4_1 ++ ((((t222 ++ ((rd_T27 l0 (ji9)).f0)) ++ t223) ++ t224) ++ t225)) (wrap64 (x5_1 + 8))) else (none)) else (none)) else (none))) else (none)) = some r := H
             have A16 := Aside0.mk A160
             clear A160
             by_cases c17 : (t222.size + ((rd_T27 l0 (ji9)).f0).size) + t223.size + t224.size ≤ 9223372036854775807
             ·rw [if_pos c17] at H
              have c17b0 := eq_true c17
              have c17b1 : decide ((t222.size + ((rd_T27 l0 (ji9)).f0).size) + t223.size + t224.size ≤ 9223372036854775807) = true := decide_eq_true c17
              try have c17b2 : (9223372036854775807 < (t222.size + ((rd_T27 l0 (ji9)).f0).size) + t223.size + t224.size) = False := eq_false (Nat.not_lt.2 c17)
              replace H := Option.bind_eq_some_iff.mp H
              obtain ⟨t225, A180, H⟩ := H
              replace H : (if ((t222.size + ((rd_T27 l0 (ji9)).f0).size) + t223.size) + t224.size + t225.size ≤ 9223372036854775807 then (if x4_1.size + ((((t222.size + ((rd_T27 l0 (ji9)).f0).size) + t223.size) + t224.size) + t225.size) ≤ 9223372036854775807 then (if x3_1.size + t219.size ≤ 9223372036854775807 then (spec_l7Table.l0 kj2 l0 (x3_1 ++ t219) (x4_1 ++ ((((t222 ++ ((rd_T27 l0 (ji9)).f0)) ++ t223) ++ t224) ++ t225)) (wrap64 (x5_1 + 8))) else (none)) else (none)) else (none)) = some r := H
              have A18 := Aside0.mk A180
              clear A180
              by_cases c19 : ((t222.size + ((rd_T27 l0 (ji9)).f0).size) + t223.size) + t224.size + t225.size ≤ 9223372036854775807
              ·rw [if_pos c19] at H
               have c19b0 := eq_true c19
               have c19b1 : decide (((t222.size + ((rd_T27 l0 (ji9)).f0).size) + t223.size) + t224.size + t225.size ≤ 9223372036854775807) = true := decide_eq_true c19
               try have c19b2 : (9223372036854775807 < ((t222.size + ((rd_T27 l0 (ji9)).f0).size) + t223.size) + t224.size + t225.size) = False := eq_false (Nat.not_lt.2 c19)
               by_cases c20 : x4_1.size + ((((t222.size + ((rd_T27 l0 (ji9)).f0).size) + t223.size) + t224.size) + t225.size) ≤ 9223372036854775807
               ·rw [if_pos c20] at H
                have c20b0 := eq_true c20
                have c20b1 : decide (x4_1.size + ((((t222.size + ((rd_T27 l0 (ji9)).f0).size) + t223.size) + t224.size) + t225.size) ≤ 9223372036854775807) = true := decide_eq_true c20
                try have c20b2 : (9223372036854775807 < x4_1.size + ((((t222.size + ((rd_T27 l0 (ji9)).f0).size) + t223.size) + t224.size) + t225.size)) = False := eq_false (Nat.not_lt.2 c20)
                by_cases c21 : x3_1.size + t219.size ≤ 9223372036854775807
                ·rw [if_pos c21] at H
                 have c21b0 := eq_true c21
                 have c21b1 : decide (x3_1.size + t219.size ≤ 9223372036854775807) = true := decide_eq_true c21
                 try have c21b2 : (9223372036854775807 < x3_1.size + t219.size) = False := eq_false (Nat.not_lt.2 c21)
                 have H' := Aside0.mk H
                 clear H
                 have q22 : (x6_2 : Int) ≤ ((l0.length : Int) : Int) := of_decide_eq_true (by first | (with_reducible assumption) | assumption)
                 obtain ⟨i022, hi022, _, hsz22, _⟩ := info_parts info27
                 have hroom22 : l0.length ≤ c0 := HC0.out
                 have hC22 : Kd.C k27 _ A0 l0.length l0 := HR0.out
                 have ql22 : (x5_1 : Int) ≤ (x6_2 : Int) := of_decide_eq_true (by first | (with_reducible assumption) | assumption)
                 have q022 : (0 : Int) ≤ (x5_1 : Int) := of_decide_eq_true (by first | (with_reducible assumption) | assumption)
                 have hcut22 := cut_mid (P := Try.prog) 33 27 .i64 .i64 Try.underlying33 hi022 4 hsz22 A0 l0.length c0 x5_1 x6_2 q022 ql22 q22 hroom22
                 have hr22 := Kd.C_mid (lo := (x5_1 : Int).toNat) (hi := (x6_2 : Int).toNat) (c := c0) hC22 (by omega) (by omega) hroom22
                 obtain ⟨A22, hA22⟩ : ∃ A1, A1 = (if c0 = (x5_1 : Int).toNat then A0 else (A0 : Option Addr).map (·.add ((x5_1 : Int).toNat * 4))) := ⟨_, rfl⟩
                 obtain ⟨c22, hc22⟩ : ∃ c1, c1 = c0 - (x5_1 : Int).toNat := ⟨_, rfl⟩
                 have hy22 : y215.length = (x6_2 : Int).toNat - (x5_1 : Int).toNat := (by rw [Ny215.out, List.length_drop, List.length_take] <;> omega)
                 rw [show ((l0).take (x6_2 : Int).toNat).drop (x5_1 : Int).toNat = y215 from Ny215.out.symm] at hr22
                 replace hr22 : Kd.C k27 _ A22 y215.length y215 := (by rw [hA22]; exact hr22)
                 rw [← hy22, ← hA22, ← hc22] at hcut22
                 have HR218 := Aside0.mk hr22
                 have HC218 := Aside0.mk (show y215.length ≤ c22 from by rw [hy22, hc22]; exact Nat.sub_le_sub_right (Nat.le_trans (by omega) hroom22) _)
                 clear hr22 hC22 hroom22 hi022 hsz22 hc22
                 have KY22 := Aside0.mk hy22
                 have KA22 := Aside0.mk hA22
                 clear hy22 hA22
                 replace q22 := eq_true q22
                 try go_wp2_with (first | ((with_reducible refine gate_callee (f := 51) rfl ?_); refine goesL_ (some 30) rfl rfl Try.func51 (by kernel_rfl) rfl #[.slice A22 y215.length c22] rfl (by (try simp only [List.map_toArray, List.map_cons, List.map_nil]); first | done | rfl | (simp only [List.length_drop, List.length_take]; rfl)) ?_; (with_reducible refine (spec_l6Block.calls kj2 _ _ y215 t219 _ ?side1 ?side2 A8.out).mono ?_); (case side1 => repeat (first | exact (Kd.C_below HR218.out HB.out) | (with_reducible refine Kd.C_alloc ?_ _) | (with_reducible refine Kd.C_drewN ?_ _) | (with_reducible refine Kd.C_drew ?_))); (case side2 => exact HC218.out); rintro e w23 ⟨rfl, hb⟩; refine ⟨_, rfl, ?_⟩; have n0_ := Aside0.mk (below_step (by repeat (first | (with_reducible first | exact HB.out | apply below_alloc | apply pw_below_drewN | apply below_drew1) | exact HB.out)) hb); clear HB; have HB := n0_; clear n0_; (try clear hb); (try clear hb2); (try clear hk); (try clear hi); have p220 : 0 ≤ ((ji9) : Int) := of_decide_eq_true (by first | (with_reducible assumption) | assumption); have q220 : (ji9) < (l0.length : Int) := of_decide_eq_true (by first | (with_reducible assumption) | assumption); obtain ⟨ad220, e220, hx220_0, hx220_1, hx220_2, hx220_3⟩ := at_T27 HR0.out (ji9) p220 q220; cases e220; replace hx220_0 := (HB.out.cell (World.block_lt_of_cell? w _ hx220_0)).trans hx220_0; replace hx220_1 := (HB.out.cell (World.block_lt_of_cell? w _ hx220_1)).trans hx220_1; replace hx220_2 := (HB.out.cell (World.block_lt_of_cell? w _ hx220_2)).trans hx220_2; replace hx220_3 := (HB.out.cell (World.block_lt_of_cell? w _ hx220_3)).trans hx220_3; replace p220 := eq_true p220; replace q220 := eq_true q220) | ((with_reducible refine gate_dst (N := 8) rfl ?_); refine box_event ?hg (N := 8) ?hd (cs := #[.string (⟨#[]⟩ : ByteArray), .int .i64 0, .int .i64 0, .string (⟨#[]⟩ : ByteArray)]) (t := 27) ?hr ?_; (case hd => rfl); (case hg => rfl); (case hr => first | (go_simp; done) | (go_simp; rfl)); intro gb221 hg w24 hbox hb; have n0_ := Aside0.mk (below_step (by repeat (first | (with_reducible first | exact HB.out | apply below_alloc | apply pw_below_drewN | apply below_drew1) | exact HB.out)) hb); have n1_ := Aside0.mk (hbox); have n2_ := Aside0.mk ((by rw [hg]; exact (below_size (by repeat (first | (with_reducible first | exact HB.out | apply below_alloc | apply pw_below_drewN | apply below_drew1) | exact HB.out))) : w.heap.size ≤ gb221)); have n3_ := Aside0.mk ((by rw [hg]; exact (below_size (by repeat (first | (with_reducible first | exact HB.out | apply below_alloc | apply pw_below_drewN | apply below_drew1) | exact HB.out))) : w.heap.size ≤ gb221)); clear HB; have HB := n0_; have BK221 := n1_; have GW221 := n2_; have GE221 := n3_; clear n0_ n1_ n2_ n3_; clear hb hbox hg; have hcz25_0 : w24.cell? ⟨gb221, 0, none⟩ = some (.string (⟨#[]⟩ : ByteArray)) := (blk_cell BK221.out 0).trans rfl; have hcz25_1 : w24.cell? ⟨gb221, 1, none⟩ = some (.int .i64 0) := (blk_cell BK221.out 1).trans rfl; have hcz25_2 : w24.cell? ⟨gb221, 2, none⟩ = some (.int .i64 0) := (blk_cell BK221.out 2).trans rfl; have hcz25_3 : w24.cell? ⟨gb221, 3, none⟩ = some (.string (⟨#[]⟩ : ByteArray)) := (blk_cell BK221.out 3).trans rfl; have hfz25_0 := blk_frozen BK221.out 0; have hfz25_1 := blk_frozen BK221.out 1; have hfz25_2 := blk_frozen BK221.out 2; have hfz25_3 := blk_frozen BK221.out 3))
                 have n0_ : Aside0 (((((w24.setCell ⟨gb221, 0, none⟩ (.string ((rd_T27 l0 (ji9)).f0))).setCell ⟨gb221, 1, none⟩ (.int .i64 ((rd_T27 l0 (ji9)).f1))).setCell ⟨gb221, 2, none⟩ (.int .i64 ((rd_T27 l0 (ji9)).f2))).setCell ⟨gb221, 3, none⟩ (.string ((rd_T27 l0 (ji9)).f3))).heap[gb221]? = some (.cells #[.string ((rd_T27 l0 (ji9)).f0), .int .i64 ((rd_T27 l0 (ji9)).f1), .int .i64 ((rd_T27 l0 (ji9)).f2), .string ((rd_T27 l0 (ji9)).f3)] 27 (0, 0))) := ⟨by (with_reducible repeat (first | refine blk_drewN ?_ _ | refine blk_drew ?_ | refine blk_alloc ?_ _)); refine blk_put (cs := #[.string ((rd_T27 l0 (ji9)).f0), .int .i64 ((rd_T27 l0 (ji9)).f1), .int .i64 ((rd_T27 l0 (ji9)).f2), .string (⟨#[]⟩ : ByteArray)]) ?_ 3 _ rfl; (with_reducible repeat (first | refine blk_drewN ?_ _ | refine blk_drew ?_ | refine blk_alloc ?_ _)); refine blk_put (cs := #[.string ((rd_T27 l0 (ji9)).f0), .int .i64 ((rd_T27 l0 (ji9)).f1), .int .i64 0, .string (⟨#[]⟩ : ByteArray)]) ?_ 2 _ rfl; (with_reducible repeat (first | refine blk_drewN ?_ _ | refine blk_drew ?_ | refine blk_alloc ?_ _)); refine blk_put (cs := #[.string ((rd_T27 l0 (ji9)).f0), .int .i64 0, .int .i64 0, .string (⟨#[]⟩ : ByteArray)]) ?_ 1 _ rfl; (with_reducible repeat (first | refine blk_drewN ?_ _ | refine blk_drew ?_ | refine blk_alloc ?_ _)); refine blk_put (cs := #[.string (⟨#[]⟩ : ByteArray), .int .i64 0, .int .i64 0, .string (⟨#[]⟩ : ByteArray)]) ?_ 0 _ rfl; (with_reducible repeat (first | refine blk_drewN ?_ _ | refine blk_drew ?_ | refine blk_alloc ?_ _)); exact BK221.out⟩
                 have n1_ : Aside0 (Below w.heap.size w ((((w24.setCell ⟨gb221, 0, none⟩ (.string ((rd_T27 l0 (ji9)).f0))).setCell ⟨gb221, 1, none⟩ (.int .i64 ((rd_T27 l0 (ji9)).f1))).setCell ⟨gb221, 2, none⟩ (.int .i64 ((rd_T27 l0 (ji9)).f2))).setCell ⟨gb221, 3, none⟩ (.string ((rd_T27 l0 (ji9)).f3)))) := ⟨by repeat (first | (with_reducible first | exact HB.out | apply below_alloc | apply pw_below_drewN | apply below_drew1 | refine below_set ?_ GE221.out) | exact HB.out)⟩
                 (try clear BK221)
                 (try clear HB)
                 generalize ((((w24.setCell ⟨gb221, 0, none⟩ (.string ((rd_T27 l0 (ji9)).f0))).setCell ⟨gb221, 1, none⟩ (.int .i64 ((rd_T27 l0 (ji9)).f1))).setCell ⟨gb221, 2, none⟩ (.int .i64 ((rd_T27 l0 (ji9)).f2))).setCell ⟨gb221, 3, none⟩ (.string ((rd_T27 l0 (ji9)).f3))) = w26 at n0_ n1_ ⊢
                 have BK221 := n0_
                 have HB := n1_
                 clear n0_ n1_
                 have n0_ := Aside0.mk (blk_drew BK221.out)
                 have n1_ := Aside0.mk (below_drew1 HB.out)
                 clear BK221
                 clear HB
                 have BK221 := n0_
                 have HB := n1_
                 clear n0_ n1_
                 refine start_ (n := 22) (S := fun w' => w'.cell? ⟨gb221, 0, none⟩ = some (.string ((rd_T27 l0 (ji9)).f0)) ∧ w'.cell? ⟨gb221, 1, none⟩ = some (.int .i64 ((rd_T27 l0 (ji9)).f1)) ∧ w'.cell? ⟨gb221, 2, none⟩ = some (.int .i64 ((rd_T27 l0 (ji9)).f2)) ∧ w'.cell? ⟨gb221, 3, none⟩ = some (.string ((rd_T27 l0 (ji9)).f3))) (ds := []) #[false, false, false, false, false, false, false, false, false, false, false, false, false, false, false, false, false, false, false, false, false, false] (by kernel_rfl) rfl rfl ⟨(blk_cell BK221.out 0).trans rfl, (blk_cell BK221.out 1).trans rfl, (blk_cell BK221.out 2).trans rfl, (blk_cell BK221.out 3).trans rfl⟩ (fun hHeld => ?_); refine with_tabW spec_l7Table.tab11 spec_l7Table.bits11 (fun HT_ HW_ => ?_)
                 generalize w26.drew = w27 at BK221 HB hHeld ⊢
                 refine pure_ (i := 0) (N := some 36) (v := ?_) (a' := ?_) #[true, false, false, false, false, false, false, false, false, false, false, false, false, false, false, false, false, false, false, false, false, false] rfl rfl (any_of HT_.out (by kernel_rfl)) (fun _ _ _ h => h) (Or.inl ⟨by rfl, ?_⟩) ?_ ?_
                 rotate_left
                 ·intro w'
                  go_simp
                  with_reducible rfl
                 rotate_left
                 ·simp only [Act.put, List.setIfInBounds_toArray, List.set_cons_zero, List.set_cons_succ, i64_w, i32_w]
                  rfl
                 refine pure_ (i := 1) (N := some 37) (v := ?_) (a' := ?_) #[true, true, false, false, false, false, false, false, false, false, false, false, false, false, false, false, false, false, false, false, false, false] rfl rfl (any_of HT_.out (by kernel_rfl)) (fun _ _ _ h => h) (Or.inl ⟨by rfl, ?_⟩) ?_ ?_
                 rotate_left
                 ·intro w'
                  go_simp
                  with_reducible rfl
                 rotate_left
                 ·simp only [Act.put, List.setIfInBounds_toArray, List.set_cons_zero, List.set_cons_succ, i64_w, i32_w]
                  rfl
                 refine pure_ (i := 5) (N := some 41) (v := ?_) (a' := ?_) #[true, true, false, false, false, true, false, false, false, false, false, false, false, false, false, false, false, false, false, false, false, false] rfl rfl (any_of HT_.out (by kernel_rfl)) (fun _ _ _ h => h) (Or.inl ⟨by rfl, ?_⟩) ?_ ?_
                 rotate_left
                 ·intro w'
                  go_simp
                  with_reducible rfl
                 rotate_left
                 ·simp only [Act.put, List.setIfInBounds_toArray, List.set_cons_zero, List.set_cons_succ, i64_w, i32_w]
                  rfl
                 refine pure_ (i := 8) (N := some 44) (v := ?_) (a' := ?_) #[true, true, false, false, false, true, false, false, true, false, false, false, false, false, false, false, false, false, false, false, false, false] rfl rfl (any_of HT_.out (by kernel_rfl)) (fun _ _ _ h => h) (Or.inl ⟨by rfl, ?_⟩) ?_ ?_
                 rotate_left
                 ·intro w'
                  go_simp
                  with_reducible rfl
                 rotate_left
                 ·simp only [Act.put, List.setIfInBounds_toArray, List.set_cons_zero, List.set_cons_succ, i64_w, i32_w]
                  rfl
                 refine pure_ (i := 12) (N := some 48) (v := ?_) (a' := ?_) #[true, true, false, false, false, true, false, false, true, false, false, false, true, false, false, false, false, false, false, false, false, false] rfl rfl (any_of HT_.out (by kernel_rfl)) (fun _ _ _ h => h) (Or.inl ⟨by rfl, ?_⟩) ?_ ?_
                 rotate_left
                 ·intro w'
                  go_simp
                  with_reducible rfl
                 rotate_left
                 ·simp only [Act.put, List.setIfInBounds_toArray, List.set_cons_zero, List.set_cons_succ, i64_w, i32_w]
                  rfl
                 refine pure_ (i := 13) (N := some 49) (v := ?_) (a' := ?_) #[true, true, false, false, false, true, false, false, true, false, false, false, true, true, false, false, false, false, false, false, false, false] rfl rfl (any_of HT_.out (by kernel_rfl)) (fun _ _ _ h => h) (Or.inl ⟨by rfl, ?_⟩) ?_ ?_
                 rotate_left
                 ·intro w'
                  go_simp
                  with_reducible rfl
                 rotate_left
                 ·simp only [Act.put, List.setIfInBounds_toArray, List.set_cons_zero, List.set_cons_succ, i64_w, i32_w]
                  rfl
                 refine pure_ (i := 16) (N := some 52) (v := ?_) (a' := ?_) #[true, true, false, false, false, true, false, false, true, false, false, false, true, true, false, false, true, false, false, false, false, false] rfl rfl (any_of HT_.out (by kernel_rfl)) (fun _ _ _ h => h) (Or.inl ⟨by rfl, ?_⟩) ?_ ?_
                 rotate_left
                 ·intro w'
                  go_simp
                  with_reducible rfl
                 rotate_left
                 ·simp only [Act.put, List.setIfInBounds_toArray, List.set_cons_zero, List.set_cons_succ, i64_w, i32_w]
                  rfl
                 refine pure_ (i := 17) (N := some 53) (v := ?_) (a' := ?_) #[true, true, false, false, false, true, false, false, true, false, false, false, true, true, false, false, true, true, false, false, false, false] rfl rfl (any_of HT_.out (by kernel_rfl)) (fun _ _ _ h => h) (Or.inl ⟨by rfl, ?_⟩) ?_ ?_
                 rotate_left
                 ·intro w'
                  go_simp
                  with_reducible rfl
                 rotate_left
                 ·simp only [Act.put, List.setIfInBounds_toArray, List.set_cons_zero, List.set_cons_succ, i64_w, i32_w]
                  rfl
                 refine take_ (i := 2) (N := some 38) (v := ?_) (a' := ?_) #[true, true, true, false, false, true, false, false, true, false, false, false, true, true, false, false, true, true, false, false, false, false] rfl rfl (take_ofW HT_.out HW_.out (by kernel_rfl)) (fun _ _ _ h => h) (Or.inl ⟨by rfl, ?_⟩) hHeld ?_ ?_
                 rotate_left
                 ·rintro w' ⟨s0, s1, s2, s3⟩
                  go_simp
                  with_reducible rfl
                 rotate_left
                 ·simp only [Act.put, List.setIfInBounds_toArray, List.set_cons_zero, List.set_cons_succ, i64_w, i32_w]
                  rfl
                 refine pure_ (i := 3) (N := some 39) (v := ?_) (a' := ?_) #[true, true, true, true, false, true, false, false, true, false, false, false, true, true, false, false, true, true, false, false, false, false] rfl rfl (any_of HT_.out (by kernel_rfl)) (fun _ _ _ h => h) (Or.inl ⟨by rfl, ?_⟩) ?_ ?_
                 rotate_left
                 ·intro w'
                  go_simp
                  with_reducible rfl
                 rotate_left
                 ·simp only [Act.put, List.setIfInBounds_toArray, List.set_cons_zero, List.set_cons_succ, i64_w, i32_w]
                  rfl
                 refine take_ (i := 6) (N := some 42) (v := ?_) (a' := ?_) #[true, true, true, true, false, true, true, false, true, false, false, false, true, true, false, false, true, true, false, false, false, false] rfl rfl (take_ofW HT_.out HW_.out (by kernel_rfl)) (fun _ _ _ h => h) (Or.inl ⟨by rfl, ?_⟩) hHeld ?_ ?_
                 rotate_left
                 ·rintro w' ⟨s0, s1, s2, s3⟩
                  go_simp
                  with_reducible rfl
                 rotate_left
                 ·simp only [Act.put, List.setIfInBounds_toArray, List.set_cons_zero, List.set_cons_succ, i64_w, i32_w]
                  rfl
                 refine take_ (i := 9) (N := some 45) (v := ?_) (a' := ?_) #[true, true, true, true, false, true, true, false, true, true, false, false, true, true, false, false, true, true, false, false, false, false] rfl rfl (take_ofW HT_.out HW_.out (by kernel_rfl)) (fun _ _ _ h => h) (Or.inl ⟨by rfl, ?_⟩) hHeld ?_ ?_
                 rotate_left
                 ·rintro w' ⟨s0, s1, s2, s3⟩
                  go_simp
                  with_reducible rfl
                 rotate_left
                 ·simp only [Act.put, List.setIfInBounds_toArray, List.set_cons_zero, List.set_cons_succ, i64_w, i32_w]
                  rfl
                 refine one_ (i := 4) (N := some 40) #[true, true, true, true, true, true, true, false, true, true, false, false, true, true, false, false, true, true, false, false, false, false] rfl rfl (one_of HT_.out (by kernel_rfl)) (by decide) (fun K hK => ?_)
                 refine goes_ Try.func70 (by kernel_rfl) rfl #[.int .i64 (((rd_T27 l0 (ji9)).f0).size : Int)] (by rfl) rfl rfl (by (try simp only [List.map_toArray, List.map_cons, List.map_nil]); first | done | (simp only [hji9]; rfl) | rfl | (simp only [List.length_drop, List.length_take]; rfl)) ?_
                 with_reducible refine (spec_l2Var.calls kj2 (((rd_T27 l0 (ji9)).f0).size : Int) t222 _ A12.out).mono ?_
                 rintro e w28 ⟨rfl, hb⟩
                 refine ⟨_, rfl, ?_⟩
                 have n0_ := Aside0.mk (blk_below (g := gb221) (o := .cells #[.string ((rd_T27 l0 (ji9)).f0), .int .i64 ((rd_T27 l0 (ji9)).f1), .int .i64 ((rd_T27 l0 (ji9)).f2), .string ((rd_T27 l0 (ji9)).f3)] 27 (0, 0)) (by (with_reducible repeat (first | refine blk_drewN ?_ _ | refine blk_drew ?_ | refine blk_alloc ?_ _)); exact BK221.out) hb)
                 have n1_ := Aside0.mk (below_step (by repeat (first | (with_reducible first | exact HB.out | apply below_alloc | apply pw_below_drewN | apply below_drew1 | refine below_set ?_ GE221.out) | exact HB.out)) hb)
                 clear BK221
                 clear HB
                 have BK221 := n0_
                 have HB := n1_
                 clear n0_ n1_
                 (try clear hb)
                 (try clear hb2)
                 (try clear hk)
                 (try clear hi)
                 refine hK.out _ _ ⟨(blk_cell BK221.out 0).trans rfl, (blk_cell BK221.out 1).trans rfl, (blk_cell BK221.out 2).trans rfl, (blk_cell BK221.out 3).trans rfl⟩ (fun hHeld => ?_)
                 clear hK K
                 refine norm_ (a' := ?_) ?_ ?_
                 rotate_left
                 ·show Act.put _ (some 40) _ = _
                  simp only [Act.put, List.setIfInBounds_toArray, List.set_cons_zero, List.set_cons_succ, i64_w, i32_w]
                  rfl
                 refine pure_ (i := 7) (N := some 43) (v := ?_) (a' := ?_) #[true, true, true, true, true, true, true, true, true, true, false, false, true, true, false, false, true, true, false, false, false, false] rfl rfl (any_of HT_.out (by kernel_rfl)) (fun _ _ _ h => h) (Or.inl ⟨by rfl, ?_⟩) ?_ ?_
                 rotate_left
                 ·intro w'
                  go_simp
                  with_reducible rfl
                 rotate_left
                 ·simp only [Act.put, List.setIfInBounds_toArray, List.set_cons_zero, List.set_cons_succ, i64_w, i32_w]
                  rfl
                 refine one_ (i := 10) (N := some 46) #[true, true, true, true, true, true, true, true, true, true, true, false, true, true, false, false, true, true, false, false, false, false] rfl rfl (one_of HT_.out (by kernel_rfl)) (by decide) (fun K hK => ?_)
                 refine goes_ Try.func70 (by kernel_rfl) rfl #[.int .i64 ((rd_T27 l0 (ji9)).f1)] (by rfl) rfl rfl (by (try simp only [List.map_toArray, List.map_cons, List.map_nil]); first | done | (simp only [hji9]; rfl) | rfl | (simp only [List.length_drop, List.length_take]; rfl)) ?_
                 with_reducible refine (spec_l2Var.calls kj2 ((rd_T27 l0 (ji9)).f1) t223 _ A14.out).mono ?_
                 rintro e w29 ⟨rfl, hb⟩
                 refine ⟨_, rfl, ?_⟩
                 have n0_ := Aside0.mk (blk_below (g := gb221) (o := .cells #[.string ((rd_T27 l0 (ji9)).f0), .int .i64 ((rd_T27 l0 (ji9)).f1), .int .i64 ((rd_T27 l0 (ji9)).f2), .string ((rd_T27 l0 (ji9)).f3)] 27 (0, 0)) (by (with_reducible repeat (first | refine blk_drewN ?_ _ | refine blk_drew ?_ | refine blk_alloc ?_ _)); exact BK221.out) hb)
                 have n1_ := Aside0.mk (below_step (by repeat (first | (with_reducible first | exact HB.out | apply below_alloc | apply pw_below_drewN | apply below_drew1 | refine below_set ?_ GE221.out) | exact HB.out)) hb)
                 clear BK221
                 clear HB
                 have BK221 := n0_
                 have HB := n1_
                 clear n0_ n1_
                 (try clear hb)
                 (try clear hb2)
                 (try clear hk)
                 (try clear hi)
                 refine hK.out _ _ ⟨(blk_cell BK221.out 0).trans rfl, (blk_cell BK221.out 1).trans rfl, (blk_cell BK221.out 2).trans rfl, (blk_cell BK221.out 3).trans rfl⟩ (fun hHeld => ?_)
                 clear hK K
                 refine norm_ (a' := ?_) ?_ ?_
                 rotate_left
                 ·show Act.put _ (some 46) _ = _
                  simp only [Act.put, List.setIfInBounds_toArray, List.set_cons_zero, List.set_cons_succ, i64_w, i32_w]
                  rfl
                 refine pure_ (i := 11) (N := some 47) (v := ?_) (a' := ?_) #[true, true, true, true, true, true, true, true, true, true, true, true, true, true, false, false, true, true, false, false, false, false] rfl rfl (any_of HT_.out (by kernel_rfl)) (fun _ _ _ h => h) (Or.inl ⟨by rfl, ?_⟩) ?_ ?_
                 rotate_left
                 ·intro w'
                  go_simp
                  with_reducible rfl
                 rotate_left
                 ·simp only [Act.put, List.setIfInBounds_toArray, List.set_cons_zero, List.set_cons_succ, i64_w, i32_w]
                  rfl
                 refine one_ (i := 14) (N := some 50) #[true, true, true, true, true, true, true, true, true, true, true, true, true, true, true, false, true, true, false, false, false, false] rfl rfl (one_of HT_.out (by kernel_rfl)) (by decide) (fun K hK => ?_)
                 refine goes_ Try.func70 (by kernel_rfl) rfl #[.int .i64 (x3_1.size : Int)] (by rfl) rfl rfl (by (try simp only [List.map_toArray, List.map_cons, List.map_nil]); first | done | rfl | (simp only [List.length_drop, List.length_take]; rfl)) ?_
                 with_reducible refine (spec_l2Var.calls kj2 (x3_1.size : Int) t224 _ A16.out).mono ?_
                 rintro e w30 ⟨rfl, hb⟩
                 refine ⟨_, rfl, ?_⟩
                 have n0_ := Aside0.mk (blk_below (g := gb221) (o := .cells #[.string ((rd_T27 l0 (ji9)).f0), .int .i64 ((rd_T27 l0 (ji9)).f1), .int .i64 ((rd_T27 l0 (ji9)).f2), .string ((rd_T27 l0 (ji9)).f3)] 27 (0, 0)) (by (with_reducible repeat (first | refine blk_drewN ?_ _ | refine blk_drew ?_ | refine blk_alloc ?_ _)); exact BK221.out) hb)
                 have n1_ := Aside0.mk (below_step (by repeat (first | (with_reducible first | exact HB.out | apply below_alloc | apply pw_below_drewN | apply below_drew1 | refine below_set ?_ GE221.out) | exact HB.out)) hb)
                 clear BK221
                 clear HB
                 have BK221 := n0_
                 have HB := n1_
                 clear n0_ n1_
                 (try clear hb)
                 (try clear hb2)
                 (try clear hk)
                 (try clear hi)
                 refine hK.out _ _ ⟨(blk_cell BK221.out 0).trans rfl, (blk_cell BK221.out 1).trans rfl, (blk_cell BK221.out 2).trans rfl, (blk_cell BK221.out 3).trans rfl⟩ (fun hHeld => ?_)
                 clear hK K
                 refine norm_ (a' := ?_) ?_ ?_
                 rotate_left
                 ·show Act.put _ (some 50) _ = _
                  simp only [Act.put, List.setIfInBounds_toArray, List.set_cons_zero, List.set_cons_succ, i64_w, i32_w]
                  rfl
                 refine pure_ (i := 15) (N := some 51) (v := ?_) (a' := ?_) #[true, true, true, true, true, true, true, true, true, true, true, true, true, true, true, true, true, true, false, false, false, false] rfl rfl (any_of HT_.out (by kernel_rfl)) (fun _ _ _ h => h) (Or.inl ⟨by rfl, ?_⟩) ?_ ?_
                 rotate_left
                 ·intro w'
                  go_simp
                  with_reducible rfl
                 rotate_left
                 ·simp only [Act.put, List.setIfInBounds_toArray, List.set_cons_zero, List.set_cons_succ, i64_w, i32_w]
                  rfl
                 refine one_ (i := 18) (N := some 54) #[true, true, true, true, true, true, true, true, true, true, true, true, true, true, true, true, true, true, true, false, false, false] rfl rfl (one_of HT_.out (by kernel_rfl)) (by decide) (fun K hK => ?_)
                 refine goes_ Try.func70 (by kernel_rfl) rfl #[.int .i64 (t219.size : Int)] (by rfl) rfl rfl (by (try simp only [List.map_toArray, List.map_cons, List.map_nil]); first | done | rfl | (simp only [List.length_drop, List.length_take]; rfl)) ?_
                 with_reducible refine (spec_l2Var.calls kj2 (t219.size : Int) t225 _ A18.out).mono ?_
                 rintro e w31 ⟨rfl, hb⟩
                 refine ⟨_, rfl, ?_⟩
                 have n0_ := Aside0.mk (blk_below (g := gb221) (o := .cells #[.string ((rd_T27 l0 (ji9)).f0), .int .i64 ((rd_T27 l0 (ji9)).f1), .int .i64 ((rd_T27 l0 (ji9)).f2), .string ((rd_T27 l0 (ji9)).f3)] 27 (0, 0)) (by (with_reducible repeat (first | refine blk_drewN ?_ _ | refine blk_drew ?_ | refine blk_alloc ?_ _)); exact BK221.out) hb)
                 have n1_ := Aside0.mk (below_step (by repeat (first | (with_reducible first | exact HB.out | apply below_alloc | apply pw_below_drewN | apply below_drew1 | refine below_set ?_ GE221.out) | exact HB.out)) hb)
                 clear BK221
                 clear HB
                 have BK221 := n0_
                 have HB := n1_
                 clear n0_ n1_
                 (try clear hb)
                 (try clear hb2)
                 (try clear hk)
                 (try clear hi)
                 refine hK.out _ _ ⟨(blk_cell BK221.out 0).trans rfl, (blk_cell BK221.out 1).trans rfl, (blk_cell BK221.out 2).trans rfl, (blk_cell BK221.out 3).trans rfl⟩ (fun hHeld => ?_)
                 clear hK K
                 refine norm_ (a' := ?_) ?_ ?_
                 rotate_left
                 ·show Act.put _ (some 54) _ = _
                  simp only [Act.put, List.setIfInBounds_toArray, List.set_cons_zero, List.set_cons_succ, i64_w, i32_w]
                  rfl
                 refine pure_ (i := 19) (N := some 55) (v := ?_) (a' := ?_) #[true, true, true, true, true, true, true, true, true, true, true, true, true, true, true, true, true, true, true, true, false, false] rfl rfl (any_of HT_.out (by kernel_rfl)) (fun _ _ _ h => h) (Or.inl ⟨by rfl, ?_⟩) ?_ ?_
                 rotate_left
                 ·intro w'
                  go_simp
                  with_reducible rfl
                 rotate_left
                 ·simp only [Act.put, List.setIfInBounds_toArray, List.set_cons_zero, List.set_cons_succ, i64_w, i32_w]
                  rfl
                 refine pure_ (i := 20) (N := some 56) (v := ?_) (a' := ?_) #[true, true, true, true, true, true, true, true, true, true, true, true, true, true, true, true, true, true, true, true, true, false] rfl rfl (any_of HT_.out (by kernel_rfl)) (fun _ _ _ h => h) (Or.inl ⟨by rfl, ?_⟩) ?_ ?_
                 rotate_left
                 ·intro w'
                  go_simp
                  with_reducible rfl
                 rotate_left
                 ·simp only [Act.put, List.setIfInBounds_toArray, List.set_cons_zero, List.set_cons_succ, i64_w, i32_w]
                  rfl
                 refine pure_ (i := 21) (N := some 4) (v := ?_) (a' := ?_) #[true, true, true, true, true, true, true, true, true, true, true, true, true, true, true, true, true, true, true, true, true, true] rfl rfl (any_of HT_.out (by kernel_rfl)) (fun _ _ _ h => h) (Or.inl ⟨by rfl, ?_⟩) ?_ ?_
                 rotate_left
                 ·intro w'
                  go_simp
                  with_reducible rfl
                 rotate_left
                 ·simp only [Act.put, List.setIfInBounds_toArray, List.set_cons_zero, List.set_cons_succ, i64_w, i32_w]
                  rfl
                 refine done_ (done_of HT_.out (by kernel_rfl)) ?_
                 try go_wp2
                 go_roundg kj2
                 case measure => have := HK1.out; have := HJ2.out; omega
                 case rel => exact ⟨(x3_1 ++ t219), (x4_1 ++ ((((t222 ++ ((rd_T27 l0 (ji9)).f0)) ++ t223) ++ t224) ++ t225)), (wrap64 (x5_1 + 8)), (by first | rfl | (simp; done) | (simp [*]; done)), (by first | rfl | (simp; done) | (simp only [← hji9] <;> (first | rfl | simp)) | (simp [*]; done)), (by first | rfl | (simp; done) | (simp [*]; done)), H', ⟨by have := HK1.out; have := HJ2.out; omega⟩, ⟨by repeat (first | (with_reducible first | exact HB.out | apply below_alloc | apply pw_below_drewN | apply below_drew1 | refine below_set ?_ GE221.out) | exact HB.out)⟩⟩
                ·rw [if_neg c21] at H
                 exact absurd H (by simp)
               ·rw [if_neg c20] at H
                exact absurd H (by simp)
              ·rw [if_neg c19] at H
               exact absurd H (by simp)
             ·rw [if_neg c17] at H
              exact absurd H (by simp)
            ·rw [if_neg c15] at H
             exact absurd H (by simp)
           ·rw [if_neg c13] at H
            exact absurd H (by simp)
          ·rw [if_neg c11] at H
           exact absurd H (by simp)
         ·rw [if_neg c10] at H
          exact absurd H (by simp)
        ·rw [if_neg c7] at H
         exact absurd H (by simp)
       ·rw [if_neg c6] at H
        exact absurd H (by simp)
      ·rw [if_neg c5] at H
       exact absurd H (by simp)
   ·rw [if_neg c2] at H
    have c2b0 : decide (x5_1 < (l0.length : Int)) = false := decide_eq_false c2
    clear c2
    replace H := Option.bind_eq_some_iff.mp H
    obtain ⟨t226, A320, H⟩ := H
    replace H : ((spec_FilterOf.f k1 t226 4).bind fun bt229 => ((spec_l7Word.f (x3_1.size : Int)).bind fun t234 => ((spec_l2Frame.f k1 x4_1).bind fun t235 => (if x3_1.size + t235.size ≤ 9223372036854775807 then ((spec_l2Frame.f k1 bt229.2.1).bind fun t236 => (if x3_1.size + t235.size + t236.size ≤ 9223372036854775807 then (if (x3_1.size + t235.size) + t236.size + t234.size ≤ 9223372036854775807 then ((spec_l2Sum.f k1 t234).bind fun t237 => ((spec_l2Word.f t237).bind fun t238 => (if ((x3_1.size + t235.size) + t236.size) + t234.size + t238.size ≤ 9223372036854775807 then (some ((((x3_1 ++ t235) ++ t236) ++ t234) ++ t238)) else (none)))) else (none)) else (none))) else (none))))) = some r := H
    have A32 := Aside0.mk A320
    clear A320
    replace H := Option.bind_eq_some_iff.mp H
    obtain ⟨⟨t229, t230, t231, t232⟩, A330, H⟩ := H
    replace H : ((spec_l7Word.f (x3_1.size : Int)).bind fun t234 => ((spec_l2Frame.f k1 x4_1).bind fun t235 => (if x3_1.size + t235.size ≤ 9223372036854775807 then ((spec_l2Frame.f k1 t230).bind fun t236 => (if x3_1.size + t235.size + t236.size ≤ 9223372036854775807 then (if (x3_1.size + t235.size) + t236.size + t234.size ≤ 9223372036854775807 then ((spec_l2Sum.f k1 t234).bind fun t237 => ((spec_l2Word.f t237).bind fun t238 => (if ((x3_1.size + t235.size) + t236.size) + t234.size + t238.size ≤ 9223372036854775807 then (some ((((x3_1 ++ t235) ++ t236) ++ t234) ++ t238)) else (none)))) else (none)) else (none))) else (none)))) = some r := H
    have A33 := Aside0.mk A330
    clear A330
    replace H := Option.bind_eq_some_iff.mp H
    obtain ⟨t234, A340, H⟩ := H
    replace H : ((spec_l2Frame.f k1 x4_1).bind fun t235 => (if x3_1.size + t235.size ≤ 9223372036854775807 then ((spec_l2Frame.f k1 t230).bind fun t236 => (if x3_1.size + t235.size + t236.size ≤ 9223372036854775807 then (if (x3_1.size + t235.size) + t236.size + t234.size ≤ 9223372036854775807 then ((spec_l2Sum.f k1 t234).bind fun t237 => ((spec_l2Word.f t237).bind fun t238 => (if ((x3_1.size + t235.size) + t236.size) + t234.size + t238.size ≤ 9223372036854775807 then (some ((((x3_1 ++ t235) ++ t236) ++ t234) ++ t238)) else (none)))) else (none)) else (none))) else (none))) = some r := H
    have A34 := Aside0.mk A340
    clear A340
    replace H := Option.bind_eq_some_iff.mp H
    obtain ⟨t235, A350, H⟩ := H
    replace H : (if x3_1.size + t235.size ≤ 9223372036854775807 then ((spec_l2Frame.f k1 t230).bind fun t236 => (if x3_1.size + t235.size + t236.size ≤ 9223372036854775807 then (if (x3_1.size + t235.size) + t236.size + t234.size ≤ 9223372036854775807 then ((spec_l2Sum.f k1 t234).bind fun t237 => ((spec_l2Word.f t237).bind fun t238 => (if ((x3_1.size + t235.size) + t236.size) + t234.size + t238.size ≤ 9223372036854775807 then (some ((((x3_1 ++ t235) ++ t236) ++ t234) ++ t238)) else (none)))) else (none)) else (none))) else (none)) = some r := H
    have A35 := Aside0.mk A350
    clear A350
    by_cases c36 : x3_1.size + t235.size ≤ 9223372036854775807
    ·rw [if_pos c36] at H
     have c36b0 := eq_true c36
     have c36b1 : decide (x3_1.size + t235.size ≤ 9223372036854775807) = true := decide_eq_true c36
     try have c36b2 : (9223372036854775807 < x3_1.size + t235.size) = False := eq_false (Nat.not_lt.2 c36)
     replace H := Option.bind_eq_some_iff.mp H
     obtain ⟨t236, A370, H⟩ := H
     replace H : (if x3_1.size + t235.size + t236.size ≤ 9223372036854775807 then (if (x3_1.size + t235.size) + t236.size + t234.size ≤ 9223372036854775807 then ((spec_l2Sum.f k1 t234).bind fun t237 => ((spec_l2Word.f t237).bind fun t238 => (if ((x3_1.size + t235.size) + t236.size) + t234.size + t238.size ≤ 9223372036854775807 then (some ((((x3_1 ++ t235) ++ t236) ++ t234) ++ t238)) else (none)))) else (none)) else (none)) = some r := H
     have A37 := Aside0.mk A370
     clear A370
     by_cases c38 : x3_1.size + t235.size + t236.size ≤ 9223372036854775807
     ·rw [if_pos c38] at H
      have c38b0 := eq_true c38
      have c38b1 : decide (x3_1.size + t235.size + t236.size ≤ 9223372036854775807) = true := decide_eq_true c38
      try have c38b2 : (9223372036854775807 < x3_1.size + t235.size + t236.size) = False := eq_false (Nat.not_lt.2 c38)
      by_cases c39 : (x3_1.size + t235.size) + t236.size + t234.size ≤ 9223372036854775807
      ·rw [if_pos c39] at H
       have c39b0 := eq_true c39
       have c39b1 : decide ((x3_1.size + t235.size) + t236.size + t234.size ≤ 9223372036854775807) = true := decide_eq_true c39
       try have c39b2 : (9223372036854775807 < (x3_1.size + t235.size) + t236.size + t234.size) = False := eq_false (Nat.not_lt.2 c39)
       replace H := Option.bind_eq_some_iff.mp H
       obtain ⟨t237, A400, H⟩ := H
       replace H : ((spec_l2Word.f t237).bind fun t238 => (if ((x3_1.size + t235.size) + t236.size) + t234.size + t238.size ≤ 9223372036854775807 then (some ((((x3_1 ++ t235) ++ t236) ++ t234) ++ t238)) else (none))) = some r := H
       have A40 := Aside0.mk A400
       clear A400
       replace H := Option.bind_eq_some_iff.mp H
       obtain ⟨t238, A410, H⟩ := H
       replace H : (if ((x3_1.size + t235.size) + t236.size) + t234.size + t238.size ≤ 9223372036854775807 then (some ((((x3_1 ++ t235) ++ t236) ++ t234) ++ t238)) else (none)) = some r := H
       have A41 := Aside0.mk A410
       clear A410
       by_cases c42 : ((x3_1.size + t235.size) + t236.size) + t234.size + t238.size ≤ 9223372036854775807
       ·rw [if_pos c42] at H
        have c42b0 := eq_true c42
        have c42b1 : decide (((x3_1.size + t235.size) + t236.size) + t234.size + t238.size ≤ 9223372036854775807) = true := decide_eq_true c42
        try have c42b2 : (9223372036854775807 < ((x3_1.size + t235.size) + t236.size) + t234.size + t238.size) = False := eq_false (Nat.not_lt.2 c42)
        obtain rfl := Option.some.inj H
        try go_wp2_with (first | ((with_reducible refine gate_callee (f := 77) rfl ?_); refine goesL_ (some 62) rfl rfl Try.func77 (by kernel_rfl) rfl #[.slice A0 l0.length c0] rfl (by (try simp only [List.map_toArray, List.map_cons, List.map_nil]); first | done | rfl | (simp only [List.length_drop, List.length_take]; rfl)) ?_; (with_reducible refine (spec_l7Keys.calls k1 _ _ l0 t226 _ ?side1 ?side2 A32.out).mono ?_); (case side1 => repeat (first | exact (Kd.C_below HR0.out HB.out) | (with_reducible refine Kd.C_alloc ?_ _) | (with_reducible refine Kd.C_drewN ?_ _) | (with_reducible refine Kd.C_drew ?_))); (case side2 => exact HC0.out); rintro e w43 ⟨v227, rfl, ho0, hb⟩; refine ⟨_, rfl, ?_⟩; have n0_ := Aside0.mk (Kd.R_lower ho0 (below_size (by repeat (first | (with_reducible first | exact HB.out | apply below_alloc | apply pw_below_drewN | apply below_drew1) | exact HB.out)))); have n1_ := Aside0.mk (below_step (by repeat (first | (with_reducible first | exact HB.out | apply below_alloc | apply pw_below_drewN | apply below_drew1) | exact HB.out)) hb); clear HB; have HO228 := n0_; have HB := n1_; clear n0_ n1_; (try clear hb); (try clear hb2); (try clear hk); (try clear hi); (try clear ho0); obtain ⟨Ao44, co44, eo44⟩ := Kd.R_slice HO228.out; subst eo44) | ((with_reducible refine gate_callee (f := 76) rfl ?_); refine goesL_ (some 63) rfl rfl Try.func76 (by kernel_rfl) rfl #[.slice Ao44 t226.length co44, .int .i64 4] rfl (by (try simp only [List.map_toArray, List.map_cons, List.map_nil]); first | done | rfl | (simp only [List.length_drop, List.length_take]; rfl)) ?_; (with_reducible refine (spec_FilterOf.calls k1 _ _ t226 4 t229 t230 t231 t232 _ ?side1 ?side2 A33.out).mono ?_); (case side1 => repeat (first | exact (Kd.R_reads' HO228.out).2.2 | (with_reducible refine Kd.C_alloc ?_ _) | (with_reducible refine Kd.C_drewN ?_ _) | (with_reducible refine Kd.C_drew ?_))); (case side2 => exact (Kd.R_reads' HO228.out).2.1); rintro e w45 ⟨rfl, hb⟩; refine ⟨_, rfl, ?_⟩; have n0_ := Aside0.mk (Kd.R_below (by (with_reducible repeat (first | apply Kd.R_alloc | apply Kd.R_drewN | apply Kd.R_drew)); exact HO228.out) hb); have n1_ := Aside0.mk (below_step (by repeat (first | (with_reducible first | exact HB.out | apply below_alloc | apply pw_below_drewN | apply below_drew1) | exact HB.out)) hb); clear HO228; clear HB; have HO228 := n0_; have HB := n1_; clear n0_ n1_; (try clear hb); (try clear hb2); (try clear hk); (try clear hi)) | ((with_reducible refine gate_dst (N := 9) rfl ?_); refine box_event ?hg (N := 9) ?hd (cs := #[.int .i64 0, .string (⟨#[]⟩ : ByteArray), .int .i64 0]) (t := 80) ?hr ?_; (case hd => rfl); (case hg => rfl); (case hr => first | (go_simp; done) | (go_simp; rfl)); intro gb233 hg w46 hbox hb; have n0_ := Aside0.mk (Kd.R_below (by (with_reducible repeat (first | apply Kd.R_alloc | apply Kd.R_drewN | apply Kd.R_drew)); exact HO228.out) hb); have n1_ := Aside0.mk (below_step (by repeat (first | (with_reducible first | exact HB.out | apply below_alloc | apply pw_below_drewN | apply below_drew1) | exact HB.out)) hb); have n2_ := Aside0.mk (hbox); have n3_ := Aside0.mk ((by rw [hg]; exact (below_size (by repeat (first | (with_reducible first | exact HB.out | apply below_alloc | apply pw_below_drewN | apply below_drew1) | exact HB.out))) : w.heap.size ≤ gb233)); have n4_ := Aside0.mk ((by rw [hg]; exact (below_size (by repeat (first | (with_reducible first | exact HB.out | apply below_alloc | apply pw_below_drewN | apply below_drew1) | exact HB.out))) : w.heap.size ≤ gb233)); clear HO228; clear HB; have HO228 := n0_; have HB := n1_; have BK233 := n2_; have GW233 := n3_; have GE233 := n4_; clear n0_ n1_ n2_ n3_ n4_; clear hb hbox hg; have hcz47_0 : w46.cell? ⟨gb233, 0, none⟩ = some (.int .i64 0) := (blk_cell BK233.out 0).trans rfl; have hcz47_1 : w46.cell? ⟨gb233, 1, none⟩ = some (.string (⟨#[]⟩ : ByteArray)) := (blk_cell BK233.out 1).trans rfl; have hcz47_2 : w46.cell? ⟨gb233, 2, none⟩ = some (.int .i64 0) := (blk_cell BK233.out 2).trans rfl; have hfz47_0 := blk_frozen BK233.out 0; have hfz47_1 := blk_frozen BK233.out 1; have hfz47_2 := blk_frozen BK233.out 2) | ((with_reducible refine gate_callee (f := 78) rfl ?_); refine goesL_ (some 68) rfl rfl Try.func78 (by kernel_rfl) rfl #[.int .i64 (x3_1.size : Int)] rfl (by (try simp only [List.map_toArray, List.map_cons, List.map_nil]); first | done | rfl | (simp only [List.length_drop, List.length_take]; rfl)) ?_; (with_reducible refine (spec_l7Word.calls (x3_1.size : Int) t234 _ A34.out).mono ?_); rintro e w48 ⟨rfl, hb⟩; refine ⟨_, rfl, ?_⟩; have n0_ := Aside0.mk (Kd.R_below (by (with_reducible repeat (first | apply Kd.R_alloc | apply Kd.R_drewN | apply Kd.R_drew)); exact (Kd.R_mono (Kd.R_far (p := ⟨gb233, 2, none⟩) (Kd.R_far (p := ⟨gb233, 1, none⟩) (Kd.R_far (p := ⟨gb233, 0, none⟩) (Kd.R_types HO228.out BK233.out (by decide)) (fun _ hk => hk.2) (.int .i64 t229)) (fun _ hk => hk.2) (.string t230)) (fun _ hk => hk.2) (.int .i64 t231)) (fun _ h_ => h_.1))) hb); have n1_ := Aside0.mk (blk_below (g := gb233) (o := .cells #[.int .i64 t229, .string t230, .int .i64 t231] 80 (0, 0)) (by (with_reducible repeat (first | refine blk_drewN ?_ _ | refine blk_drew ?_ | refine blk_alloc ?_ _)); refine blk_put (cs := #[.int .i64 t229, .string t230, .int .i64 0]) ?_ 2 _ rfl; (with_reducible repeat (first | refine blk_drewN ?_ _ | refine blk_drew ?_ | refine blk_alloc ?_ _)); refine blk_put (cs := #[.int .i64 t229, .string (⟨#[]⟩ : ByteArray), .int .i64 0]) ?_ 1 _ rfl; (with_reducible repeat (first | refine blk_drewN ?_ _ | refine blk_drew ?_ | refine blk_alloc ?_ _)); refine blk_put (cs := #[.int .i64 0, .string (⟨#[]⟩ : ByteArray), .int .i64 0]) ?_ 0 _ rfl; (with_reducible repeat (first | refine blk_drewN ?_ _ | refine blk_drew ?_ | refine blk_alloc ?_ _)); exact BK233.out) hb); have n2_ := Aside0.mk (below_step (by repeat (first | (with_reducible first | exact HB.out | apply below_alloc | apply pw_below_drewN | apply below_drew1 | refine below_set ?_ GE233.out) | exact HB.out)) hb); clear HO228; clear BK233; clear HB; have HO228 := n0_; have BK233 := n1_; have HB := n2_; clear n0_ n1_ n2_; (try clear hb); (try clear hb2); (try clear hk); (try clear hi)))
        have n0_ := Aside0.mk (Kd.R_drew HO228.out)
        have n1_ := Aside0.mk (blk_drew BK233.out)
        have n2_ := Aside0.mk (below_drew1 HB.out)
        clear HO228
        clear BK233
        clear HB
        have HO228 := n0_
        have BK233 := n1_
        have HB := n2_
        clear n0_ n1_ n2_
        refine start_ (n := 15) (S := fun w' => w'.cell? ⟨gb233, 0, none⟩ = some (.int .i64 t229) ∧ w'.cell? ⟨gb233, 1, none⟩ = some (.string t230) ∧ w'.cell? ⟨gb233, 2, none⟩ = some (.int .i64 t231)) (ds := []) #[false, false, false, false, false, false, false, false, false, false, false, false, false, false, false] (by kernel_rfl) rfl rfl ⟨(blk_cell BK233.out 0).trans rfl, (blk_cell BK233.out 1).trans rfl, (blk_cell BK233.out 2).trans rfl⟩ (fun hHeld => ?_); refine with_tabW spec_l7Table.tab15 spec_l7Table.bits15 (fun HT_ HW_ => ?_)
        generalize w48.drew = w49 at HO228 BK233 HB hHeld ⊢
        refine pure_ (i := 0) (N := some 69) (v := ?_) (a' := ?_) #[true, false, false, false, false, false, false, false, false, false, false, false, false, false, false] rfl rfl (any_of HT_.out (by kernel_rfl)) (fun _ _ _ h => h) (Or.inl ⟨by rfl, ?_⟩) ?_ ?_
        rotate_left
        ·intro w'
         go_simp
         with_reducible rfl
        rotate_left
        ·simp only [Act.put, List.setIfInBounds_toArray, List.set_cons_zero, List.set_cons_succ, i64_w, i32_w]
         rfl
        refine pure_ (i := 1) (N := some 70) (v := ?_) (a' := ?_) #[true, true, false, false, false, false, false, false, false, false, false, false, false, false, false] rfl rfl (any_of HT_.out (by kernel_rfl)) (fun _ _ _ h => h) (Or.inl ⟨by rfl, ?_⟩) ?_ ?_
        rotate_left
        ·intro w'
         go_simp
         with_reducible rfl
        rotate_left
        ·simp only [Act.put, List.setIfInBounds_toArray, List.set_cons_zero, List.set_cons_succ, i64_w, i32_w]
         rfl
        refine pure_ (i := 4) (N := some 73) (v := ?_) (a' := ?_) #[true, true, false, false, true, false, false, false, false, false, false, false, false, false, false] rfl rfl (any_of HT_.out (by kernel_rfl)) (fun _ _ _ h => h) (Or.inl ⟨by rfl, ?_⟩) ?_ ?_
        rotate_left
        ·intro w'
         go_simp
         with_reducible rfl
        rotate_left
        ·simp only [Act.put, List.setIfInBounds_toArray, List.set_cons_zero, List.set_cons_succ, i64_w, i32_w]
         rfl
        refine pure_ (i := 8) (N := some 77) (v := ?_) (a' := ?_) #[true, true, false, false, true, false, false, false, true, false, false, false, false, false, false] rfl rfl (any_of HT_.out (by kernel_rfl)) (fun _ _ _ h => h) (Or.inl ⟨by rfl, ?_⟩) ?_ ?_
        rotate_left
        ·intro w'
         go_simp
         with_reducible rfl
        rotate_left
        ·simp only [Act.put, List.setIfInBounds_toArray, List.set_cons_zero, List.set_cons_succ, i64_w, i32_w]
         rfl
        refine pure_ (i := 10) (N := some 79) (v := ?_) (a' := ?_) #[true, true, false, false, true, false, false, false, true, false, true, false, false, false, false] rfl rfl (any_of HT_.out (by kernel_rfl)) (fun _ _ _ h => h) (Or.inl ⟨by rfl, ?_⟩) ?_ ?_
        rotate_left
        ·intro w'
         go_simp
         with_reducible rfl
        rotate_left
        ·simp only [Act.put, List.setIfInBounds_toArray, List.set_cons_zero, List.set_cons_succ, i64_w, i32_w]
         rfl
        refine take_ (i := 5) (N := some 74) (v := ?_) (a' := ?_) #[true, true, false, false, true, true, false, false, true, false, true, false, false, false, false] rfl rfl (take_ofW HT_.out HW_.out (by kernel_rfl)) (fun _ _ _ h => h) (Or.inl ⟨by rfl, ?_⟩) hHeld ?_ ?_
        rotate_left
        ·rintro w' ⟨s0, s1, s2⟩
         go_simp
         with_reducible rfl
        rotate_left
        ·simp only [Act.put, List.setIfInBounds_toArray, List.set_cons_zero, List.set_cons_succ, i64_w, i32_w]
         rfl
        refine one_ (i := 2) (N := some 71) #[true, true, true, false, true, true, false, false, true, false, true, false, false, false, false] rfl rfl (one_of HT_.out (by kernel_rfl)) (by decide) (fun K hK => ?_)
        refine goes_ Try.func79 (by kernel_rfl) rfl #[.string x4_1] (by rfl) rfl rfl (by (try simp only [List.map_toArray, List.map_cons, List.map_nil]); first | done | rfl | (simp only [List.length_drop, List.length_take]; rfl)) ?_
        with_reducible refine (spec_l2Frame.calls k1 x4_1 t235 _ A35.out).mono ?_
        rintro e w50 ⟨rfl, hb⟩
        refine ⟨_, rfl, ?_⟩
        have n0_ := Aside0.mk (Kd.R_below (by (with_reducible repeat (first | apply Kd.R_alloc | apply Kd.R_drewN | apply Kd.R_drew)); exact HO228.out) hb)
        have n1_ := Aside0.mk (blk_below (g := gb233) (o := .cells #[.int .i64 t229, .string t230, .int .i64 t231] 80 (0, 0)) (by (with_reducible repeat (first | refine blk_drewN ?_ _ | refine blk_drew ?_ | refine blk_alloc ?_ _)); exact BK233.out) hb)
        have n2_ := Aside0.mk (below_step (by repeat (first | (with_reducible first | exact HB.out | apply below_alloc | apply pw_below_drewN | apply below_drew1 | refine below_set ?_ GE233.out) | exact HB.out)) hb)
        clear HO228
        clear BK233
        clear HB
        have HO228 := n0_
        have BK233 := n1_
        have HB := n2_
        clear n0_ n1_ n2_
        (try clear hb)
        (try clear hb2)
        (try clear hk)
        (try clear hi)
        refine hK.out _ _ ⟨(blk_cell BK233.out 0).trans rfl, (blk_cell BK233.out 1).trans rfl, (blk_cell BK233.out 2).trans rfl⟩ (fun hHeld => ?_)
        clear hK K
        refine norm_ (a' := ?_) ?_ ?_
        rotate_left
        ·show Act.put _ (some 71) _ = _
         simp only [Act.put, List.setIfInBounds_toArray, List.set_cons_zero, List.set_cons_succ, i64_w, i32_w]
         rfl
        refine pure_ (i := 3) (N := some 72) (v := ?_) (a' := ?_) #[true, true, true, true, true, true, false, false, true, false, true, false, false, false, false] rfl rfl (any_of HT_.out (by kernel_rfl)) (fun _ _ _ h => h) (Or.inl ⟨by rfl, ?_⟩) ?_ ?_
        rotate_left
        ·intro w'
         go_simp
         with_reducible rfl
        rotate_left
        ·simp only [Act.put, List.setIfInBounds_toArray, List.set_cons_zero, List.set_cons_succ, i64_w, i32_w]
         rfl
        refine one_ (i := 6) (N := some 75) #[true, true, true, true, true, true, true, false, true, false, true, false, false, false, false] rfl rfl (one_of HT_.out (by kernel_rfl)) (by decide) (fun K hK => ?_)
        refine goes_ Try.func79 (by kernel_rfl) rfl #[.string t230] (by rfl) rfl rfl (by (try simp only [List.map_toArray, List.map_cons, List.map_nil]); first | done | rfl | (simp only [List.length_drop, List.length_take]; rfl)) ?_
        with_reducible refine (spec_l2Frame.calls k1 t230 t236 _ A37.out).mono ?_
        rintro e w51 ⟨rfl, hb⟩
        refine ⟨_, rfl, ?_⟩
        have n0_ := Aside0.mk (Kd.R_below (by (with_reducible repeat (first | apply Kd.R_alloc | apply Kd.R_drewN | apply Kd.R_drew)); exact HO228.out) hb)
        have n1_ := Aside0.mk (blk_below (g := gb233) (o := .cells #[.int .i64 t229, .string t230, .int .i64 t231] 80 (0, 0)) (by (with_reducible repeat (first | refine blk_drewN ?_ _ | refine blk_drew ?_ | refine blk_alloc ?_ _)); exact BK233.out) hb)
        have n2_ := Aside0.mk (below_step (by repeat (first | (with_reducible first | exact HB.out | apply below_alloc | apply pw_below_drewN | apply below_drew1 | refine below_set ?_ GE233.out) | exact HB.out)) hb)
        clear HO228
        clear BK233
        clear HB
        have HO228 := n0_
        have BK233 := n1_
        have HB := n2_
        clear n0_ n1_ n2_
        (try clear hb)
        (try clear hb2)
        (try clear hk)
        (try clear hi)
        refine hK.out _ _ ⟨(blk_cell BK233.out 0).trans rfl, (blk_cell BK233.out 1).trans rfl, (blk_cell BK233.out 2).trans rfl⟩ (fun hHeld => ?_)
        clear hK K
        refine norm_ (a' := ?_) ?_ ?_
        rotate_left
        ·show Act.put _ (some 75) _ = _
         simp only [Act.put, List.setIfInBounds_toArray, List.set_cons_zero, List.set_cons_succ, i64_w, i32_w]
         rfl
        refine pure_ (i := 7) (N := some 76) (v := ?_) (a' := ?_) #[true, true, true, true, true, true, true, true, true, false, true, false, false, false, false] rfl rfl (any_of HT_.out (by kernel_rfl)) (fun _ _ _ h => h) (Or.inl ⟨by rfl, ?_⟩) ?_ ?_
        rotate_left
        ·intro w'
         go_simp
         with_reducible rfl
        rotate_left
        ·simp only [Act.put, List.setIfInBounds_toArray, List.set_cons_zero, List.set_cons_succ, i64_w, i32_w]
         rfl
        refine pure_ (i := 9) (N := some 78) (v := ?_) (a' := ?_) #[true, true, true, true, true, true, true, true, true, true, true, false, false, false, false] rfl rfl (any_of HT_.out (by kernel_rfl)) (fun _ _ _ h => h) (Or.inl ⟨by rfl, ?_⟩) ?_ ?_
        rotate_left
        ·intro w'
         go_simp
         with_reducible rfl
        rotate_left
        ·simp only [Act.put, List.setIfInBounds_toArray, List.set_cons_zero, List.set_cons_succ, i64_w, i32_w]
         rfl
        refine one_ (i := 11) (N := some 80) #[true, true, true, true, true, true, true, true, true, true, true, true, false, false, false] rfl rfl (one_of HT_.out (by kernel_rfl)) (by decide) (fun K hK => ?_)
        refine goes_ Try.func72 (by kernel_rfl) rfl #[.string t234] (by rfl) rfl rfl (by (try simp only [List.map_toArray, List.map_cons, List.map_nil]); first | done | rfl | (simp only [List.length_drop, List.length_take]; rfl)) ?_
        with_reducible refine (spec_l2Sum.calls k1 t234 t237 _ A40.out).mono ?_
        rintro e w52 ⟨rfl, hb⟩
        refine ⟨_, rfl, ?_⟩
        have n0_ := Aside0.mk (Kd.R_below (by (with_reducible repeat (first | apply Kd.R_alloc | apply Kd.R_drewN | apply Kd.R_drew)); exact HO228.out) hb)
        have n1_ := Aside0.mk (blk_below (g := gb233) (o := .cells #[.int .i64 t229, .string t230, .int .i64 t231] 80 (0, 0)) (by (with_reducible repeat (first | refine blk_drewN ?_ _ | refine blk_drew ?_ | refine blk_alloc ?_ _)); exact BK233.out) hb)
        have n2_ := Aside0.mk (below_step (by repeat (first | (with_reducible first | exact HB.out | apply below_alloc | apply pw_below_drewN | apply below_drew1 | refine below_set ?_ GE233.out) | exact HB.out)) hb)
        clear HO228
        clear BK233
        clear HB
        have HO228 := n0_
        have BK233 := n1_
        have HB := n2_
        clear n0_ n1_ n2_
        (try clear hb)
        (try clear hb2)
        (try clear hk)
        (try clear hi)
        refine hK.out _ _ ⟨(blk_cell BK233.out 0).trans rfl, (blk_cell BK233.out 1).trans rfl, (blk_cell BK233.out 2).trans rfl⟩ (fun hHeld => ?_)
        clear hK K
        refine norm_ (a' := ?_) ?_ ?_
        rotate_left
        ·show Act.put _ (some 80) _ = _
         simp only [Act.put, List.setIfInBounds_toArray, List.set_cons_zero, List.set_cons_succ, i64_w, i32_w]
         rfl
        refine one_ (i := 12) (N := some 81) #[true, true, true, true, true, true, true, true, true, true, true, true, true, false, false] rfl rfl (one_of HT_.out (by kernel_rfl)) (by decide) (fun K hK => ?_)
        refine goes_ Try.func71 (by kernel_rfl) rfl #[.int .u32 t237] (by rfl) rfl rfl (by (try simp only [List.map_toArray, List.map_cons, List.map_nil]); first | done | rfl | (simp only [List.length_drop, List.length_take]; rfl)) ?_
        with_reducible refine (spec_l2Word.calls t237 t238 _ A41.out).mono ?_
        rintro e w53 ⟨rfl, hb⟩
        refine ⟨_, rfl, ?_⟩
        have n0_ := Aside0.mk (Kd.R_below (by (with_reducible repeat (first | apply Kd.R_alloc | apply Kd.R_drewN | apply Kd.R_drew)); exact HO228.out) hb)
        have n1_ := Aside0.mk (blk_below (g := gb233) (o := .cells #[.int .i64 t229, .string t230, .int .i64 t231] 80 (0, 0)) (by (with_reducible repeat (first | refine blk_drewN ?_ _ | refine blk_drew ?_ | refine blk_alloc ?_ _)); exact BK233.out) hb)
        have n2_ := Aside0.mk (below_step (by repeat (first | (with_reducible first | exact HB.out | apply below_alloc | apply pw_below_drewN | apply below_drew1 | refine below_set ?_ GE233.out) | exact HB.out)) hb)
        clear HO228
        clear BK233
        clear HB
        have HO228 := n0_
        have BK233 := n1_
        have HB := n2_
        clear n0_ n1_ n2_
        (try clear hb)
        (try clear hb2)
        (try clear hk)
        (try clear hi)
        refine hK.out _ _ ⟨(blk_cell BK233.out 0).trans rfl, (blk_cell BK233.out 1).trans rfl, (blk_cell BK233.out 2).trans rfl⟩ (fun hHeld => ?_)
        clear hK K
        refine norm_ (a' := ?_) ?_ ?_
        rotate_left
        ·show Act.put _ (some 81) _ = _
         simp only [Act.put, List.setIfInBounds_toArray, List.set_cons_zero, List.set_cons_succ, i64_w, i32_w]
         rfl
        refine pure_ (i := 13) (N := some 82) (v := ?_) (a' := ?_) #[true, true, true, true, true, true, true, true, true, true, true, true, true, true, false] rfl rfl (any_of HT_.out (by kernel_rfl)) (fun _ _ _ h => h) (Or.inl ⟨by rfl, ?_⟩) ?_ ?_
        rotate_left
        ·intro w'
         go_simp
         with_reducible rfl
        rotate_left
        ·simp only [Act.put, List.setIfInBounds_toArray, List.set_cons_zero, List.set_cons_succ, i64_w, i32_w]
         rfl
        refine pure_ (i := 14) (N := some 2) (v := ?_) (a' := ?_) #[true, true, true, true, true, true, true, true, true, true, true, true, true, true, true] rfl rfl (any_of HT_.out (by kernel_rfl)) (fun _ _ _ h => h) (Or.inl ⟨by rfl, ?_⟩) ?_ ?_
        rotate_left
        ·intro w'
         go_simp
         with_reducible rfl
        rotate_left
        ·simp only [Act.put, List.setIfInBounds_toArray, List.set_cons_zero, List.set_cons_succ, i64_w, i32_w]
         rfl
        refine done_ (done_of HT_.out (by kernel_rfl)) ?_
        try go_wp2
        go_ret
        exact ⟨by first | rfl | (simp [errW_none, errW_some] <;> rfl) | (simp [*, errW_none, errW_some] <;> rfl), by repeat (first | (with_reducible first | exact HB.out | apply below_alloc | apply pw_below_drewN | apply below_drew1 | refine below_set ?_ GE233.out) | exact HB.out)⟩
       ·rw [if_neg c42] at H
        exact absurd H (by simp)
      ·rw [if_neg c39] at H
       exact absurd H (by simp)
     ·rw [if_neg c38] at H
      exact absurd H (by simp)
    ·rw [if_neg c36] at H
     exact absurd H (by simp)
end Go.Proofs.Ytjacppphgccphaa.MFnExactTableBytes
