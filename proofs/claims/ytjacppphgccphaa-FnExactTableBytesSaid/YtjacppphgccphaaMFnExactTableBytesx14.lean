-- Written by a program of this session out of the translation. Not trusted: Lean checks it.
import Derived.Test.YtjacppphgccphaaMFnExactTableBytesx0
import Derived.Test.YtjacppphgccphaaMFnExactTableBytesx11
import Derived.Test.YtjacppphgccphaaMFnExactTableBytesx13
namespace Go.Proofs.Ytjacppphgccphaa.MFnExactTableBytes
-- shrunk
open Go.RowKit Go.Proofs.YtjacppphgccphaaW.PrintWords Go.Proofs.YtjacppphgccphaaW.PrintLast Go.Proofs.YtjacppphgccphaaW.PrintMore Go.Proofs.YtjacppphgccphaaX
attribute [local go_sem] max2_int min2_int max_two min_two max_three min_three max_four min_four str_gtr str_leq str_geq cell_twice
set_option linter.unusedVariables false
set_option linter.unusedSimpArgs false
/-! ### impl_FilterOf: function 81 -/
mutual
def impl_FilterOf.j0 : Nat → List ByteArray → Bool → Int → ByteArray → Int → Option (Int × ByteArray × Int × Bool)
 | 0, _, _, _, _, _ => none
 | k + 1, x0, x21, x345000, x345001, x345002 => if x21 = true then (some (0, (⟨#[]⟩ : ByteArray), 0, false)) else (impl_FilterOf.l0 k x0 (x0.length : Int) 0 x345000 x345001 x345002)
def impl_FilterOf.l0 : Nat → List ByteArray → Int → Int → Int → ByteArray → Int → Option (Int × ByteArray × Int × Bool)
 | 0, _, _, _, _, _, _ => none
 | k + 1, x23, x24, x25, x345000, x345001, x345002 => if x25 < x24 then (if 0 ≤ x25 then (if x25 < (x23.length : Int) then ((impl_AddKey.f k x345000 x345001 x345002 (rdOf ByteArray.empty x23 x25)).bind fun bt346 => (if bt346.2.2.2 = true then (impl_FilterOf.l0 k x23 x24 (wrap64 (x25 + 1)) bt346.1 bt346.2.1 bt346.2.2.1) else (some (0, (⟨#[]⟩ : ByteArray), 0, false)))) else (none)) else (none)) else (some (x345000, x345001, x345002, true))
end
def impl_FilterOf.f (k : Nat) (l0 : List ByteArray) (a1 : Int) : Option (Int × ByteArray × Int × Bool) := (impl_NewFilter.f a1).bind fun bt340 => (if bt340.2.2.2 = true then (impl_FilterOf.j0 k l0 (decide ((l0.length : Int) > 200)) bt340.1 bt340.2.1 bt340.2.2.1) else (impl_FilterOf.j0 k l0 true bt340.1 bt340.2.1 bt340.2.2.1))
theorem impl_FilterOf.mono_l : ∀ k, (∀ y0 y1 y2 y3 y4, LeO (impl_FilterOf.j0 k y0 y1 y2 y3 y4) (impl_FilterOf.j0 (k + 1) y0 y1 y2 y3 y4)) ∧ (∀ y0 y1 y2 y3 y4 y5, LeO (impl_FilterOf.l0 k y0 y1 y2 y3 y4 y5) (impl_FilterOf.l0 (k + 1) y0 y1 y2 y3 y4 y5))
 | 0 => ⟨fun _ _ _ _ _ r h => by simp [impl_FilterOf.j0] at h, fun _ _ _ _ _ _ r h => by simp [impl_FilterOf.l0] at h⟩
 | k + 1 => by
  obtain ⟨ih0, ih1⟩ := impl_FilterOf.mono_l k
  refine ⟨?_, ?_⟩
  ·intro y0 y1 y2 y3 y4
   unfold impl_FilterOf.j0
   repeat' first
   | (with_reducible exact ih0 _ _ _ _ _)
   | (with_reducible exact ih1 _ _ _ _ _ _)
   | (with_reducible exact impl_AddKey.mono _ _ _ _ _)
   | (with_reducible exact LeO.refl _)
   | (with_reducible exact LeO.none _)
   | (with_reducible refine LeO.ite ?_ ?_)
   | (with_reducible refine LeO.bind ?_ (fun _ => ?_))
   | exact ih0 _ _ _ _ _
   | exact ih1 _ _ _ _ _ _
   | exact impl_AddKey.mono _ _ _ _ _
   | exact LeO.none _
   | refine LeO.ite ?_ ?_
   | refine LeO.bind ?_ (fun _ => ?_)
  ·intro y0 y1 y2 y3 y4 y5
   unfold impl_FilterOf.l0
   repeat' first
   | (with_reducible exact ih0 _ _ _ _ _)
   | (with_reducible exact ih1 _ _ _ _ _ _)
   | (with_reducible exact impl_AddKey.mono _ _ _ _ _)
   | (with_reducible exact LeO.refl _)
   | (with_reducible exact LeO.none _)
   | (with_reducible refine LeO.ite ?_ ?_)
   | (with_reducible refine LeO.bind ?_ (fun _ => ?_))
   | exact ih0 _ _ _ _ _
   | exact ih1 _ _ _ _ _ _
   | exact impl_AddKey.mono _ _ _ _ _
   | exact LeO.none _
   | refine LeO.ite ?_ ?_
   | refine LeO.bind ?_ (fun _ => ?_)
theorem impl_FilterOf.mono : ∀ a0 a1 k, LeO (impl_FilterOf.f k a0 a1) (impl_FilterOf.f (k + 1) a0 a1) := by
 intro a0 a1 k
 obtain ⟨ih0, ih1⟩ := impl_FilterOf.mono_l k
 unfold impl_FilterOf.f
 repeat' first
   | (with_reducible exact ih0 _ _ _ _ _)
   | (with_reducible exact ih1 _ _ _ _ _ _)
   | (with_reducible exact impl_AddKey.mono _ _ _ _ _)
   | (with_reducible exact LeO.refl _)
   | (with_reducible exact LeO.none _)
   | (with_reducible refine LeO.ite ?_ ?_)
   | (with_reducible refine LeO.bind ?_ (fun _ => ?_))
   | exact ih0 _ _ _ _ _
   | exact ih1 _ _ _ _ _ _
   | exact impl_AddKey.mono _ _ _ _ _
   | exact LeO.none _
   | refine LeO.ite ?_ ?_
   | refine LeO.bind ?_ (fun _ => ?_)
set_option maxHeartbeats 8000000 in
set_option maxRecDepth 100000 in
theorem impl_FilterOf.calls (k : Nat) (A0 : Option Addr) (c0 : Nat) (l0 : List ByteArray) (a1 : Int) (r1 : Int) (r2 : ByteArray) (r3 : Int) (r4 : Bool) (w : World) (hr0 : Kd.C Kd.string w A0 l0.length l0) (hc0 : l0.length ≤ c0) (h : impl_FilterOf.f k l0 a1 = some (r1, r2, r3, r4)) :
  Calls Try.prog 81 #[.slice A0 l0.length c0, .int .i64 a1] w fun e w' => e = .returned (.tuple #[.agg #[.int .i64 r1, .string r2, .int .i64 r3], .bool r4]) ∧ Below w.heap.size w w' := by
 have hu80 := Try.underlying80
 have HR0 := Aside0.mk hr0
 have HC0 := Aside0.mk hc0
 clear hr0 hc0
 have HB := Aside0.mk (Below.refl w.heap.size w)
 have H : ((impl_NewFilter.f a1).bind fun bt340 => (if bt340.2.2.2 = true then (impl_FilterOf.j0 k l0 (decide ((l0.length : Int) > 200)) bt340.1 bt340.2.1 bt340.2.2.1) else (impl_FilterOf.j0 k l0 true bt340.1 bt340.2.1 bt340.2.2.1))) = some (r1, r2, r3, r4) := h
 clear h
 replace H := Option.bind_eq_some_iff.mp H
 obtain ⟨⟨t340, t341, t342, t343⟩, A30, H⟩ := H
 replace H : (if t343 = true then (impl_FilterOf.j0 k l0 (decide ((l0.length : Int) > 200)) t340 t341 t342) else (impl_FilterOf.j0 k l0 true t340 t341 t342)) = some (r1, r2, r3, r4) := H
 have A3 := Aside0.mk A30
 clear A30
 have HC4 := Aside0.mk H
 clear H
 go_enter Try.func81, Try.ntmps81
 go_upto_region 2 with (first | ((with_reducible refine gate_dst (N := 4) rfl ?_); (try (refine gate_guard (by rfl) ?_; dsimp only)); refine box_event ?hg (N := 4) ?hd (cs := #[.int .i64 0, .string (⟨#[]⟩ : ByteArray), .int .i64 0]) (t := 80) ?hr ?_; (case hd => rfl); (case hg => rfl); (case hr => first | (go_simp; done) | (go_simp; rfl)); intro gb339 hg w5 hbox hb; have n0_ := Aside0.mk (below_step (by repeat (first | (with_reducible first | exact HB.out | apply below_alloc | apply pw_below_drewN | apply below_drew1) | exact HB.out)) hb); have n1_ := Aside0.mk (hbox); have n2_ := Aside0.mk ((by rw [hg]; exact (below_size (by repeat (first | (with_reducible first | exact HB.out | apply below_alloc | apply pw_below_drewN | apply below_drew1) | exact HB.out))) : w.heap.size ≤ gb339)); have n3_ := Aside0.mk ((by rw [hg]; exact (below_size (by repeat (first | (with_reducible first | exact HB.out | apply below_alloc | apply pw_below_drewN | apply below_drew1) | exact HB.out))) : w.heap.size ≤ gb339)); clear HB; have HB := n0_; have BK339 := n1_; have GW339 := n2_; have GE339 := n3_; clear n0_ n1_ n2_ n3_; clear hb hbox hg) | ((with_reducible refine gate_callee (f := 93) rfl ?_); refine goesL_ (some 12) rfl rfl Try.func93 (by kernel_rfl) rfl #[.int .i64 a1] rfl (by (try simp only [List.map_toArray, List.map_cons, List.map_nil]); first | done | rfl | (simp only [List.length_drop, List.length_take]; rfl)) ?_; (with_reducible refine (impl_NewFilter.calls a1 t340 t341 t342 t343 _ A3.out).mono ?_); rintro e w6 ⟨rfl, hb⟩; refine ⟨_, rfl, ?_⟩; have n0_ := Aside0.mk (blk_below (g := gb339) (o := .cells #[.int .i64 0, .string (⟨#[]⟩ : ByteArray), .int .i64 0] 80 (0, 0)) (by (with_reducible repeat (first | refine blk_drewN ?_ _ | refine blk_drew ?_ | refine blk_alloc ?_ _)); exact BK339.out) hb); have n1_ := Aside0.mk (below_step (by repeat (first | (with_reducible first | exact HB.out | apply below_alloc | apply pw_below_drewN | apply below_drew1 | refine below_set ?_ GE339.out) | exact HB.out)) hb); clear BK339; clear HB; have BK339 := n0_; have HB := n1_; clear n0_ n1_; (try clear hb); (try clear hb2); (try clear hk); (try clear hi)) | ((with_reducible refine gate_dst (N := 6) rfl ?_); (try (refine gate_guard (by rfl) ?_; dsimp only)); refine box_event ?hg (N := 6) ?hd (cs := #[.int .i64 0, .string (⟨#[]⟩ : ByteArray), .int .i64 0]) (t := 80) ?hr ?_; (case hd => rfl); (case hg => rfl); (case hr => first | (go_simp; done) | (go_simp; rfl)); intro gb344 hg w7 hbox hb; have n0_ := Aside0.mk (blk_below (g := gb339) (o := .cells #[.int .i64 0, .string (⟨#[]⟩ : ByteArray), .int .i64 0] 80 (0, 0)) (by (with_reducible repeat (first | refine blk_drewN ?_ _ | refine blk_drew ?_ | refine blk_alloc ?_ _)); exact BK339.out) hb); have n1_ := Aside0.mk (below_step (by repeat (first | (with_reducible first | exact HB.out | apply below_alloc | apply pw_below_drewN | apply below_drew1 | refine below_set ?_ GE339.out) | exact HB.out)) hb); have n2_ := Aside0.mk (hbox); have n3_ := Aside0.mk ((by rw [hg]; exact (below_size (by repeat (first | (with_reducible first | exact HB.out | apply below_alloc | apply pw_below_drewN | apply below_drew1 | refine below_set ?_ GE339.out) | exact HB.out))) : w.heap.size ≤ gb344)); have n4_ := Aside0.mk ((by rw [hg]; exact (below_size (by repeat (first | (with_reducible first | exact HB.out | apply below_alloc | apply pw_below_drewN | apply below_drew1 | refine below_set ?_ GE339.out) | exact HB.out))) : w.heap.size ≤ gb344)); have n5_ := Aside0.mk ((by rw [hg]; exact Nat.ne_of_lt (blk_lt (g := gb339) (o := .cells #[.int .i64 0, .string (⟨#[]⟩ : ByteArray), .int .i64 0] 80 (0, 0)) (by (with_reducible repeat (first | refine blk_drewN ?_ _ | refine blk_drew ?_ | refine blk_alloc ?_ _)); exact BK339.out)) : gb339 ≠ gb344)); have n6_ := Aside0.mk ((by rw [hg]; exact Nat.ne_of_gt (blk_lt (g := gb339) (o := .cells #[.int .i64 0, .string (⟨#[]⟩ : ByteArray), .int .i64 0] 80 (0, 0)) (by (with_reducible repeat (first | refine blk_drewN ?_ _ | refine blk_drew ?_ | refine blk_alloc ?_ _)); exact BK339.out)) : gb344 ≠ gb339)); clear BK339; clear HB; have BK339 := n0_; have HB := n1_; have BK344 := n2_; have GW344 := n3_; have GE344 := n4_; have NB339_344 := n5_; have NB344_339 := n6_; clear n0_ n1_ n2_ n3_ n4_ n5_ n6_; clear hb hbox hg; have hnb8 := NB344_339.out; have hnc8 := NB339_344.out; have hcz9_0 : w7.cell? ⟨gb344, 0, none⟩ = some (.int .i64 0) := (blk_cell BK344.out 0).trans rfl; have hcz9_1 : w7.cell? ⟨gb344, 1, none⟩ = some (.string (⟨#[]⟩ : ByteArray)) := (blk_cell BK344.out 1).trans rfl; have hcz9_2 : w7.cell? ⟨gb344, 2, none⟩ = some (.int .i64 0) := (blk_cell BK344.out 2).trans rfl; have hfz9_0 := blk_frozen BK344.out 0; have hfz9_1 := blk_frozen BK344.out 1; have hfz9_2 := blk_frozen BK344.out 2))
 (try simp only [Act.put, List.setIfInBounds_toArray, List.set_cons_zero, List.set_cons_succ])
 go_cut [21] (fun v21 wc => ∃ (kq : Nat) (x21_3 : Bool), v21 = .bool x21_3 ∧ Aside0 (impl_FilterOf.j0 kq l0 x21_3 t340 t341 t342 = some (r1, r2, r3, r4)) ∧ Aside0 (kq ≤ k) ∧ Aside0 (wc.heap[gb339]? = some (.cells #[.int .i64 0, .string (⟨#[]⟩ : ByteArray), .int .i64 0] 80 (0, 0))) ∧ Aside0 (wc.heap[gb344]? = some (.cells #[.int .i64 t340, .string t341, .int .i64 t342] 80 (0, 0))) ∧ Aside0 (Below w.heap.size w wc))
 case first =>
  have H := HC4.out
  clear HC4
  by_cases c10 : t343 = true
  ·subst c10
   have H1 : (impl_FilterOf.j0 k l0 (decide ((l0.length : Int) > 200)) t340 t341 t342) = some (r1, r2, r3, r4) := by rw [if_pos rfl] at H; exact H
   clear H
   have H := H1
   clear H1
   have H' := Aside0.mk H
   clear H
   go_wp2
   go_meet
   case rel => exact ⟨_, (decide ((l0.length : Int) > 200)), (by first | rfl | (simp; done) | (simp [*]; done)), H', ⟨by first | omega | exact Nat.le_refl _⟩, ⟨by (with_reducible repeat (first | refine blk_drewN ?_ _ | refine blk_drew ?_ | refine blk_alloc ?_ _)); refine blk_far ?_ NB339_344.out _; (with_reducible repeat (first | refine blk_drewN ?_ _ | refine blk_drew ?_ | refine blk_alloc ?_ _)); refine blk_far ?_ NB339_344.out _; (with_reducible repeat (first | refine blk_drewN ?_ _ | refine blk_drew ?_ | refine blk_alloc ?_ _)); refine blk_far ?_ NB339_344.out _; (with_reducible repeat (first | refine blk_drewN ?_ _ | refine blk_drew ?_ | refine blk_alloc ?_ _)); exact BK339.out⟩, ⟨by (with_reducible repeat (first | refine blk_drewN ?_ _ | refine blk_drew ?_ | refine blk_alloc ?_ _)); refine blk_put (cs := #[.int .i64 t340, .string t341, .int .i64 0]) ?_ 2 _ rfl; (with_reducible repeat (first | refine blk_drewN ?_ _ | refine blk_drew ?_ | refine blk_alloc ?_ _)); refine blk_put (cs := #[.int .i64 t340, .string (⟨#[]⟩ : ByteArray), .int .i64 0]) ?_ 1 _ rfl; (with_reducible repeat (first | refine blk_drewN ?_ _ | refine blk_drew ?_ | refine blk_alloc ?_ _)); refine blk_put (cs := #[.int .i64 0, .string (⟨#[]⟩ : ByteArray), .int .i64 0]) ?_ 0 _ rfl; (with_reducible repeat (first | refine blk_drewN ?_ _ | refine blk_drew ?_ | refine blk_alloc ?_ _)); exact BK344.out⟩, ⟨by repeat (first | (with_reducible first | exact HB.out | apply below_alloc | apply pw_below_drewN | apply below_drew1 | refine below_set ?_ GE339.out | refine below_set ?_ GE344.out) | exact HB.out)⟩⟩
  ·replace c10 := Bool.eq_false_iff.mpr c10
   subst c10
   have H1 : (impl_FilterOf.j0 k l0 true t340 t341 t342) = some (r1, r2, r3, r4) := by rw [if_neg (show ¬ (false = true) by decide)] at H; exact H
   clear H
   have H := H1
   clear H1
   have H' := Aside0.mk H
   clear H
   go_wp2
   go_meet
   case rel => exact ⟨_, (true), (by first | rfl | (simp; done) | (simp [*]; done)), H', ⟨by first | omega | exact Nat.le_refl _⟩, ⟨by (with_reducible repeat (first | refine blk_drewN ?_ _ | refine blk_drew ?_ | refine blk_alloc ?_ _)); refine blk_far ?_ NB339_344.out _; (with_reducible repeat (first | refine blk_drewN ?_ _ | refine blk_drew ?_ | refine blk_alloc ?_ _)); refine blk_far ?_ NB339_344.out _; (with_reducible repeat (first | refine blk_drewN ?_ _ | refine blk_drew ?_ | refine blk_alloc ?_ _)); refine blk_far ?_ NB339_344.out _; (with_reducible repeat (first | refine blk_drewN ?_ _ | refine blk_drew ?_ | refine blk_alloc ?_ _)); exact BK339.out⟩, ⟨by (with_reducible repeat (first | refine blk_drewN ?_ _ | refine blk_drew ?_ | refine blk_alloc ?_ _)); refine blk_put (cs := #[.int .i64 t340, .string t341, .int .i64 0]) ?_ 2 _ rfl; (with_reducible repeat (first | refine blk_drewN ?_ _ | refine blk_drew ?_ | refine blk_alloc ?_ _)); refine blk_put (cs := #[.int .i64 t340, .string (⟨#[]⟩ : ByteArray), .int .i64 0]) ?_ 1 _ rfl; (with_reducible repeat (first | refine blk_drewN ?_ _ | refine blk_drew ?_ | refine blk_alloc ?_ _)); refine blk_put (cs := #[.int .i64 0, .string (⟨#[]⟩ : ByteArray), .int .i64 0]) ?_ 0 _ rfl; (with_reducible repeat (first | refine blk_drewN ?_ _ | refine blk_drew ?_ | refine blk_alloc ?_ _)); exact BK344.out⟩, ⟨by repeat (first | (with_reducible first | exact HB.out | apply below_alloc | apply pw_below_drewN | apply below_drew1 | refine below_set ?_ GE339.out | refine below_set ?_ GE344.out) | exact HB.out)⟩⟩
 case rest =>
  clear HC4
  try clear c1
  try clear p2
  try clear c8
  try clear c9
  try clear c10
  try clear hcz9_0
  try clear hcz9_1
  try clear hcz9_2
  try clear hfz9_0
  try clear hfz9_1
  try clear hfz9_2
  obtain ⟨kq, x21_3, rfl, HA, HJ3, BK339, BK344, HB⟩ := hcut
  cases kq with
  | zero => exact absurd HA.out (by simp [impl_FilterOf.j0])
  | succ kj3 =>
   have H := HA.out
   clear HA
   simp only [impl_FilterOf.j0] at H
   by_cases c11 : x21_3 = true
   ·subst c11
    have H1 : (some (0, (⟨#[]⟩ : ByteArray), 0, false)) = some (r1, r2, r3, r4) := by rw [if_pos rfl] at H; exact H
    clear H
    have H := H1
    clear H1
    simp only [Option.some.injEq, Prod.mk.injEq] at H
    obtain ⟨rfl, rfl, rfl, rfl⟩ := H
    have hnb12 := NB339_344.out
    have hnc12 := NB344_339.out
    have hcz13_0 : wc.cell? ⟨gb339, 0, none⟩ = some (.int .i64 0) := (blk_cell BK339.out 0).trans rfl
    have hcz13_1 : wc.cell? ⟨gb339, 1, none⟩ = some (.string (⟨#[]⟩ : ByteArray)) := (blk_cell BK339.out 1).trans rfl
    have hcz13_2 : wc.cell? ⟨gb339, 2, none⟩ = some (.int .i64 0) := (blk_cell BK339.out 2).trans rfl
    have hfz13_0 := blk_frozen BK339.out 0
    have hfz13_1 := blk_frozen BK339.out 1
    have hfz13_2 := blk_frozen BK339.out 2
    go_wp2
    refine bodyPost_ret (results_ct rfl _ _ gb339 80 #[.int .i64 0, .string (⟨#[]⟩ : ByteArray), .int .i64 0] (0, 0) _ rfl (by (with_reducible repeat (first | refine blk_drewN ?_ _ | refine blk_drew ?_ | refine blk_alloc ?_ _)); refine blk_put (cs := #[.int .i64 0, .string (⟨#[]⟩ : ByteArray), .int .i64 0]) ?_ 2 _ rfl; (with_reducible repeat (first | refine blk_drewN ?_ _ | refine blk_drew ?_ | refine blk_alloc ?_ _)); refine blk_put (cs := #[.int .i64 0, .string (⟨#[]⟩ : ByteArray), .int .i64 0]) ?_ 1 _ rfl; (with_reducible repeat (first | refine blk_drewN ?_ _ | refine blk_drew ?_ | refine blk_alloc ?_ _)); refine blk_put (cs := #[.int .i64 0, .string (⟨#[]⟩ : ByteArray), .int .i64 0]) ?_ 0 _ rfl; (with_reducible repeat (first | refine blk_drewN ?_ _ | refine blk_drew ?_ | refine blk_alloc ?_ _)); exact BK339.out) Try.underlying80 rfl (by kernel_rfl)) rfl ?_
    exact ⟨by first | rfl | (simp [errW_none, errW_some] <;> rfl) | (simp [*, errW_none, errW_some] <;> rfl), by repeat (first | (with_reducible first | exact HB.out | apply below_alloc | apply pw_below_drewN | apply below_drew1 | refine below_set ?_ GE339.out | refine below_set ?_ GE344.out) | exact HB.out)⟩
   ·replace c11 := Bool.eq_false_iff.mpr c11
    subst c11
    have H1 : (impl_FilterOf.l0 kj3 l0 (l0.length : Int) 0 t340 t341 t342) = some (r1, r2, r3, r4) := by rw [if_neg (show ¬ (false = true) by decide)] at H; exact H
    clear H
    have H := H1
    clear H1
    have H' := Aside0.mk H
    clear H
    go_wp2
    go_loopg [25] kj3 (fun kq v25 w' => ∃ (x25_2 : Int) (x340000_2 : Int) (x340001_2 : ByteArray) (x340002_2 : Int) (x345000_2 : Int) (x345001_2 : ByteArray) (x345002_2 : Int), v25 = .int .i64 x25_2 ∧ Aside0 (impl_FilterOf.l0 kq l0 (l0.length : Int) x25_2 x345000_2 x345001_2 x345002_2 = some (r1, r2, r3, r4)) ∧ Aside0 (kq ≤ kj3) ∧ Aside0 (w'.heap[gb339]? = some (.cells #[.int .i64 x340000_2, .string x340001_2, .int .i64 x340002_2] 80 (0, 0))) ∧ Aside0 (w'.heap[gb344]? = some (.cells #[.int .i64 x345000_2, .string x345001_2, .int .i64 x345002_2] 80 (0, 0))) ∧ Aside0 (Below w.heap.size w w'))
    case atStart => exact ⟨(0), (0), ((⟨#[]⟩ : ByteArray)), (0), (t340), (t341), (t342), (by first | rfl | (simp; done) | (simp [*]; done)), H', ⟨Nat.le_refl _⟩, ⟨by (with_reducible repeat (first | refine blk_drewN ?_ _ | refine blk_drew ?_ | refine blk_alloc ?_ _)); exact BK339.out⟩, ⟨by (with_reducible repeat (first | refine blk_drewN ?_ _ | refine blk_drew ?_ | refine blk_alloc ?_ _)); exact BK344.out⟩, ⟨by repeat (first | (with_reducible first | exact HB.out | apply below_alloc | apply pw_below_drewN | apply below_drew1 | refine below_set ?_ GE339.out | refine below_set ?_ GE344.out) | exact HB.out)⟩⟩
    case round =>
     clear H'
     try clear c1
     try clear p2
     try clear c8
     try clear c9
     try clear c10
     try clear c11
     try clear c12
     try clear hcz13_0
     try clear hcz13_1
     try clear hcz13_2
     try clear hcz9_0
     try clear hcz9_1
     try clear hcz9_2
     try clear hfz13_0
     try clear hfz13_1
     try clear hfz13_2
     try clear hfz9_0
     try clear hfz9_1
     try clear hfz9_2
     try clear p2
     obtain ⟨x25_2, x340000_2, x340001_2, x340002_2, x345000_2, x345001_2, x345002_2, rfl, HA, HK2, BK339, BK344, HB⟩ := hrel
     cases gk with
     | zero => exact absurd HA.out (by simp [impl_FilterOf.l0])
     | succ k2 =>
      have H := HA.out
      clear HA
      simp only [impl_FilterOf.l0] at H
      by_cases c14 : x25_2 < (l0.length : Int)
      ·rw [if_pos c14] at H
       have c14b0 : decide (x25_2 < (l0.length : Int)) = true := decide_eq_true c14
       clear c14
       by_cases c15 : 0 ≤ x25_2
       ·rw [if_pos c15] at H
        have c15b0 : decide (0 ≤ x25_2) = true := decide_eq_true c15
        clear c15
        by_cases c16 : x25_2 < (l0.length : Int)
        ·rw [if_pos c16] at H
         have c16b0 : decide (x25_2 < (l0.length : Int)) = true := decide_eq_true c16
         clear c16
         replace H := Option.bind_eq_some_iff.mp H
         obtain ⟨⟨t346, t347, t348, t349⟩, A170, H⟩ := H
         replace H : (if t349 = true then (impl_FilterOf.l0 k2 l0 (l0.length : Int) (wrap64 (x25_2 + 1)) t346 t347 t348) else (some (0, (⟨#[]⟩ : ByteArray), 0, false))) = some (r1, r2, r3, r4) := H
         have A17 := Aside0.mk A170
         clear A170
         by_cases c18 : t349 = true
         ·subst c18
          have H1 : (impl_FilterOf.l0 k2 l0 (l0.length : Int) (wrap64 (x25_2 + 1)) t346 t347 t348) = some (r1, r2, r3, r4) := by rw [if_pos rfl] at H; exact H
          clear H
          have H := H1
          clear H1
          have H' := Aside0.mk H
          clear H
          have p345 : 0 ≤ (x25_2 : Int) := of_decide_eq_true (by first | (with_reducible assumption) | assumption)
          have q345 : x25_2 < (l0.length : Int) := of_decide_eq_true (by first | (with_reducible assumption) | assumption)
          obtain ⟨ad345, e345, hx345_0⟩ := Kd.at_string HR0.out x25_2 p345 q345
          cases e345
          replace hx345_0 := (HB.out.cell (World.block_lt_of_cell? w _ hx345_0)).trans hx345_0
          replace p345 := eq_true p345
          replace q345 := eq_true q345
          have hnb19 := NB344_339.out
          have hnc19 := NB339_344.out
          have hcz20_0 : wr.cell? ⟨gb344, 0, none⟩ = some (.int .i64 x345000_2) := (blk_cell BK344.out 0).trans rfl
          have hcz20_1 : wr.cell? ⟨gb344, 1, none⟩ = some (.string x345001_2) := (blk_cell BK344.out 1).trans rfl
          have hcz20_2 : wr.cell? ⟨gb344, 2, none⟩ = some (.int .i64 x345002_2) := (blk_cell BK344.out 2).trans rfl
          have hfz20_0 := blk_frozen BK344.out 0
          have hfz20_1 := blk_frozen BK344.out 1
          have hfz20_2 := blk_frozen BK344.out 2
          go_wp2_with (first | ((with_reducible refine gate_callee (f := 94) rfl ?_); refine goesL_ (some 32) rfl rfl Try.func94 (by kernel_rfl) rfl #[.agg #[.int .i64 x345000_2, .string x345001_2, .int .i64 x345002_2], .string (rdOf ByteArray.empty l0 x25_2)] rfl (by (try simp only [List.map_toArray, List.map_cons, List.map_nil]); first | done | rfl | (simp only [List.length_drop, List.length_take]; rfl)) ?_; (with_reducible refine (impl_AddKey.calls k2 x345000_2 x345001_2 x345002_2 (rdOf ByteArray.empty l0 x25_2) t346 t347 t348 true _ A17.out).mono ?_); rintro e w21 ⟨rfl, hb⟩; refine ⟨_, rfl, ?_⟩; have n0_ := Aside0.mk (blk_below (g := gb339) (o := .cells #[.int .i64 x340000_2, .string x340001_2, .int .i64 x340002_2] 80 (0, 0)) (by (with_reducible repeat (first | refine blk_drewN ?_ _ | refine blk_drew ?_ | refine blk_alloc ?_ _)); exact BK339.out) hb); have n1_ := Aside0.mk (blk_below (g := gb344) (o := .cells #[.int .i64 x345000_2, .string x345001_2, .int .i64 x345002_2] 80 (0, 0)) (by (with_reducible repeat (first | refine blk_drewN ?_ _ | refine blk_drew ?_ | refine blk_alloc ?_ _)); exact BK344.out) hb); have n2_ := Aside0.mk (below_step (by repeat (first | (with_reducible first | exact HB.out | apply below_alloc | apply pw_below_drewN | apply below_drew1 | refine below_set ?_ GE339.out | refine below_set ?_ GE344.out) | exact HB.out)) hb); clear BK339; clear BK344; clear HB; have BK339 := n0_; have BK344 := n1_; have HB := n2_; clear n0_ n1_ n2_; (try clear hb); (try clear hb2); (try clear hk); (try clear hi); have hcz22_0 : w21.cell? ⟨gb344, 0, none⟩ = some (.int .i64 x345000_2) := (blk_cell BK344.out 0).trans rfl; have hcz22_1 : w21.cell? ⟨gb344, 1, none⟩ = some (.string x345001_2) := (blk_cell BK344.out 1).trans rfl; have hcz22_2 : w21.cell? ⟨gb344, 2, none⟩ = some (.int .i64 x345002_2) := (blk_cell BK344.out 2).trans rfl; have hfz22_0 := blk_frozen BK344.out 0; have hfz22_1 := blk_frozen BK344.out 1; have hfz22_2 := blk_frozen BK344.out 2))
          go_roundg k2
          case measure => have := HJ3.out; have := HK2.out; omega
          case rel => exact ⟨(wrap64 (x25_2 + 1)), (x340000_2), (x340001_2), (x340002_2), (t346), (t347), (t348), (by first | rfl | (simp; done) | (simp [*]; done)), H', ⟨by have := HJ3.out; have := HK2.out; omega⟩, ⟨by (with_reducible repeat (first | refine blk_drewN ?_ _ | refine blk_drew ?_ | refine blk_alloc ?_ _)); refine blk_far ?_ NB339_344.out _; (with_reducible repeat (first | refine blk_drewN ?_ _ | refine blk_drew ?_ | refine blk_alloc ?_ _)); refine blk_far ?_ NB339_344.out _; (with_reducible repeat (first | refine blk_drewN ?_ _ | refine blk_drew ?_ | refine blk_alloc ?_ _)); refine blk_far ?_ NB339_344.out _; (with_reducible repeat (first | refine blk_drewN ?_ _ | refine blk_drew ?_ | refine blk_alloc ?_ _)); exact BK339.out⟩, ⟨by (with_reducible repeat (first | refine blk_drewN ?_ _ | refine blk_drew ?_ | refine blk_alloc ?_ _)); refine blk_put (cs := #[.int .i64 t346, .string t347, .int .i64 x345002_2]) ?_ 2 _ rfl; (with_reducible repeat (first | refine blk_drewN ?_ _ | refine blk_drew ?_ | refine blk_alloc ?_ _)); refine blk_put (cs := #[.int .i64 t346, .string x345001_2, .int .i64 x345002_2]) ?_ 1 _ rfl; (with_reducible repeat (first | refine blk_drewN ?_ _ | refine blk_drew ?_ | refine blk_alloc ?_ _)); refine blk_put (cs := #[.int .i64 x345000_2, .string x345001_2, .int .i64 x345002_2]) ?_ 0 _ rfl; (with_reducible repeat (first | refine blk_drewN ?_ _ | refine blk_drew ?_ | refine blk_alloc ?_ _)); exact BK344.out⟩, ⟨by repeat (first | (with_reducible first | exact HB.out | apply below_alloc | apply pw_below_drewN | apply below_drew1 | refine below_set ?_ GE339.out | refine below_set ?_ GE344.out) | exact HB.out)⟩⟩
         ·replace c18 := Bool.eq_false_iff.mpr c18
          subst c18
          have H1 : (some (0, (⟨#[]⟩ : ByteArray), 0, false)) = some (r1, r2, r3, r4) := by rw [if_neg (show ¬ (false = true) by decide)] at H; exact H
          clear H
          have H := H1
          clear H1
          simp only [Option.some.injEq, Prod.mk.injEq] at H
          obtain ⟨rfl, rfl, rfl, rfl⟩ := H
          have p345 : 0 ≤ (x25_2 : Int) := of_decide_eq_true (by first | (with_reducible assumption) | assumption)
          have q345 : x25_2 < (l0.length : Int) := of_decide_eq_true (by first | (with_reducible assumption) | assumption)
          obtain ⟨ad345, e345, hx345_0⟩ := Kd.at_string HR0.out x25_2 p345 q345
          cases e345
          replace hx345_0 := (HB.out.cell (World.block_lt_of_cell? w _ hx345_0)).trans hx345_0
          replace p345 := eq_true p345
          replace q345 := eq_true q345
          have hnb23 := NB344_339.out
          have hnc23 := NB339_344.out
          have hcz24_0 : wr.cell? ⟨gb344, 0, none⟩ = some (.int .i64 x345000_2) := (blk_cell BK344.out 0).trans rfl
          have hcz24_1 : wr.cell? ⟨gb344, 1, none⟩ = some (.string x345001_2) := (blk_cell BK344.out 1).trans rfl
          have hcz24_2 : wr.cell? ⟨gb344, 2, none⟩ = some (.int .i64 x345002_2) := (blk_cell BK344.out 2).trans rfl
          have hfz24_0 := blk_frozen BK344.out 0
          have hfz24_1 := blk_frozen BK344.out 1
          have hfz24_2 := blk_frozen BK344.out 2
          go_wp2_with (first | ((with_reducible refine gate_callee (f := 94) rfl ?_); refine goesL_ (some 32) rfl rfl Try.func94 (by kernel_rfl) rfl #[.agg #[.int .i64 x345000_2, .string x345001_2, .int .i64 x345002_2], .string (rdOf ByteArray.empty l0 x25_2)] rfl (by (try simp only [List.map_toArray, List.map_cons, List.map_nil]); first | done | rfl | (simp only [List.length_drop, List.length_take]; rfl)) ?_; (with_reducible refine (impl_AddKey.calls k2 x345000_2 x345001_2 x345002_2 (rdOf ByteArray.empty l0 x25_2) t346 t347 t348 false _ A17.out).mono ?_); rintro e w25 ⟨rfl, hb⟩; refine ⟨_, rfl, ?_⟩; have n0_ := Aside0.mk (blk_below (g := gb339) (o := .cells #[.int .i64 x340000_2, .string x340001_2, .int .i64 x340002_2] 80 (0, 0)) (by (with_reducible repeat (first | refine blk_drewN ?_ _ | refine blk_drew ?_ | refine blk_alloc ?_ _)); exact BK339.out) hb); have n1_ := Aside0.mk (blk_below (g := gb344) (o := .cells #[.int .i64 x345000_2, .string x345001_2, .int .i64 x345002_2] 80 (0, 0)) (by (with_reducible repeat (first | refine blk_drewN ?_ _ | refine blk_drew ?_ | refine blk_alloc ?_ _)); exact BK344.out) hb); have n2_ := Aside0.mk (below_step (by repeat (first | (with_reducible first | exact HB.out | apply below_alloc | apply pw_below_drewN | apply below_drew1 | refine below_set ?_ GE339.out | refine below_set ?_ GE344.out) | exact HB.out)) hb); clear BK339; clear BK344; clear HB; have BK339 := n0_; have BK344 := n1_; have HB := n2_; clear n0_ n1_ n2_; (try clear hb); (try clear hb2); (try clear hk); (try clear hi); have hcz26_0 : w25.cell? ⟨gb344, 0, none⟩ = some (.int .i64 x345000_2) := (blk_cell BK344.out 0).trans rfl; have hcz26_1 : w25.cell? ⟨gb344, 1, none⟩ = some (.string x345001_2) := (blk_cell BK344.out 1).trans rfl; have hcz26_2 : w25.cell? ⟨gb344, 2, none⟩ = some (.int .i64 x345002_2) := (blk_cell BK344.out 2).trans rfl; have hfz26_0 := blk_frozen BK344.out 0; have hfz26_1 := blk_frozen BK344.out 1; have hfz26_2 := blk_frozen BK344.out 2; have hcz27_0 : w25.cell? ⟨gb339, 0, none⟩ = some (.int .i64 x340000_2) := (blk_cell BK339.out 0).trans rfl; have hcz27_1 : w25.cell? ⟨gb339, 1, none⟩ = some (.string x340001_2) := (blk_cell BK339.out 1).trans rfl; have hcz27_2 : w25.cell? ⟨gb339, 2, none⟩ = some (.int .i64 x340002_2) := (blk_cell BK339.out 2).trans rfl; have hfz27_0 := blk_frozen BK339.out 0; have hfz27_1 := blk_frozen BK339.out 1; have hfz27_2 := blk_frozen BK339.out 2))
          refine bodyPost_ret (results_ct rfl _ _ gb339 80 #[.int .i64 0, .string (⟨#[]⟩ : ByteArray), .int .i64 0] (0, 0) _ rfl (by (with_reducible repeat (first | refine blk_drewN ?_ _ | refine blk_drew ?_ | refine blk_alloc ?_ _)); refine blk_put (cs := #[.int .i64 0, .string (⟨#[]⟩ : ByteArray), .int .i64 x340002_2]) ?_ 2 _ rfl; (with_reducible repeat (first | refine blk_drewN ?_ _ | refine blk_drew ?_ | refine blk_alloc ?_ _)); refine blk_put (cs := #[.int .i64 0, .string x340001_2, .int .i64 x340002_2]) ?_ 1 _ rfl; (with_reducible repeat (first | refine blk_drewN ?_ _ | refine blk_drew ?_ | refine blk_alloc ?_ _)); refine blk_put (cs := #[.int .i64 x340000_2, .string x340001_2, .int .i64 x340002_2]) ?_ 0 _ rfl; (with_reducible repeat (first | refine blk_drewN ?_ _ | refine blk_drew ?_ | refine blk_alloc ?_ _)); refine blk_far ?_ NB339_344.out _; (with_reducible repeat (first | refine blk_drewN ?_ _ | refine blk_drew ?_ | refine blk_alloc ?_ _)); refine blk_far ?_ NB339_344.out _; (with_reducible repeat (first | refine blk_drewN ?_ _ | refine blk_drew ?_ | refine blk_alloc ?_ _)); refine blk_far ?_ NB339_344.out _; (with_reducible repeat (first | refine blk_drewN ?_ _ | refine blk_drew ?_ | refine blk_alloc ?_ _)); exact BK339.out) Try.underlying80 rfl (by kernel_rfl)) rfl ?_
          exact ⟨by first | rfl | (simp [errW_none, errW_some] <;> rfl) | (simp [*, errW_none, errW_some] <;> rfl), by repeat (first | (with_reducible first | exact HB.out | apply below_alloc | apply pw_below_drewN | apply below_drew1 | refine below_set ?_ GE339.out | refine below_set ?_ GE344.out) | exact HB.out)⟩
        ·rw [if_neg c16] at H
         exact absurd H (by simp)
       ·rw [if_neg c15] at H
        exact absurd H (by simp)
      ·rw [if_neg c14] at H
       have c14b0 : decide (x25_2 < (l0.length : Int)) = false := decide_eq_false c14
       clear c14
       simp only [Option.some.injEq, Prod.mk.injEq] at H
       obtain ⟨rfl, rfl, rfl, rfl⟩ := H
       have hnb28 := NB344_339.out
       have hnc28 := NB339_344.out
       have hcz29_0 : wr.cell? ⟨gb344, 0, none⟩ = some (.int .i64 x345000_2) := (blk_cell BK344.out 0).trans rfl
       have hcz29_1 : wr.cell? ⟨gb344, 1, none⟩ = some (.string x345001_2) := (blk_cell BK344.out 1).trans rfl
       have hcz29_2 : wr.cell? ⟨gb344, 2, none⟩ = some (.int .i64 x345002_2) := (blk_cell BK344.out 2).trans rfl
       have hfz29_0 := blk_frozen BK344.out 0
       have hfz29_1 := blk_frozen BK344.out 1
       have hfz29_2 := blk_frozen BK344.out 2
       have hcz30_0 : wr.cell? ⟨gb339, 0, none⟩ = some (.int .i64 x340000_2) := (blk_cell BK339.out 0).trans rfl
       have hcz30_1 : wr.cell? ⟨gb339, 1, none⟩ = some (.string x340001_2) := (blk_cell BK339.out 1).trans rfl
       have hcz30_2 : wr.cell? ⟨gb339, 2, none⟩ = some (.int .i64 x340002_2) := (blk_cell BK339.out 2).trans rfl
       have hfz30_0 := blk_frozen BK339.out 0
       have hfz30_1 := blk_frozen BK339.out 1
       have hfz30_2 := blk_frozen BK339.out 2
       go_wp2
       refine bodyPost_ret (results_ct rfl _ _ gb339 80 #[.int .i64 x345000_2, .string x345001_2, .int .i64 x345002_2] (0, 0) _ rfl (by (with_reducible repeat (first | refine blk_drewN ?_ _ | refine blk_drew ?_ | refine blk_alloc ?_ _)); refine blk_put (cs := #[.int .i64 x345000_2, .string x345001_2, .int .i64 x340002_2]) ?_ 2 _ rfl; (with_reducible repeat (first | refine blk_drewN ?_ _ | refine blk_drew ?_ | refine blk_alloc ?_ _)); refine blk_put (cs := #[.int .i64 x345000_2, .string x340001_2, .int .i64 x340002_2]) ?_ 1 _ rfl; (with_reducible repeat (first | refine blk_drewN ?_ _ | refine blk_drew ?_ | refine blk_alloc ?_ _)); refine blk_put (cs := #[.int .i64 x340000_2, .string x340001_2, .int .i64 x340002_2]) ?_ 0 _ rfl; (with_reducible repeat (first | refine blk_drewN ?_ _ | refine blk_drew ?_ | refine blk_alloc ?_ _)); exact BK339.out) Try.underlying80 rfl (by kernel_rfl)) rfl ?_
       exact ⟨by first | rfl | (simp [errW_none, errW_some] <;> rfl) | (simp [*, errW_none, errW_some] <;> rfl), by repeat (first | (with_reducible first | exact HB.out | apply below_alloc | apply pw_below_drewN | apply below_drew1 | refine below_set ?_ GE339.out | refine below_set ?_ GE344.out) | exact HB.out)⟩
/-! ### impl_tableKeys: function 82 -/
mutual
def impl_tableKeys.l0 : Nat → List (S27) → List ByteArray → List (S27) → Int → Int → Option (List ByteArray)
 | 0, _, _, _, _, _ => none
 | k + 1, x0, x3, x7, x8, x9 => if x9 < x8 then (if 0 ≤ x9 then (if x9 < (x7.length : Int) then (if x9 = 0 then (impl_tableKeys.j1 k x0 x3 x7 x8 x9 true ((rd_T27 x7 x9).f0) ((rd_T27 x7 x9).f1) ((rd_T27 x7 x9).f2) ((rd_T27 x7 x9).f3)) else (if 0 ≤ (wrap64 (x9 - 1)) then (if (wrap64 (x9 - 1)) < (x0.length : Int) then (impl_tableKeys.j1 k x0 x3 x7 x8 x9 (((rd_T27 x0 (wrap64 (x9 - 1))).f0).toList != ((rd_T27 x7 x9).f0).toList) ((rd_T27 x7 x9).f0) ((rd_T27 x7 x9).f1) ((rd_T27 x7 x9).f2) ((rd_T27 x7 x9).f3)) else (none)) else (none))) else (none)) else (none)) else (some x3)
def impl_tableKeys.j1 : Nat → List (S27) → List ByteArray → List (S27) → Int → Int → Bool → ByteArray → Int → Int → ByteArray → Option (List ByteArray)
 | 0, _, _, _, _, _, _, _, _, _, _ => none
 | k + 1, x0, x3, x7, x8, x9, x26, x355000, x355001, x355002, x355003 => if x26 = true then (if x3.length < 8796093022208 then (impl_tableKeys.l0 k x0 (x3 ++ [x355000]) x7 x8 (wrap64 (x9 + 1))) else (none)) else (impl_tableKeys.l0 k x0 x3 x7 x8 (wrap64 (x9 + 1)))
end
def impl_tableKeys.f (k : Nat) (l0 : List (S27)) : Option (List ByteArray) := impl_tableKeys.l0 k l0 (([] : List ByteArray)) l0 (l0.length : Int) 0
theorem impl_tableKeys.mono_l : ∀ k, (∀ y0 y1 y2 y3 y4, LeO (impl_tableKeys.l0 k y0 y1 y2 y3 y4) (impl_tableKeys.l0 (k + 1) y0 y1 y2 y3 y4)) ∧ (∀ y0 y1 y2 y3 y4 y5 y6 y7 y8 y9, LeO (impl_tableKeys.j1 k y0 y1 y2 y3 y4 y5 y6 y7 y8 y9) (impl_tableKeys.j1 (k + 1) y0 y1 y2 y3 y4 y5 y6 y7 y8 y9))
 | 0 => ⟨fun _ _ _ _ _ r h => by simp [impl_tableKeys.l0] at h, fun _ _ _ _ _ _ _ _ _ _ r h => by simp [impl_tableKeys.j1] at h⟩
 | k + 1 => by
  obtain ⟨ih0, ih1⟩ := impl_tableKeys.mono_l k
  refine ⟨?_, ?_⟩
  ·intro y0 y1 y2 y3 y4
   unfold impl_tableKeys.l0
   repeat' first
   | (with_reducible exact ih0 _ _ _ _ _)
   | (with_reducible exact ih1 _ _ _ _ _ _ _ _ _ _)
   | (with_reducible exact LeO.refl _)
   | (with_reducible exact LeO.none _)
   | (with_reducible refine LeO.ite ?_ ?_)
   | (with_reducible refine LeO.bind ?_ (fun _ => ?_))
   | exact ih0 _ _ _ _ _
   | exact ih1 _ _ _ _ _ _ _ _ _ _
   | exact LeO.none _
   | refine LeO.ite ?_ ?_
   | refine LeO.bind ?_ (fun _ => ?_)
  ·intro y0 y1 y2 y3 y4 y5 y6 y7 y8 y9
   unfold impl_tableKeys.j1
   repeat' first
   | (with_reducible exact ih0 _ _ _ _ _)
   | (with_reducible exact ih1 _ _ _ _ _ _ _ _ _ _)
   | (with_reducible exact LeO.refl _)
   | (with_reducible exact LeO.none _)
   | (with_reducible refine LeO.ite ?_ ?_)
   | (with_reducible refine LeO.bind ?_ (fun _ => ?_))
   | exact ih0 _ _ _ _ _
   | exact ih1 _ _ _ _ _ _ _ _ _ _
   | exact LeO.none _
   | refine LeO.ite ?_ ?_
   | refine LeO.bind ?_ (fun _ => ?_)
theorem impl_tableKeys.mono : ∀ a0 k, LeO (impl_tableKeys.f k a0) (impl_tableKeys.f (k + 1) a0) := by
 intro a0 k
 obtain ⟨ih0, ih1⟩ := impl_tableKeys.mono_l k
 unfold impl_tableKeys.f
 repeat' first
   | (with_reducible exact ih0 _ _ _ _ _)
   | (with_reducible exact ih1 _ _ _ _ _ _ _ _ _ _)
   | (with_reducible exact LeO.refl _)
   | (with_reducible exact LeO.none _)
   | (with_reducible refine LeO.ite ?_ ?_)
   | (with_reducible refine LeO.bind ?_ (fun _ => ?_))
   | exact ih0 _ _ _ _ _
   | exact ih1 _ _ _ _ _ _ _ _ _ _
   | exact LeO.none _
   | refine LeO.ite ?_ ?_
   | refine LeO.bind ?_ (fun _ => ?_)
set_option maxHeartbeats 8000000 in
set_option maxRecDepth 100000 in
theorem impl_tableKeys.calls (k : Nat) (A0 : Option Addr) (c0 : Nat) (l0 : List (S27)) (r : List ByteArray) (w : World) (hr0 : Kd.C k27 w A0 l0.length l0) (hc0 : l0.length ≤ c0) (h : impl_tableKeys.f k l0 = some r) :
  Calls Try.prog 82 #[.slice A0 l0.length c0] w fun e w' => ∃ v0_ : Value, e = .returned (v0_) ∧ Kd.R Kd.string 9 w' w.heap.size (fun _ => True) v0_ r ∧ Below w.heap.size w w' := by
 have hu27 := Try.underlying27
 have HR0 := Aside0.mk hr0
 have HC0 := Aside0.mk hc0
 clear hr0 hc0
 have HB := Aside0.mk (Below.refl w.heap.size w)
 have H : (impl_tableKeys.l0 k l0 (([] : List ByteArray)) l0 (l0.length : Int) 0) = some r := h
 clear h
 obtain ⟨y350, hy350⟩ : ∃ y_ : List ByteArray, y_ = (([] : List ByteArray)) := ⟨_, rfl⟩
 replace H : (impl_tableKeys.l0 k l0 y350 l0 (l0.length : Int) 0) = some r := by first | (rw [hy350]; with_reducible exact H) | (have H2_ := (Option.bind_some _ _).symm.trans H; rw [hy350]; with_reducible exact H2_) | (have H2_ := (Option.bind_some _ _).symm.trans H; with_reducible exact H2_) | with_reducible exact H | (rw [hy350]; exact H) | exact H
 have Ny350 := Aside0.mk hy350
 clear hy350
 have H' := Aside0.mk H
 clear H
 go_enter Try.func82, Try.ntmps82
 go_wp2_with (first | ((with_reducible refine gate_dst (N := 6) rfl ?_); refine Kd.R_lit Kd.string _ 9 ?hg (N := 6) ?hd (xs := ([] : List ByteArray)) (inner := []) (ok := fun _ => True) (okp := fun _ => True) ?hr ?hp (fun _ hk => hk) trivial (Below.refl _ _) (Nat.le_refl _) (by simp) ?_; (case hd => rfl); (case hg => rfl); (case hr => first | (go_simp; done) | (go_simp; rfl)); (case hp => exact (Reps.none _ _)); intro v351 w2 ho3 hb hg_ hnew_; clear hg_ hnew_; (first | rw [← Ny350.out] at ho3 | (simp only [Int.reduceToNat] at ho3; rw [← Ny350.out] at ho3)); have n0_ := Aside0.mk (Kd.R_lower ho3 (below_size (by repeat (first | (with_reducible first | exact HB.out | apply below_alloc | apply pw_below_drewN | apply below_drew1) | exact HB.out)))); have n1_ := Aside0.mk (below_step (by repeat (first | (with_reducible first | exact HB.out | apply below_alloc | apply pw_below_drewN | apply below_drew1) | exact HB.out)) hb); clear HB; have HO352 := n0_; have HB := n1_; clear n0_ n1_; clear hb ho3))
 repeat (go_quiet (first | ((with_reducible refine gate_dst (N := 6) rfl ?_); refine Kd.R_lit Kd.string _ 9 ?hg (N := 6) ?hd (xs := ([] : List ByteArray)) (inner := []) (ok := fun _ => True) (okp := fun _ => True) ?hr ?hp (fun _ hk => hk) trivial (Below.refl _ _) (Nat.le_refl _) (by simp) ?_; (case hd => rfl); (case hg => rfl); (case hr => first | (go_simp; done) | (go_simp; rfl)); (case hp => exact (Reps.none _ _)); intro v351 w2 ho3 hb hg_ hnew_; clear hg_ hnew_; (first | rw [← Ny350.out] at ho3 | (simp only [Int.reduceToNat] at ho3; rw [← Ny350.out] at ho3)); have n0_ := Aside0.mk (Kd.R_lower ho3 (below_size (by repeat (first | (with_reducible first | exact HB.out | apply below_alloc | apply pw_below_drewN | apply below_drew1) | exact HB.out)))); have n1_ := Aside0.mk (below_step (by repeat (first | (with_reducible first | exact HB.out | apply below_alloc | apply pw_below_drewN | apply below_drew1) | exact HB.out)) hb); clear HB; have HO352 := n0_; have HB := n1_; clear n0_ n1_; clear hb ho3)); try go_wp2_with (first | ((with_reducible refine gate_dst (N := 6) rfl ?_); refine Kd.R_lit Kd.string _ 9 ?hg (N := 6) ?hd (xs := ([] : List ByteArray)) (inner := []) (ok := fun _ => True) (okp := fun _ => True) ?hr ?hp (fun _ hk => hk) trivial (Below.refl _ _) (Nat.le_refl _) (by simp) ?_; (case hd => rfl); (case hg => rfl); (case hr => first | (go_simp; done) | (go_simp; rfl)); (case hp => exact (Reps.none _ _)); intro v351 w2 ho3 hb hg_ hnew_; clear hg_ hnew_; (first | rw [← Ny350.out] at ho3 | (simp only [Int.reduceToNat] at ho3; rw [← Ny350.out] at ho3)); have n0_ := Aside0.mk (Kd.R_lower ho3 (below_size (by repeat (first | (with_reducible first | exact HB.out | apply below_alloc | apply pw_below_drewN | apply below_drew1) | exact HB.out)))); have n1_ := Aside0.mk (below_step (by repeat (first | (with_reducible first | exact HB.out | apply below_alloc | apply pw_below_drewN | apply below_drew1) | exact HB.out)) hb); clear HB; have HO352 := n0_; have HB := n1_; clear n0_ n1_; clear hb ho3)))
 go_loopg [3, 9] k (fun kq v3 v9 w' => ∃ (x3_1 : List ByteArray) (x9_1 : Int), v9 = .int .i64 x9_1 ∧ Aside0 (impl_tableKeys.l0 kq l0 x3_1 l0 (l0.length : Int) x9_1 = some r) ∧ Aside0 (kq ≤ k) ∧ Aside0 (Kd.R Kd.string 9 w' w.heap.size (fun _ => True) v3 x3_1) ∧ Aside0 (Below w.heap.size w w'))
 case atStart => exact ⟨(y350), (0), (by first | rfl | (simp; done) | (simp [*]; done)), H', ⟨Nat.le_refl _⟩, ⟨by (with_reducible repeat (first | apply Kd.R_alloc | apply Kd.R_drewN | apply Kd.R_drew)); exact HO352.out⟩, ⟨by repeat (first | (with_reducible first | exact HB.out | apply below_alloc | apply pw_below_drewN | apply below_drew1) | exact HB.out)⟩⟩
 case round =>
  clear H'
  try clear p2
  obtain ⟨x3_1, x9_1, rfl, HA, HK1, HO_3, HB⟩ := hrel
  cases gk with
  | zero => exact absurd HA.out (by simp [impl_tableKeys.l0])
  | succ k1 =>
   have H := HA.out
   clear HA
   simp only [impl_tableKeys.l0] at H
   by_cases c4 : x9_1 < (l0.length : Int)
   ·rw [if_pos c4] at H
    have c4b0 : decide (x9_1 < (l0.length : Int)) = true := decide_eq_true c4
    clear c4
    by_cases c5 : 0 ≤ x9_1
    ·rw [if_pos c5] at H
     have c5b0 : decide (0 ≤ x9_1) = true := decide_eq_true c5
     clear c5
     by_cases c6 : x9_1 < (l0.length : Int)
     ·rw [if_pos c6] at H
      have c6b0 : decide (x9_1 < (l0.length : Int)) = true := decide_eq_true c6
      clear c6
      have HC7 := Aside0.mk H
      clear H
      have p353 : 0 ≤ (x9_1 : Int) := of_decide_eq_true (by first | (with_reducible assumption) | assumption)
      have q353 : x9_1 < (l0.length : Int) := of_decide_eq_true (by first | (with_reducible assumption) | assumption)
      obtain ⟨ad353, e353, hx353_0, hx353_1, hx353_2, hx353_3⟩ := at_T27 HR0.out x9_1 p353 q353
      cases e353
      replace hx353_0 := (HB.out.cell (World.block_lt_of_cell? w _ hx353_0)).trans hx353_0
      replace hx353_1 := (HB.out.cell (World.block_lt_of_cell? w _ hx353_1)).trans hx353_1
      replace hx353_2 := (HB.out.cell (World.block_lt_of_cell? w _ hx353_2)).trans hx353_2
      replace hx353_3 := (HB.out.cell (World.block_lt_of_cell? w _ hx353_3)).trans hx353_3
      replace p353 := eq_true p353
      replace q353 := eq_true q353
      go_upto_region 5 with (first | ((with_reducible refine gate_dst (N := 5) rfl ?_); refine box_event ?hg (N := 5) ?hd (cs := #[.string (⟨#[]⟩ : ByteArray), .int .i64 0, .int .i64 0, .string (⟨#[]⟩ : ByteArray)]) (t := 27) ?hr ?_; (case hd => rfl); (case hg => rfl); (case hr => first | (go_simp; done) | (go_simp; rfl)); intro gb354 hg w8 hbox hb; have n0_ := Aside0.mk (Kd.R_below (by (with_reducible repeat (first | apply Kd.R_alloc | apply Kd.R_drewN | apply Kd.R_drew)); exact HO_3.out) hb); have n1_ := Aside0.mk (below_step (by repeat (first | (with_reducible first | exact HB.out | apply below_alloc | apply pw_below_drewN | apply below_drew1) | exact HB.out)) hb); have n2_ := Aside0.mk (hbox); have n3_ := Aside0.mk ((by rw [hg]; exact (below_size (by repeat (first | (with_reducible first | exact HB.out | apply below_alloc | apply pw_below_drewN | apply below_drew1) | exact HB.out))) : w.heap.size ≤ gb354)); have n4_ := Aside0.mk ((by rw [hg]; exact (below_size (by repeat (first | (with_reducible first | exact HB.out | apply below_alloc | apply pw_below_drewN | apply below_drew1) | exact HB.out))) : w.heap.size ≤ gb354)); clear HO_3; clear HB; have HO_3 := n0_; have HB := n1_; have BK354 := n2_; have GW354 := n3_; have GE354 := n4_; clear n0_ n1_ n2_ n3_ n4_; clear hb hbox hg; have hcz9_0 : w8.cell? ⟨gb354, 0, none⟩ = some (.string (⟨#[]⟩ : ByteArray)) := (blk_cell BK354.out 0).trans rfl; have hcz9_1 : w8.cell? ⟨gb354, 1, none⟩ = some (.int .i64 0) := (blk_cell BK354.out 1).trans rfl; have hcz9_2 : w8.cell? ⟨gb354, 2, none⟩ = some (.int .i64 0) := (blk_cell BK354.out 2).trans rfl; have hcz9_3 : w8.cell? ⟨gb354, 3, none⟩ = some (.string (⟨#[]⟩ : ByteArray)) := (blk_cell BK354.out 3).trans rfl; have hfz9_0 := blk_frozen BK354.out 0; have hfz9_1 := blk_frozen BK354.out 1; have hfz9_2 := blk_frozen BK354.out 2; have hfz9_3 := blk_frozen BK354.out 3))
      repeat (go_quiet (first | ((with_reducible refine gate_dst (N := 5) rfl ?_); refine box_event ?hg (N := 5) ?hd (cs := #[.string (⟨#[]⟩ : ByteArray), .int .i64 0, .int .i64 0, .string (⟨#[]⟩ : ByteArray)]) (t := 27) ?hr ?_; (case hd => rfl); (case hg => rfl); (case hr => first | (go_simp; done) | (go_simp; rfl)); intro gb354 hg w8 hbox hb; have n0_ := Aside0.mk (Kd.R_below (by (with_reducible repeat (first | apply Kd.R_alloc | apply Kd.R_drewN | apply Kd.R_drew)); exact HO_3.out) hb); have n1_ := Aside0.mk (below_step (by repeat (first | (with_reducible first | exact HB.out | apply below_alloc | apply pw_below_drewN | apply below_drew1) | exact HB.out)) hb); have n2_ := Aside0.mk (hbox); have n3_ := Aside0.mk ((by rw [hg]; exact (below_size (by repeat (first | (with_reducible first | exact HB.out | apply below_alloc | apply pw_below_drewN | apply below_drew1) | exact HB.out))) : w.heap.size ≤ gb354)); have n4_ := Aside0.mk ((by rw [hg]; exact (below_size (by repeat (first | (with_reducible first | exact HB.out | apply below_alloc | apply pw_below_drewN | apply below_drew1) | exact HB.out))) : w.heap.size ≤ gb354)); clear HO_3; clear HB; have HO_3 := n0_; have HB := n1_; have BK354 := n2_; have GW354 := n3_; have GE354 := n4_; clear n0_ n1_ n2_ n3_ n4_; clear hb hbox hg; have hcz9_0 : w8.cell? ⟨gb354, 0, none⟩ = some (.string (⟨#[]⟩ : ByteArray)) := (blk_cell BK354.out 0).trans rfl; have hcz9_1 : w8.cell? ⟨gb354, 1, none⟩ = some (.int .i64 0) := (blk_cell BK354.out 1).trans rfl; have hcz9_2 : w8.cell? ⟨gb354, 2, none⟩ = some (.int .i64 0) := (blk_cell BK354.out 2).trans rfl; have hcz9_3 : w8.cell? ⟨gb354, 3, none⟩ = some (.string (⟨#[]⟩ : ByteArray)) := (blk_cell BK354.out 3).trans rfl; have hfz9_0 := blk_frozen BK354.out 0; have hfz9_1 := blk_frozen BK354.out 1; have hfz9_2 := blk_frozen BK354.out 2; have hfz9_3 := blk_frozen BK354.out 3)); go_upto_region 5 with (first | ((with_reducible refine gate_dst (N := 5) rfl ?_); refine box_event ?hg (N := 5) ?hd (cs := #[.string (⟨#[]⟩ : ByteArray), .int .i64 0, .int .i64 0, .string (⟨#[]⟩ : ByteArray)]) (t := 27) ?hr ?_; (case hd => rfl); (case hg => rfl); (case hr => first | (go_simp; done) | (go_simp; rfl)); intro gb354 hg w8 hbox hb; have n0_ := Aside0.mk (Kd.R_below (by (with_reducible repeat (first | apply Kd.R_alloc | apply Kd.R_drewN | apply Kd.R_drew)); exact HO_3.out) hb); have n1_ := Aside0.mk (below_step (by repeat (first | (with_reducible first | exact HB.out | apply below_alloc | apply pw_below_drewN | apply below_drew1) | exact HB.out)) hb); have n2_ := Aside0.mk (hbox); have n3_ := Aside0.mk ((by rw [hg]; exact (below_size (by repeat (first | (with_reducible first | exact HB.out | apply below_alloc | apply pw_below_drewN | apply below_drew1) | exact HB.out))) : w.heap.size ≤ gb354)); have n4_ := Aside0.mk ((by rw [hg]; exact (below_size (by repeat (first | (with_reducible first | exact HB.out | apply below_alloc | apply pw_below_drewN | apply below_drew1) | exact HB.out))) : w.heap.size ≤ gb354)); clear HO_3; clear HB; have HO_3 := n0_; have HB := n1_; have BK354 := n2_; have GW354 := n3_; have GE354 := n4_; clear n0_ n1_ n2_ n3_ n4_; clear hb hbox hg; have hcz9_0 : w8.cell? ⟨gb354, 0, none⟩ = some (.string (⟨#[]⟩ : ByteArray)) := (blk_cell BK354.out 0).trans rfl; have hcz9_1 : w8.cell? ⟨gb354, 1, none⟩ = some (.int .i64 0) := (blk_cell BK354.out 1).trans rfl; have hcz9_2 : w8.cell? ⟨gb354, 2, none⟩ = some (.int .i64 0) := (blk_cell BK354.out 2).trans rfl; have hcz9_3 : w8.cell? ⟨gb354, 3, none⟩ = some (.string (⟨#[]⟩ : ByteArray)) := (blk_cell BK354.out 3).trans rfl; have hfz9_0 := blk_frozen BK354.out 0; have hfz9_1 := blk_frozen BK354.out 1; have hfz9_2 := blk_frozen BK354.out 2; have hfz9_3 := blk_frozen BK354.out 3)))
      (try simp only [Act.put, List.setIfInBounds_toArray, List.set_cons_zero, List.set_cons_succ])
      go_cut [26] (fun v26 wc => ∃ (kq : Nat) (x26_6 : Bool), v26 = .bool x26_6 ∧ Aside0 (impl_tableKeys.j1 kq l0 x3_1 l0 (l0.length : Int) x9_1 x26_6 ((rd_T27 l0 x9_1).f0) ((rd_T27 l0 x9_1).f1) ((rd_T27 l0 x9_1).f2) ((rd_T27 l0 x9_1).f3) = some r) ∧ Aside0 (kq ≤ k1) ∧ Aside0 (Kd.R Kd.string 9 wc w.heap.size (fun _ => True) u3 x3_1) ∧ Aside0 (wc.heap[gb354]? = some (.cells #[.string ((rd_T27 l0 x9_1).f0), .int .i64 ((rd_T27 l0 x9_1).f1), .int .i64 ((rd_T27 l0 x9_1).f2), .string ((rd_T27 l0 x9_1).f3)] 27 (0, 0))) ∧ Aside0 (Below w.heap.size w wc))
      case first =>
       have H := HC7.out
       clear HC7
       by_cases c10 : x9_1 = 0
       ·rw [if_pos c10] at H
        have c10b0 : (x9_1 == 0) = true := beq_iff_eq.mpr c10
        have c10b1 : (x9_1 != 0) = false := bne_eq_false_iff_eq.mpr c10
        clear c10
        (first | rw [c10b0] | (simp only [i64_w, i32_w]; rw [c10b0]) | rw [c10b1] | skip)
        have H' := Aside0.mk H
        clear H
        go_wp2
        repeat (go_quiet (fail); try go_wp2)
        go_meet
        case rel => exact ⟨_, (true), (by first | rfl | (simp; done) | (simp [*]; done)), H', ⟨by have := HK1.out; first | omega | exact Nat.le_refl _⟩, ⟨by (with_reducible repeat (first | apply Kd.R_alloc | apply Kd.R_drewN | apply Kd.R_drew)); exact Kd.R_mono (Kd.R_far (p := ⟨gb354, 3, none⟩) (Kd.R_far (p := ⟨gb354, 2, none⟩) (Kd.R_far (p := ⟨gb354, 1, none⟩) (Kd.R_far (p := ⟨gb354, 0, none⟩) (Kd.R_types HO_3.out BK354.out (by decide)) (fun _ hk => hk.2) (.string ((rd_T27 l0 x9_1).f0))) (fun _ hk => hk.2) (.int .i64 ((rd_T27 l0 x9_1).f1))) (fun _ hk => hk.2) (.int .i64 ((rd_T27 l0 x9_1).f2))) (fun _ hk => hk.2) (.string ((rd_T27 l0 x9_1).f3))) (fun _ hk => trivial)⟩, ⟨by (with_reducible repeat (first | refine blk_drewN ?_ _ | refine blk_drew ?_ | refine blk_alloc ?_ _)); refine blk_put (cs := #[.string ((rd_T27 l0 x9_1).f0), .int .i64 ((rd_T27 l0 x9_1).f1), .int .i64 ((rd_T27 l0 x9_1).f2), .string (⟨#[]⟩ : ByteArray)]) ?_ 3 _ rfl; (with_reducible repeat (first | refine blk_drewN ?_ _ | refine blk_drew ?_ | refine blk_alloc ?_ _)); refine blk_put (cs := #[.string ((rd_T27 l0 x9_1).f0), .int .i64 ((rd_T27 l0 x9_1).f1), .int .i64 0, .string (⟨#[]⟩ : ByteArray)]) ?_ 2 _ rfl; (with_reducible repeat (first | refine blk_drewN ?_ _ | refine blk_drew ?_ | refine blk_alloc ?_ _)); refine blk_put (cs := #[.string ((rd_T27 l0 x9_1).f0), .int .i64 0, .int .i64 0, .string (⟨#[]⟩ : ByteArray)]) ?_ 1 _ rfl; (with_reducible repeat (first | refine blk_drewN ?_ _ | refine blk_drew ?_ | refine blk_alloc ?_ _)); refine blk_put (cs := #[.string (⟨#[]⟩ : ByteArray), .int .i64 0, .int .i64 0, .string (⟨#[]⟩ : ByteArray)]) ?_ 0 _ rfl; (with_reducible repeat (first | refine blk_drewN ?_ _ | refine blk_drew ?_ | refine blk_alloc ?_ _)); exact BK354.out⟩, ⟨by repeat (first | (with_reducible first | exact HB.out | apply below_alloc | apply pw_below_drewN | apply below_drew1 | refine below_set ?_ GE354.out) | exact HB.out)⟩⟩
       ·rw [if_neg c10] at H
        have c10b0 : (x9_1 == 0) = false := beq_eq_false_iff_ne.mpr c10
        have c10b1 : (x9_1 != 0) = true := bne_iff_ne.mpr c10
        (first | rw [c10b0] | (simp only [i64_w, i32_w]; rw [c10b0]) | rw [c10b1] | skip)
        obtain ⟨ji11, hji11⟩ : ∃ j_ : Int, (wrap64 (x9_1 - 1)) = j_ := ⟨_, rfl⟩
        replace H : (if 0 ≤ (ji11) then (if (ji11) < (l0.length : Int) then (impl_tableKeys.j1 k1 l0 x3_1 l0 (l0.length : Int) x9_1 (((rd_T27 l0 (ji11)).f0).toList != ((rd_T27 l0 x9_1).f0).toList) ((rd_T27 l0 x9_1).f0) ((rd_T27 l0 x9_1).f1) ((rd_T27 l0 x9_1).f2) ((rd_T27 l0 x9_1).f3)) else (none)) else (none)) = some r := by first | (rw [hji11] at H; exact H) | (simp only [hji11] at H ⊢; exact H)
        have hji11w : (IntKind.i64.wrap (x9_1 - 1)) = ji11 := (i64_w _).trans hji11
        by_cases c12 : 0 ≤ (ji11)
        ·rw [if_pos c12] at H
         have c12b0 : decide (0 ≤ (ji11)) = true := decide_eq_true c12
         clear c12
         by_cases c13 : (ji11) < (l0.length : Int)
         ·rw [if_pos c13] at H
          have c13b0 : decide ((ji11) < (l0.length : Int)) = true := decide_eq_true c13
          clear c13
          have H' := Aside0.mk H
          clear H
          have p355 : 0 ≤ ((ji11) : Int) := of_decide_eq_true (by first | (with_reducible assumption) | assumption)
          have q355 : (ji11) < (l0.length : Int) := of_decide_eq_true (by first | (with_reducible assumption) | assumption)
          obtain ⟨ad355, e355, hx355_0, hx355_1, hx355_2, hx355_3⟩ := at_T27 HR0.out (ji11) p355 q355
          obtain rfl : ad353 = ad355 := (by injection e355)
          have hn355_0 : ad353.block ≠ gb354 := Nat.ne_of_lt (Nat.lt_of_lt_of_le (by have := World.block_lt_of_cell? _ _ hx355_0; first | rwa [add_block] at this | exact this) GW354.out)
          have hn355_1 : ad353.block ≠ gb354 := Nat.ne_of_lt (Nat.lt_of_lt_of_le (by have := World.block_lt_of_cell? _ _ hx355_0; first | rwa [add_block] at this | exact this) GW354.out)
          have hn355_2 : ad353.block ≠ gb354 := Nat.ne_of_lt (Nat.lt_of_lt_of_le (by have := World.block_lt_of_cell? _ _ hx355_0; first | rwa [add_block] at this | exact this) GW354.out)
          have hn355_3 : ad353.block ≠ gb354 := Nat.ne_of_lt (Nat.lt_of_lt_of_le (by have := World.block_lt_of_cell? _ _ hx355_0; first | rwa [add_block] at this | exact this) GW354.out)
          replace hx355_0 := (HB.out.cell (World.block_lt_of_cell? w _ hx355_0)).trans hx355_0
          replace hx355_1 := (HB.out.cell (World.block_lt_of_cell? w _ hx355_1)).trans hx355_1
          replace hx355_2 := (HB.out.cell (World.block_lt_of_cell? w _ hx355_2)).trans hx355_2
          replace hx355_3 := (HB.out.cell (World.block_lt_of_cell? w _ hx355_3)).trans hx355_3
          replace hx355_0 := (cell_far (p := ⟨gb354, 0, none⟩) (by first | (rw [add_block]; exact hn355_0) | (show (Addr.add _ _).block ≠ _; rw [add_block]; exact hn355_0) | exact hn355_0) (.string ((rd_T27 l0 x9_1).f0))).trans hx355_0
          replace hx355_1 := (cell_far (p := ⟨gb354, 0, none⟩) (by first | (rw [add_block]; exact hn355_0) | (show (Addr.add _ _).block ≠ _; rw [add_block]; exact hn355_0) | exact hn355_0) (.string ((rd_T27 l0 x9_1).f0))).trans hx355_1
          replace hx355_2 := (cell_far (p := ⟨gb354, 0, none⟩) (by first | (rw [add_block]; exact hn355_0) | (show (Addr.add _ _).block ≠ _; rw [add_block]; exact hn355_0) | exact hn355_0) (.string ((rd_T27 l0 x9_1).f0))).trans hx355_2
          replace hx355_3 := (cell_far (p := ⟨gb354, 0, none⟩) (by first | (rw [add_block]; exact hn355_0) | (show (Addr.add _ _).block ≠ _; rw [add_block]; exact hn355_0) | exact hn355_0) (.string ((rd_T27 l0 x9_1).f0))).trans hx355_3
          replace hx355_0 := (cell_far (p := ⟨gb354, 1, none⟩) (by first | (rw [add_block]; exact hn355_1) | (show (Addr.add _ _).block ≠ _; rw [add_block]; exact hn355_1) | exact hn355_1) (.int .i64 ((rd_T27 l0 x9_1).f1))).trans hx355_0
          replace hx355_1 := (cell_far (p := ⟨gb354, 1, none⟩) (by first | (rw [add_block]; exact hn355_1) | (show (Addr.add _ _).block ≠ _; rw [add_block]; exact hn355_1) | exact hn355_1) (.int .i64 ((rd_T27 l0 x9_1).f1))).trans hx355_1
          replace hx355_2 := (cell_far (p := ⟨gb354, 1, none⟩) (by first | (rw [add_block]; exact hn355_1) | (show (Addr.add _ _).block ≠ _; rw [add_block]; exact hn355_1) | exact hn355_1) (.int .i64 ((rd_T27 l0 x9_1).f1))).trans hx355_2
          replace hx355_3 := (cell_far (p := ⟨gb354, 1, none⟩) (by first | (rw [add_block]; exact hn355_1) | (show (Addr.add _ _).block ≠ _; rw [add_block]; exact hn355_1) | exact hn355_1) (.int .i64 ((rd_T27 l0 x9_1).f1))).trans hx355_3
          replace hx355_0 := (cell_far (p := ⟨gb354, 2, none⟩) (by first | (rw [add_block]; exact hn355_2) | (show (Addr.add _ _).block ≠ _; rw [add_block]; exact hn355_2) | exact hn355_2) (.int .i64 ((rd_T27 l0 x9_1).f2))).trans hx355_0
          replace hx355_1 := (cell_far (p := ⟨gb354, 2, none⟩) (by first | (rw [add_block]; exact hn355_2) | (show (Addr.add _ _).block ≠ _; rw [add_block]; exact hn355_2) | exact hn355_2) (.int .i64 ((rd_T27 l0 x9_1).f2))).trans hx355_1
          replace hx355_2 := (cell_far (p := ⟨gb354, 2, none⟩) (by first | (rw [add_block]; exact hn355_2) | (show (Addr.add _ _).block ≠ _; rw [add_block]; exact hn355_2) | exact hn355_2) (.int .i64 ((rd_T27 l0 x9_1).f2))).trans hx355_2
          replace hx355_3 := (cell_far (p := ⟨gb354, 2, none⟩) (by first | (rw [add_block]; exact hn355_2) | (show (Addr.add _ _).block ≠ _; rw [add_block]; exact hn355_2) | exact hn355_2) (.int .i64 ((rd_T27 l0 x9_1).f2))).trans hx355_3
          replace hx355_0 := (cell_far (p := ⟨gb354, 3, none⟩) (by first | (rw [add_block]; exact hn355_3) | (show (Addr.add _ _).block ≠ _; rw [add_block]; exact hn355_3) | exact hn355_3) (.string ((rd_T27 l0 x9_1).f3))).trans hx355_0
          replace hx355_1 := (cell_far (p := ⟨gb354, 3, none⟩) (by first | (rw [add_block]; exact hn355_3) | (show (Addr.add _ _).block ≠ _; rw [add_block]; exact hn355_3) | exact hn355_3) (.string ((rd_T27 l0 x9_1).f3))).trans hx355_1
          replace hx355_2 := (cell_far (p := ⟨gb354, 3, none⟩) (by first | (rw [add_block]; exact hn355_3) | (show (Addr.add _ _).block ≠ _; rw [add_block]; exact hn355_3) | exact hn355_3) (.string ((rd_T27 l0 x9_1).f3))).trans hx355_2
          replace hx355_3 := (cell_far (p := ⟨gb354, 3, none⟩) (by first | (rw [add_block]; exact hn355_3) | (show (Addr.add _ _).block ≠ _; rw [add_block]; exact hn355_3) | exact hn355_3) (.string ((rd_T27 l0 x9_1).f3))).trans hx355_3
          (try have hy355_0 := fun (n_ : Nat) => (show ((((((w8.drewN n_).setCell ⟨gb354, 0, none⟩ (.string ((rd_T27 l0 x9_1).f0))).setCell ⟨gb354, 1, none⟩ (.int .i64 ((rd_T27 l0 x9_1).f1))).setCell ⟨gb354, 2, none⟩ (.int .i64 ((rd_T27 l0 x9_1).f2))).setCell ⟨gb354, 3, none⟩ (.string ((rd_T27 l0 x9_1).f3)))).cell? _ = some _ from hx355_0))
          (try have hy355_1 := fun (n_ : Nat) => (show ((((((w8.drewN n_).setCell ⟨gb354, 0, none⟩ (.string ((rd_T27 l0 x9_1).f0))).setCell ⟨gb354, 1, none⟩ (.int .i64 ((rd_T27 l0 x9_1).f1))).setCell ⟨gb354, 2, none⟩ (.int .i64 ((rd_T27 l0 x9_1).f2))).setCell ⟨gb354, 3, none⟩ (.string ((rd_T27 l0 x9_1).f3)))).cell? _ = some _ from hx355_1))
          (try have hy355_2 := fun (n_ : Nat) => (show ((((((w8.drewN n_).setCell ⟨gb354, 0, none⟩ (.string ((rd_T27 l0 x9_1).f0))).setCell ⟨gb354, 1, none⟩ (.int .i64 ((rd_T27 l0 x9_1).f1))).setCell ⟨gb354, 2, none⟩ (.int .i64 ((rd_T27 l0 x9_1).f2))).setCell ⟨gb354, 3, none⟩ (.string ((rd_T27 l0 x9_1).f3)))).cell? _ = some _ from hx355_2))
          (try have hy355_3 := fun (n_ : Nat) => (show ((((((w8.drewN n_).setCell ⟨gb354, 0, none⟩ (.string ((rd_T27 l0 x9_1).f0))).setCell ⟨gb354, 1, none⟩ (.int .i64 ((rd_T27 l0 x9_1).f1))).setCell ⟨gb354, 2, none⟩ (.int .i64 ((rd_T27 l0 x9_1).f2))).setCell ⟨gb354, 3, none⟩ (.string ((rd_T27 l0 x9_1).f3)))).cell? _ = some _ from hx355_3))
          clear hn355_0
          clear hn355_1
          clear hn355_2
          clear hn355_3
          replace p355 := eq_true p355
          replace q355 := eq_true q355
          have hcz14_0 : w8.cell? ⟨gb354, 0, none⟩ = some (.string (⟨#[]⟩ : ByteArray)) := (blk_cell BK354.out 0).trans rfl
          have hcz14_1 : w8.cell? ⟨gb354, 1, none⟩ = some (.int .i64 0) := (blk_cell BK354.out 1).trans rfl
          have hcz14_2 : w8.cell? ⟨gb354, 2, none⟩ = some (.int .i64 0) := (blk_cell BK354.out 2).trans rfl
          have hcz14_3 : w8.cell? ⟨gb354, 3, none⟩ = some (.string (⟨#[]⟩ : ByteArray)) := (blk_cell BK354.out 3).trans rfl
          have hfz14_0 := blk_frozen BK354.out 0
          have hfz14_1 := blk_frozen BK354.out 1
          have hfz14_2 := blk_frozen BK354.out 2
          have hfz14_3 := blk_frozen BK354.out 3
          go_wp2
          repeat (go_quiet (fail); try go_wp2)
          go_meet
          case rel => exact ⟨_, ((((rd_T27 l0 (ji11)).f0).toList != ((rd_T27 l0 x9_1).f0).toList)), (by first | rfl | (simp; done) | (simp only [← hji11] <;> (first | rfl | simp)) | (simp [*]; done)), H', ⟨by have := HK1.out; first | omega | exact Nat.le_refl _⟩, ⟨by (with_reducible repeat (first | apply Kd.R_alloc | apply Kd.R_drewN | apply Kd.R_drew)); exact Kd.R_mono (Kd.R_far (p := ⟨gb354, 3, none⟩) (Kd.R_far (p := ⟨gb354, 2, none⟩) (Kd.R_far (p := ⟨gb354, 1, none⟩) (Kd.R_far (p := ⟨gb354, 0, none⟩) (Kd.R_types HO_3.out BK354.out (by decide)) (fun _ hk => hk.2) (.string ((rd_T27 l0 x9_1).f0))) (fun _ hk => hk.2) (.int .i64 ((rd_T27 l0 x9_1).f1))) (fun _ hk => hk.2) (.int .i64 ((rd_T27 l0 x9_1).f2))) (fun _ hk => hk.2) (.string ((rd_T27 l0 x9_1).f3))) (fun _ hk => trivial)⟩, ⟨by (with_reducible repeat (first | refine blk_drewN ?_ _ | refine blk_drew ?_ | refine blk_alloc ?_ _)); refine blk_put (cs := #[.string ((rd_T27 l0 x9_1).f0), .int .i64 ((rd_T27 l0 x9_1).f1), .int .i64 ((rd_T27 l0 x9_1).f2), .string (⟨#[]⟩ : ByteArray)]) ?_ 3 _ rfl; (with_reducible repeat (first | refine blk_drewN ?_ _ | refine blk_drew ?_ | refine blk_alloc ?_ _)); refine blk_put (cs := #[.string ((rd_T27 l0 x9_1).f0), .int .i64 ((rd_T27 l0 x9_1).f1), .int .i64 0, .string (⟨#[]⟩ : ByteArray)]) ?_ 2 _ rfl; (with_reducible repeat (first | refine blk_drewN ?_ _ | refine blk_drew ?_ | refine blk_alloc ?_ _)); refine blk_put (cs := #[.string ((rd_T27 l0 x9_1).f0), .int .i64 0, .int .i64 0, .string (⟨#[]⟩ : ByteArray)]) ?_ 1 _ rfl; (with_reducible repeat (first | refine blk_drewN ?_ _ | refine blk_drew ?_ | refine blk_alloc ?_ _)); refine blk_put (cs := #[.string (⟨#[]⟩ : ByteArray), .int .i64 0, .int .i64 0, .string (⟨#[]⟩ : ByteArray)]) ?_ 0 _ rfl; (with_reducible repeat (first | refine blk_drewN ?_ _ | refine blk_drew ?_ | refine blk_alloc ?_ _)); exact BK354.out⟩, ⟨by repeat (first | (with_reducible first | exact HB.out | apply below_alloc | apply pw_below_drewN | apply below_drew1 | refine below_set ?_ GE354.out) | exact HB.out)⟩⟩
         ·rw [if_neg c13] at H
          exact absurd H (by simp)
        ·rw [if_neg c12] at H
         exact absurd H (by simp)
      case rest =>
       clear HC7
       try clear c1
       try clear p2
       try clear p3
       try clear q3
       try clear hx3
       try clear c4
       try clear c4b0
       try clear c5
       try clear c5b0
       try clear c6
       try clear c6b0
       try clear p6
       try clear c8
       try clear c10
       try clear c10b0
       try clear c10b1
       try clear c12
       try clear c12b0
       try clear c13
       try clear c13b0
       try clear hcz14_0
       try clear hcz14_1
       try clear hcz14_2
       try clear hcz14_3
       try clear hcz9_0
       try clear hcz9_1
       try clear hcz9_2
       try clear hcz9_3
       try clear hfz14_0
       try clear hfz14_1
       try clear hfz14_2
       try clear hfz14_3
       try clear hfz9_0
       try clear hfz9_1
       try clear hfz9_2
       try clear hfz9_3
       try clear hx353_0
       try clear hx353_1
       try clear hx353_2
       try clear hx353_3
       try clear hx355_0
       try clear hx355_1
       try clear hx355_2
       try clear hx355_3
       try clear p2
       try clear p353
       try clear p355
       try clear q353
       try clear q355
       obtain ⟨kq, x26_6, rfl, HA, HJ6, HO_3, BK354, HB⟩ := hcut
       cases kq with
       | zero => exact absurd HA.out (by simp [impl_tableKeys.j1])
       | succ kj6 =>
        have H := HA.out
        clear HA
        simp only [impl_tableKeys.j1] at H
        by_cases c15 : x26_6 = true
        ·subst c15
         have H1 : (if x3_1.length < 8796093022208 then (impl_tableKeys.l0 kj6 l0 (x3_1 ++ [((rd_T27 l0 x9_1).f0)]) l0 (l0.length : Int) (wrap64 (x9_1 + 1))) else (none)) = some r := by rw [if_pos rfl] at H; exact H
         clear H
         have H := H1
         clear H1
         by_cases c16 : x3_1.length < 8796093022208
         ·rw [if_pos c16] at H
          have LMc16 := Aside0.mk c16
          clear c16
          obtain ⟨y356, hy356⟩ : ∃ y_ : List ByteArray, y_ = (x3_1 ++ [((rd_T27 l0 x9_1).f0)]) := ⟨_, rfl⟩
          replace H : (impl_tableKeys.l0 kj6 l0 y356 l0 (l0.length : Int) (wrap64 (x9_1 + 1))) = some r := by first | (rw [hy356]; with_reducible exact H) | (have H2_ := (Option.bind_some _ _).symm.trans H; rw [hy356]; with_reducible exact H2_) | (have H2_ := (Option.bind_some _ _).symm.trans H; with_reducible exact H2_) | with_reducible exact H | (rw [hy356]; exact H) | exact H
          have Ny356 := Aside0.mk hy356
          clear hy356
          have H' := Aside0.mk H
          clear H
          have hcz17_0 : wc.cell? ⟨gb354, 0, none⟩ = some (.string ((rd_T27 l0 x9_1).f0)) := (blk_cell BK354.out 0).trans rfl
          have hcz17_1 : wc.cell? ⟨gb354, 1, none⟩ = some (.int .i64 ((rd_T27 l0 x9_1).f1)) := (blk_cell BK354.out 1).trans rfl
          have hcz17_2 : wc.cell? ⟨gb354, 2, none⟩ = some (.int .i64 ((rd_T27 l0 x9_1).f2)) := (blk_cell BK354.out 2).trans rfl
          have hcz17_3 : wc.cell? ⟨gb354, 3, none⟩ = some (.string ((rd_T27 l0 x9_1).f3)) := (blk_cell BK354.out 3).trans rfl
          have hfz17_0 := blk_frozen BK354.out 0
          have hfz17_1 := blk_frozen BK354.out 1
          have hfz17_2 := blk_frozen BK354.out 2
          have hfz17_3 := blk_frozen BK354.out 3
          go_wp2_with (first | ((with_reducible refine gate_builtin (b := .append) (xs := #[.tmp 27, .tmp 30]) rfl ?_); at_builtin; refine Kd.R_append Kd.string (w0 := w) w.heap.size rfl (.tmp 27) (.tmp 30) 91 9 (.string ⟨#[]⟩) 16 rfl Try.underlying91 info9 rfl (by decide) (by omega) u3 x3_1 ((rd_T27 l0 x9_1).f0) [.string ((rd_T27 l0 x9_1).f0)] (fun _ => True) (fun _ => False) rfl rfl ?aP (fun _ hk => hk.elim) ?aF ?aO ?aB ?aS ?aL ?_; (case aP => exact rfl); (case aB => exact (by repeat (first | (with_reducible first | exact HB.out | apply below_alloc | apply pw_below_drewN | apply below_drew1 | refine below_set ?_ GE354.out) | exact HB.out))); (case aF => exact (fun _ _ => trivial)); (case aO => exact (by (with_reducible repeat (first | apply Kd.R_alloc | apply Kd.R_drewN | apply Kd.R_drew)); exact HO_3.out)); (case aS => exact (below_size (by repeat (first | (with_reducible first | exact HB.out | apply below_alloc | apply pw_below_drewN | apply below_drew1 | refine below_set ?_ GE354.out) | exact HB.out)))); (case aL => have := LMc16.out; omega); intro v357 w18 ho hb hg hat; rw [← Ny356.out] at ho; have n0_ := Aside0.mk (blk_grown (g := gb354) (o := .cells #[.string ((rd_T27 l0 x9_1).f0), .int .i64 ((rd_T27 l0 x9_1).f1), .int .i64 ((rd_T27 l0 x9_1).f2), .string ((rd_T27 l0 x9_1).f3)] 27 (0, 0)) (by (with_reducible repeat (first | refine blk_drewN ?_ _ | refine blk_drew ?_ | refine blk_alloc ?_ _)); exact BK354.out) hg (Kd.R_ne HO_3.out BK354.out (by decide))); have n1_ := Aside0.mk (hb); have n2_ := Aside0.mk (ho); clear BK354; clear HB; clear HO_3; have BK354 := n0_; have HB := n1_; have HO358 := n2_; clear n0_ n1_ n2_; clear ho hb hg hat))
          repeat (go_quiet (first | ((with_reducible refine gate_builtin (b := .append) (xs := #[.tmp 27, .tmp 30]) rfl ?_); at_builtin; refine Kd.R_append Kd.string (w0 := w) w.heap.size rfl (.tmp 27) (.tmp 30) 91 9 (.string ⟨#[]⟩) 16 rfl Try.underlying91 info9 rfl (by decide) (by omega) u3 x3_1 ((rd_T27 l0 x9_1).f0) [.string ((rd_T27 l0 x9_1).f0)] (fun _ => True) (fun _ => False) rfl rfl ?aP (fun _ hk => hk.elim) ?aF ?aO ?aB ?aS ?aL ?_; (case aP => exact rfl); (case aB => exact (by repeat (first | (with_reducible first | exact HB.out | apply below_alloc | apply pw_below_drewN | apply below_drew1 | refine below_set ?_ GE354.out) | exact HB.out))); (case aF => exact (fun _ _ => trivial)); (case aO => exact (by (with_reducible repeat (first | apply Kd.R_alloc | apply Kd.R_drewN | apply Kd.R_drew)); exact HO_3.out)); (case aS => exact (below_size (by repeat (first | (with_reducible first | exact HB.out | apply below_alloc | apply pw_below_drewN | apply below_drew1 | refine below_set ?_ GE354.out) | exact HB.out)))); (case aL => have := LMc16.out; omega); intro v357 w18 ho hb hg hat; rw [← Ny356.out] at ho; have n0_ := Aside0.mk (blk_grown (g := gb354) (o := .cells #[.string ((rd_T27 l0 x9_1).f0), .int .i64 ((rd_T27 l0 x9_1).f1), .int .i64 ((rd_T27 l0 x9_1).f2), .string ((rd_T27 l0 x9_1).f3)] 27 (0, 0)) (by (with_reducible repeat (first | refine blk_drewN ?_ _ | refine blk_drew ?_ | refine blk_alloc ?_ _)); exact BK354.out) hg (Kd.R_ne HO_3.out BK354.out (by decide))); have n1_ := Aside0.mk (hb); have n2_ := Aside0.mk (ho); clear BK354; clear HB; clear HO_3; have BK354 := n0_; have HB := n1_; have HO358 := n2_; clear n0_ n1_ n2_; clear ho hb hg hat)); try go_wp2_with (first | ((with_reducible refine gate_builtin (b := .append) (xs := #[.tmp 27, .tmp 30]) rfl ?_); at_builtin; refine Kd.R_append Kd.string (w0 := w) w.heap.size rfl (.tmp 27) (.tmp 30) 91 9 (.string ⟨#[]⟩) 16 rfl Try.underlying91 info9 rfl (by decide) (by omega) u3 x3_1 ((rd_T27 l0 x9_1).f0) [.string ((rd_T27 l0 x9_1).f0)] (fun _ => True) (fun _ => False) rfl rfl ?aP (fun _ hk => hk.elim) ?aF ?aO ?aB ?aS ?aL ?_; (case aP => exact rfl); (case aB => exact (by repeat (first | (with_reducible first | exact HB.out | apply below_alloc | apply pw_below_drewN | apply below_drew1 | refine below_set ?_ GE354.out) | exact HB.out))); (case aF => exact (fun _ _ => trivial)); (case aO => exact (by (with_reducible repeat (first | apply Kd.R_alloc | apply Kd.R_drewN | apply Kd.R_drew)); exact HO_3.out)); (case aS => exact (below_size (by repeat (first | (with_reducible first | exact HB.out | apply below_alloc | apply pw_below_drewN | apply below_drew1 | refine below_set ?_ GE354.out) | exact HB.out)))); (case aL => have := LMc16.out; omega); intro v357 w18 ho hb hg hat; rw [← Ny356.out] at ho; have n0_ := Aside0.mk (blk_grown (g := gb354) (o := .cells #[.string ((rd_T27 l0 x9_1).f0), .int .i64 ((rd_T27 l0 x9_1).f1), .int .i64 ((rd_T27 l0 x9_1).f2), .string ((rd_T27 l0 x9_1).f3)] 27 (0, 0)) (by (with_reducible repeat (first | refine blk_drewN ?_ _ | refine blk_drew ?_ | refine blk_alloc ?_ _)); exact BK354.out) hg (Kd.R_ne HO_3.out BK354.out (by decide))); have n1_ := Aside0.mk (hb); have n2_ := Aside0.mk (ho); clear BK354; clear HB; clear HO_3; have BK354 := n0_; have HB := n1_; have HO358 := n2_; clear n0_ n1_ n2_; clear ho hb hg hat)))
          go_roundg kj6
          case measure => have := HK1.out; have := HJ6.out; omega
          case rel => exact ⟨(y356), (wrap64 (x9_1 + 1)), (by first | rfl | (simp; done) | (simp [*]; done)), H', ⟨by have := HK1.out; have := HJ6.out; omega⟩, ⟨by (with_reducible repeat (first | apply Kd.R_alloc | apply Kd.R_drewN | apply Kd.R_drew)); exact HO358.out⟩, ⟨by repeat (first | (with_reducible first | exact HB.out | apply below_alloc | apply pw_below_drewN | apply below_drew1 | refine below_set ?_ GE354.out) | exact HB.out)⟩⟩
         ·rw [if_neg c16] at H
          exact absurd H (by simp)
        ·replace c15 := Bool.eq_false_iff.mpr c15
         subst c15
         have H1 : (impl_tableKeys.l0 kj6 l0 x3_1 l0 (l0.length : Int) (wrap64 (x9_1 + 1))) = some r := by rw [if_neg (show ¬ (false = true) by decide)] at H; exact H
         clear H
         have H := H1
         clear H1
         have H' := Aside0.mk H
         clear H
         go_wp2
         repeat (go_quiet (fail); try go_wp2)
         go_roundg kj6
         case measure => have := HK1.out; have := HJ6.out; omega
         case rel => exact ⟨(x3_1), (wrap64 (x9_1 + 1)), (by first | rfl | (simp; done) | (simp [*]; done)), H', ⟨by have := HK1.out; have := HJ6.out; omega⟩, ⟨by (with_reducible repeat (first | apply Kd.R_alloc | apply Kd.R_drewN | apply Kd.R_drew)); exact HO_3.out⟩, ⟨by repeat (first | (with_reducible first | exact HB.out | apply below_alloc | apply pw_below_drewN | apply below_drew1 | refine below_set ?_ GE354.out) | exact HB.out)⟩⟩
     ·rw [if_neg c6] at H
      exact absurd H (by simp)
    ·rw [if_neg c5] at H
     exact absurd H (by simp)
   ·rw [if_neg c4] at H
    have c4b0 : decide (x9_1 < (l0.length : Int)) = false := decide_eq_false c4
    clear c4
    obtain rfl := Option.some.inj H
    go_wp2
    repeat (go_quiet (fail); try go_wp2)
    go_ret
    exact ⟨_, by first | rfl | (simp [errW_none, errW_some] <;> rfl) | (simp [*, errW_none, errW_some] <;> rfl), by (with_reducible repeat (first | apply Kd.R_alloc | apply Kd.R_drewN | apply Kd.R_drew)); exact HO_3.out, by repeat (first | (with_reducible first | exact HB.out | apply below_alloc | apply pw_below_drewN | apply below_drew1) | exact HB.out)⟩
/-! ### impl_frame: function 83 -/
def impl_frame.f (k : Nat) (a0 : ByteArray) : Option (ByteArray) := (impl_varBytes.f k (a0.size : Int)).bind fun t359 => ((impl_SumOf.f k a0).bind fun t360 => ((impl_lowFirst.f k t360 4).bind fun t361 => (if t359.size + t361.size ≤ 9223372036854775807 then (if t359.size + t361.size + a0.size ≤ 9223372036854775807 then (some ((t359 ++ t361) ++ a0)) else (none)) else (none))))
theorem impl_frame.mono : ∀ a0 k, LeO (impl_frame.f k a0) (impl_frame.f (k + 1) a0) := by
 intro a0 k
 unfold impl_frame.f
 repeat' first
   | (with_reducible exact impl_SumOf.mono _ _)
   | (with_reducible exact impl_lowFirst.mono _ _ _)
   | (with_reducible exact impl_varBytes.mono _ _)
   | (with_reducible exact LeO.refl _)
   | (with_reducible exact LeO.none _)
   | (with_reducible refine LeO.ite ?_ ?_)
   | (with_reducible refine LeO.bind ?_ (fun _ => ?_))
   | exact impl_SumOf.mono _ _
   | exact impl_lowFirst.mono _ _ _
   | exact impl_varBytes.mono _ _
   | exact LeO.none _
   | refine LeO.ite ?_ ?_
   | refine LeO.bind ?_ (fun _ => ?_)
set_option maxHeartbeats 8000000 in
set_option maxRecDepth 100000 in
theorem impl_frame.calls (k : Nat) (a0 : ByteArray) (r : ByteArray) (w : World) (h : impl_frame.f k a0 = some r) :
  Calls Try.prog 83 #[.string a0] w fun e w' => e = .returned (.string r) ∧ Below w.heap.size w w' := by
 have HB := Aside0.mk (Below.refl w.heap.size w)
 have H : ((impl_varBytes.f k (a0.size : Int)).bind fun t359 => ((impl_SumOf.f k a0).bind fun t360 => ((impl_lowFirst.f k t360 4).bind fun t361 => (if t359.size + t361.size ≤ 9223372036854775807 then (if t359.size + t361.size + a0.size ≤ 9223372036854775807 then (some ((t359 ++ t361) ++ a0)) else (none)) else (none))))) = some r := h
 clear h
 replace H := Option.bind_eq_some_iff.mp H
 obtain ⟨t359, A20, H⟩ := H
 replace H : ((impl_SumOf.f k a0).bind fun t360 => ((impl_lowFirst.f k t360 4).bind fun t361 => (if t359.size + t361.size ≤ 9223372036854775807 then (if t359.size + t361.size + a0.size ≤ 9223372036854775807 then (some ((t359 ++ t361) ++ a0)) else (none)) else (none)))) = some r := H
 have A2 := Aside0.mk A20
 clear A20
 replace H := Option.bind_eq_some_iff.mp H
 obtain ⟨t360, A30, H⟩ := H
 replace H : ((impl_lowFirst.f k t360 4).bind fun t361 => (if t359.size + t361.size ≤ 9223372036854775807 then (if t359.size + t361.size + a0.size ≤ 9223372036854775807 then (some ((t359 ++ t361) ++ a0)) else (none)) else (none))) = some r := H
 have A3 := Aside0.mk A30
 clear A30
 replace H := Option.bind_eq_some_iff.mp H
 obtain ⟨t361, A40, H⟩ := H
 replace H : (if t359.size + t361.size ≤ 9223372036854775807 then (if t359.size + t361.size + a0.size ≤ 9223372036854775807 then (some ((t359 ++ t361) ++ a0)) else (none)) else (none)) = some r := H
 have A4 := Aside0.mk A40
 clear A40
 by_cases c5 : t359.size + t361.size ≤ 9223372036854775807
 ·rw [if_pos c5] at H
  have c5b0 := eq_true c5
  have c5b1 : decide (t359.size + t361.size ≤ 9223372036854775807) = true := decide_eq_true c5
  try have c5b2 : (9223372036854775807 < t359.size + t361.size) = False := eq_false (Nat.not_lt.2 c5)
  by_cases c6 : t359.size + t361.size + a0.size ≤ 9223372036854775807
  ·rw [if_pos c6] at H
   have c6b0 := eq_true c6
   have c6b1 : decide (t359.size + t361.size + a0.size ≤ 9223372036854775807) = true := decide_eq_true c6
   try have c6b2 : (9223372036854775807 < t359.size + t361.size + a0.size) = False := eq_false (Nat.not_lt.2 c6)
   obtain rfl := Option.some.inj H
   go_enter Try.func83, Try.ntmps83
   go_wp2_with (first | ((with_reducible refine gate_callee (f := 73) rfl ?_); refine goesL_ (some 5) rfl rfl Try.func73 (by kernel_rfl) rfl #[.int .i64 (a0.size : Int)] rfl (by (try simp only [List.map_toArray, List.map_cons, List.map_nil]); first | done | rfl | (simp only [List.length_drop, List.length_take]; rfl)) ?_; (with_reducible refine (impl_varBytes.calls k (a0.size : Int) t359 _ A2.out).mono ?_); rintro e w7 ⟨rfl, hb⟩; refine ⟨_, rfl, ?_⟩; have n0_ := Aside0.mk (below_step (by repeat (first | (with_reducible first | exact HB.out | apply below_alloc | apply pw_below_drewN | apply below_drew1) | exact HB.out)) hb); clear HB; have HB := n0_; clear n0_; (try clear hb); (try clear hb2); (try clear hk); (try clear hi)) | ((with_reducible refine gate_callee (f := 75) rfl ?_); refine goesL_ (some 7) rfl rfl Try.func75 (by kernel_rfl) rfl #[.string a0] rfl (by (try simp only [List.map_toArray, List.map_cons, List.map_nil]); first | done | rfl | (simp only [List.length_drop, List.length_take]; rfl)) ?_; (with_reducible refine (impl_SumOf.calls k a0 t360 _ A3.out).mono ?_); rintro e w8 ⟨rfl, hb⟩; refine ⟨_, rfl, ?_⟩; have n0_ := Aside0.mk (below_step (by repeat (first | (with_reducible first | exact HB.out | apply below_alloc | apply pw_below_drewN | apply below_drew1) | exact HB.out)) hb); clear HB; have HB := n0_; clear n0_; (try clear hb); (try clear hb2); (try clear hk); (try clear hi)) | ((with_reducible refine gate_callee (f := 74) rfl ?_); refine goesL_ (some 8) rfl rfl Try.func74 (by kernel_rfl) rfl #[.int .u32 t360, .int .i64 4] rfl (by (try simp only [List.map_toArray, List.map_cons, List.map_nil]); first | done | rfl | (simp only [List.length_drop, List.length_take]; rfl)) ?_; (with_reducible refine (impl_lowFirst.calls k t360 4 t361 _ A4.out).mono ?_); rintro e w9 ⟨rfl, hb⟩; refine ⟨_, rfl, ?_⟩; have n0_ := Aside0.mk (below_step (by repeat (first | (with_reducible first | exact HB.out | apply below_alloc | apply pw_below_drewN | apply below_drew1) | exact HB.out)) hb); clear HB; have HB := n0_; clear n0_; (try clear hb); (try clear hb2); (try clear hk); (try clear hi)))
   go_ret
   exact ⟨by first | rfl | (simp [errW_none, errW_some] <;> rfl) | (simp [*, errW_none, errW_some] <;> rfl), by repeat (first | (with_reducible first | exact HB.out | apply below_alloc | apply pw_below_drewN | apply below_drew1) | exact HB.out)⟩
  ·rw [if_neg c6] at H
   exact absurd H (by simp)
 ·rw [if_neg c5] at H
  exact absurd H (by simp)
end Go.Proofs.Ytjacppphgccphaa.MFnExactTableBytes
