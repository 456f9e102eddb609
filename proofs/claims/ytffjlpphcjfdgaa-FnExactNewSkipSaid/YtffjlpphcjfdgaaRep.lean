import Derived.Test.YtffjlpphcjfdgaaShelf
import Derived.Test.YtffjlpphcjfdgaaWMore
import Derived.Laws.CopyOwn
import Derived.Laws.MakeOwn
import Derived.Deep.RegionLaw
import Derived.LoopN
import Derived.WalkKit
import Derived.Below
namespace Go.Proofs.Ytffjlpphcjfdgaa
open Go.RowKit Go.Proofs.YtffjlpphcjfdgaaW.PrintWords
theorem mk5 (w : World) : (Instr.makeSlice 22 (.int .i64 5) (.int .i64 5)).run Try.prog w = .ok (.slice (some ⟨w.heap.size, 0, none⟩) 5 5) (w.alloc (.cells #[.int .i64 0, .int .i64 0, .int .i64 0, .int .i64 0, .int .i64 0] 3)) := by
  have hinfo : (Try.prog.info? 3).map (fun i => (i.zero, i.size, i.bytes)) = some (some (.int .i64 0), 1, 8) := by kernel_rfl
  obtain ⟨i0, hi, hzz⟩ := Option.map_eq_some_iff.1 hinfo
  simp only [Prod.mk.injEq] at hzz
  obtain ⟨hz0, hz1, hz2⟩ := hzz
  have hr := run_make (P := Try.prog) w 22 3 i0 (.int .i64 0) Try.underlying22 hi hz0 .i64 .i64 5 5 (by omega) (by omega) (by rw [hz2]; omega) (by omega)
  rw [hz1, show madeCells (Value.int .i64 0).cells (Int.toNat 5 * 1) = #[.int .i64 0, .int .i64 0, .int .i64 0, .int .i64 0, .int .i64 0] from by kernel_rfl] at hr
  exact hr
theorem rowread {w : World} {g : Nat} {cs : List Value} {u : Value} (hc : w.heap[g]? = some (.cells cs.toArray 3 (0, 0))) (k : Nat) (hk : ∀ j, j < k → cs[j]? = some u) : ∀ j v, (List.replicate k u)[j]? = some v → w.cell? (Addr.add ⟨g, 0, none⟩ j) = some v := by
  intro j v hj
  have hlt : j < k := by
    rcases Nat.lt_or_ge j k with h | h
    · exact h
    · rw [List.getElem?_eq_none (by simpa using h)] at hj; cases hj
  rw [List.getElem?_replicate, if_pos hlt] at hj
  cases hj
  rw [add_plain]
  exact (blk_cell hc j).trans (by simpa using hk j hlt)
theorem one_of_ {w : World} {ad : Addr} {x : Int} {o : Obj} (hx : w.cell? ad = some (.int .i64 x)) : ∀ j v, ([Value.int .i64 x] : List Value)[j]? = some v → (w.alloc o).cell? (ad.add j) = some v := by
  intro j v hj
  have hl := World.block_lt_of_cell? w _ hx
  rcases Nat.eq_zero_or_pos j with h | h
  · subst h
    cases hj
    rw [Addr.add_zero']
    exact (World.cell?_alloc_lt _ _ _ hl).trans hx
  · rw [List.getElem?_eq_none (by simpa using (by omega : 1 ≤ j))] at hj; cases hj
theorem onecell (x : Int) (k : Nat) : ∀ v ∈ List.replicate k (Value.int .i64 x), v.oneCell' = true := by
  intro v hv
  rw [List.eq_of_mem_replicate hv]; rfl
set_option maxHeartbeats 1000000 in
set_option maxRecDepth 100000 in
theorem rep_ (c0 : Nat) (ad : Addr) (x : Int) (w : World) (hx : w.cell? ad = some (.int .i64 x)) :
    Calls Try.prog 9 #[.slice (some ad) 1 c0, .int .i64 5] w fun e w' => e = .returned (.slice (some ⟨w.heap.size, 0, none⟩) 5 5) ∧ w'.heap[w.heap.size]? = some (.cells #[.int .i64 x, .int .i64 x, .int .i64 x, .int .i64 x, .int .i64 x] 3 (0, 0)) ∧ Below w.heap.size w w' := by
  have hmk := mk5
  go_enter Try.func9, Try.ntmps9
  go_wp2_with (first
    | (go_at_call 16; refine (Try.bits_Mul 1 5 (by decide) (by decide) _).mono ?_; rintro e w' ⟨rfl, hw'⟩; rw [hw']; clear hw')
    | (refine wpList_copy_splice (w := w.alloc (.cells #[.int .i64 0, .int .i64 0, .int .i64 0, .int .i64 0, .int .i64 0] 3)) ?c1 (.tmp 31) (.tmp 32) 22 22 ?c2 3 Try.underlying22 ?c3 (some ⟨w.heap.size, 0, none⟩) (some ad) 5 5 1 c0 ?c4 ?c5 w.heap.size 0 [.int .i64 0, .int .i64 0, .int .i64 0, .int .i64 0, .int .i64 0] 3 ?c6 [.int .i64 x] ?c7 ?c8 ?c9 ?c10 w.heap.size w ?c11 ?c12 ?_))
  case c1 => rfl
  case c2 => rfl
  case c3 => kernel_rfl
  case c4 => rfl
  case c5 => rfl
  case c6 => exact heap_alloc_new _ _
  case c7 => rfl
  case c9 => simp
  case c8 =>
    exact one_of_ hx
  case c10 =>
    intro v hv
    rw [List.mem_singleton] at hv; subst hv; rfl
  case c11 => exact below_alloc (Below.refl _ _) _
  case c12 => exact Nat.le_refl _
  intro w2 w2g hb2
  go_wp2
  refine wp_loop_rounds 4 ?_
  rw [rounds_succ]
  go_wp2
  have hc2 : w2.drew.heap[w.heap.size]? = some (.cells #[.int .i64 x, .int .i64 0, .int .i64 0, .int .i64 0, .int .i64 0] 3 (0, 0)) := w2g
  go_region_law (refine step_copy_splice (w := w2.drew) rfl (.tmp 41) (.tmp 44) 22 22 rfl 3 Try.underlying22 (by kernel_rfl) (some ⟨w.heap.size, 1, none⟩) (some ⟨w.heap.size, 0, none⟩) 4 4 1 5 (by kernel_rfl) (by kernel_rfl) w.heap.size 1 [.int .i64 x, .int .i64 0, .int .i64 0, .int .i64 0, .int .i64 0] 3 hc2 [.int .i64 x] rfl (fun _ => ⟨rfl, _, rfl, rowread hc2 1 (u := .int .i64 x) (by first | simp | decide | (intro j hj; match j, hj with | 0, _ => rfl | 1, _ => rfl))⟩) (by simp) (onecell x 1) w.heap.size w hb2.drew (Nat.le_refl _) ?_; intro w3 w3g hb3)
  go_wp2
  rw [rounds_succ]
  go_wp2
  have hc3 : w3.drew.heap[w.heap.size]? = some (.cells #[.int .i64 x, .int .i64 x, .int .i64 0, .int .i64 0, .int .i64 0] 3 (0, 0)) := w3g
  go_region_law (refine step_copy_splice (w := w3.drew) rfl (.tmp 41) (.tmp 44) 22 22 rfl 3 Try.underlying22 (by kernel_rfl) (some ⟨w.heap.size, 2, none⟩) (some ⟨w.heap.size, 0, none⟩) 3 3 2 5 (by kernel_rfl) (by kernel_rfl) w.heap.size 2 [.int .i64 x, .int .i64 x, .int .i64 0, .int .i64 0, .int .i64 0] 3 hc3 [.int .i64 x, .int .i64 x] rfl (fun _ => ⟨rfl, _, rfl, rowread hc3 2 (u := .int .i64 x) (by first | simp | decide | (intro j hj; match j, hj with | 0, _ => rfl | 1, _ => rfl))⟩) (by simp) (onecell x 2) w.heap.size w hb3.drew (Nat.le_refl _) ?_; intro w4 w4g hb4)
  go_wp2
  rw [rounds_succ]
  go_wp2
  have hc4 : w4.drew.heap[w.heap.size]? = some (.cells #[.int .i64 x, .int .i64 x, .int .i64 x, .int .i64 x, .int .i64 0] 3 (0, 0)) := w4g
  go_region_law (refine step_copy_splice (w := w4.drew) rfl (.tmp 41) (.tmp 44) 22 22 rfl 3 Try.underlying22 (by kernel_rfl) (some ⟨w.heap.size, 4, none⟩) (some ⟨w.heap.size, 0, none⟩) 1 1 4 5 (by kernel_rfl) (by kernel_rfl) w.heap.size 4 [.int .i64 x, .int .i64 x, .int .i64 x, .int .i64 x, .int .i64 0] 3 hc4 [.int .i64 x] rfl (fun _ => ⟨rfl, _, rfl, rowread hc4 1 (u := .int .i64 x) (by first | simp | decide | (intro j hj; match j, hj with | 0, _ => rfl | 1, _ => rfl))⟩) (by simp) (onecell x 1) w.heap.size w hb4.drew (Nat.le_refl _) ?_; intro w5 w5g hb5)
  go_wp2
  rw [rounds_succ]
  go_wp2
  go_ret
  exact ⟨rfl, w5g, hb5⟩
end Go.Proofs.Ytffjlpphcjfdgaa
