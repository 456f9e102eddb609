-- Written by a program of this session out of the translation. Not trusted: Lean checks it.
import Derived.Test.YtocmgmolbfhkaaaDoorMFnExactSafeFilex0
import Derived.Test.YtocmgmolbfhkaaaDoorMFnExactSafeFilex6
import Derived.Test.YtocmgmolbfhkaaaDoorMFnExactSafeFilex7
import Derived.Test.YtocmgmolbfhkaaaDoorMFnExactSafeFilex8
namespace Go.Proofs.YtocmgmolbfhkaaaDoor.MFnExactSafeFile
-- shrunk
-- RD
open Go.Proofs.YtocmgmolbfhkaaaDoor Go.RowKit Go.Proofs.YtocmgmolbfhkaaaDoorW.PrintWords Go.Proofs.YtocmgmolbfhkaaaDoorW.PrintLast Go.Proofs.YtocmgmolbfhkaaaDoorW.PrintMore Go.Proofs.YtocmgmolbfhkaaaDoorX
attribute [local go_sem] max2_int min2_int max_two min_two max_three min_three max_four min_four str_gtr str_leq str_geq cell_twice
set_option linter.unusedVariables false
set_option linter.unusedSimpArgs false
/-! ### impl_GoodDisk: function 11 -/
def impl_GoodDisk.f (k : Nat) (l0_0 : List S49) (l0_1 : List S63) (l0_2 : List S63) (a0_3 : Int) : Option Bool := (slices_ContainsFunc_f33.f k l0_0).bind fun t1 => ((impl_in.f a0_3 0 100000).bind fun t2 => (if (l0_0.length : Int) > 60 then (some false) else (if t1 = true then (some false) else (if t2 = true then ((impl_Disk_namesOk.f k l0_0 l0_1 l0_2 a0_3 l0_1).bind fun t3 => (if t3 = true then ((impl_Disk_namesOk.f k l0_0 l0_1 l0_2 a0_3 l0_2).bind fun t4 => (if t4 = true then ((impl_Disk_used.f l0_0 l0_1 l0_2 a0_3).bind fun t5 => (some (decide (t5 ≤ a0_3)))) else (some false))) else (some false))) else (some false)))))
theorem impl_GoodDisk.mono : ∀ a0 a1 a2 a3 k, LeO (impl_GoodDisk.f k a0 a1 a2 a3) (impl_GoodDisk.f (k + 1) a0 a1 a2 a3) := by
  intro a0 a1 a2 a3 k
  unfold impl_GoodDisk.f
  repeat' first
      | (with_reducible exact slices_ContainsFunc_f33.mono _ _)
      | (with_reducible exact impl_Disk_namesOk.mono _ _ _ _ _ _)
      | (with_reducible exact LeO.refl _)
      | (with_reducible exact LeO.none _)
      | (with_reducible refine LeO.ite ?_ ?_)
      | (with_reducible refine LeO.bind ?_ (fun _ => ?_))
set_option maxHeartbeats 4000000 in
set_option maxRecDepth 100000 in
theorem impl_GoodDisk.calls (k : Nat) (A0_0 : Option Addr) (c0_0 : Nat) (l0_0 : List S49) (A0_1 : Option Addr) (c0_1 : Nat) (l0_1 : List S63) (A0_2 : Option Addr) (c0_2 : Nat) (l0_2 : List S63) (a0_3 : Int) (r : Bool) (w : World) (hr0_0 : Kd.C k49 w A0_0 l0_0.length l0_0) (hc0_0 : l0_0.length ≤ c0_0) (hr0_1 : Kd.C k63 w A0_1 l0_1.length l0_1) (hc0_1 : l0_1.length ≤ c0_1) (hr0_2 : Kd.C k63 w A0_2 l0_2.length l0_2) (hc0_2 : l0_2.length ≤ c0_2) (h : impl_GoodDisk.f k l0_0 l0_1 l0_2 a0_3 = some r) :
    Calls Tryd.prog 11 #[.agg #[.slice A0_0 l0_0.length c0_0, .slice A0_1 l0_1.length c0_1, .slice A0_2 l0_2.length c0_2, .int .i64 a0_3]] w fun e w' => e = .returned (.bool r) ∧ Below w.heap.size w w' := by
 have hu31 := Tryd.underlying31
 have HR0 := Aside0.mk hr0_0
 have HR1 := Aside0.mk hr0_1
 have HR2 := Aside0.mk hr0_2
 have HC0 := Aside0.mk hc0_0
 have HC1 := Aside0.mk hc0_1
 have HC2 := Aside0.mk hc0_2
 clear hr0_0 hr0_1 hr0_2 hc0_0 hc0_1 hc0_2
 unfold impl_GoodDisk.f at h
 obtain ⟨t1, A1, h⟩ := Option.bind_eq_some_iff.mp h
 have HT1 := Aside0.mk A1
 clear A1
 obtain ⟨t2, A2, h⟩ := Option.bind_eq_some_iff.mp h
 have HT2 := Aside0.mk A2
 clear A2
 by_cases c60 : (l0_0.length : Int) > 60
 · rw [if_pos c60] at h
   obtain rfl := Option.some.inj h
   clear h
   have c1 : decide ((60 : Int) < (l0_0.length : Int)) = true := decide_eq_true c60
   have c2 : decide (60 < l0_0.length) = true := decide_eq_true (by omega)
   clear c60
   go_enter Tryd.func11, Tryd.ntmps11
   go_wp2_with (first | (go_at_call 32; refine (slices_ContainsFunc_f33.calls k A0_0 c0_0 l0_0 _ _ (Kd.C_below HR0.out (below_alloc (Below.refl _ _) _)) HC0.out HT1.out).mono ?_; rintro e w2 ⟨rfl, hb2⟩; have hG2 := blk_below (heap_alloc_new w (.cells #[.slice A0_0 l0_0.length c0_0, .slice A0_1 l0_1.length c0_1, .slice A0_2 l0_2.length c0_2, .int .i64 a0_3] 31)) hb2; have hc0 : w2.cell? ⟨w.heap.size, 0, none⟩ = some (.slice A0_0 l0_0.length c0_0) := (blk_cell hG2 0).trans rfl; have hc3 : w2.cell? ⟨w.heap.size, 3, none⟩ = some (.int .i64 a0_3) := (blk_cell hG2 3).trans rfl) | (go_at_call 34; refine (impl_in.calls a0_3 0 100000 _ _ HT2.out).mono ?_; rintro e w3 ⟨rfl, ⟨nd, rfl⟩⟩))
   go_ret
   exact ⟨by first | rfl | (simp; done), below_step (below_alloc (Below.refl _ _) _) hb2⟩
 rw [if_neg c60] at h
 have c1 : decide ((60 : Int) < (l0_0.length : Int)) = false := decide_eq_false c60
 have c2 : decide (60 < l0_0.length) = false := decide_eq_false (by omega)
 clear c60
 cases t1 with
 | true =>
  obtain rfl := Option.some.inj h
  clear h
  go_enter Tryd.func11, Tryd.ntmps11
  go_wp2_with (first | (go_at_call 32; refine (slices_ContainsFunc_f33.calls k A0_0 c0_0 l0_0 _ _ (Kd.C_below HR0.out (below_alloc (Below.refl _ _) _)) HC0.out HT1.out).mono ?_; rintro e w2 ⟨rfl, hb2⟩; have hG2 := blk_below (heap_alloc_new w (.cells #[.slice A0_0 l0_0.length c0_0, .slice A0_1 l0_1.length c0_1, .slice A0_2 l0_2.length c0_2, .int .i64 a0_3] 31)) hb2; have hc0 : w2.cell? ⟨w.heap.size, 0, none⟩ = some (.slice A0_0 l0_0.length c0_0) := (blk_cell hG2 0).trans rfl; have hc3 : w2.cell? ⟨w.heap.size, 3, none⟩ = some (.int .i64 a0_3) := (blk_cell hG2 3).trans rfl) | (go_at_call 34; refine (impl_in.calls a0_3 0 100000 _ _ HT2.out).mono ?_; rintro e w3 ⟨rfl, ⟨nd, rfl⟩⟩))
  go_ret
  exact ⟨by first | rfl | (simp; done), below_step (below_alloc (Below.refl _ _) _) hb2⟩
 | false =>
  cases t2 with
  | false =>
   obtain rfl := Option.some.inj h
   clear h
   go_enter Tryd.func11, Tryd.ntmps11
   go_wp2_with (first | (go_at_call 32; refine (slices_ContainsFunc_f33.calls k A0_0 c0_0 l0_0 _ _ (Kd.C_below HR0.out (below_alloc (Below.refl _ _) _)) HC0.out HT1.out).mono ?_; rintro e w2 ⟨rfl, hb2⟩; have hG2 := blk_below (heap_alloc_new w (.cells #[.slice A0_0 l0_0.length c0_0, .slice A0_1 l0_1.length c0_1, .slice A0_2 l0_2.length c0_2, .int .i64 a0_3] 31)) hb2; have hc0 : w2.cell? ⟨w.heap.size, 0, none⟩ = some (.slice A0_0 l0_0.length c0_0) := (blk_cell hG2 0).trans rfl; have hc3 : w2.cell? ⟨w.heap.size, 3, none⟩ = some (.int .i64 a0_3) := (blk_cell hG2 3).trans rfl) | (go_at_call 34; refine (impl_in.calls a0_3 0 100000 _ _ HT2.out).mono ?_; rintro e w3 ⟨rfl, ⟨nd, rfl⟩⟩))
   go_ret
   exact ⟨by first | rfl | (simp; done), pw_below_drewN (below_step (below_alloc (Below.refl _ _) _) hb2) nd⟩
  | true =>
   have H := Aside0.mk (show ((impl_Disk_namesOk.f k l0_0 l0_1 l0_2 a0_3 l0_1).bind fun t3 => (if t3 = true then ((impl_Disk_namesOk.f k l0_0 l0_1 l0_2 a0_3 l0_2).bind fun t4 => (if t4 = true then ((impl_Disk_used.f l0_0 l0_1 l0_2 a0_3).bind fun t5 => (some (decide (t5 ≤ a0_3)))) else (some false))) else (some false))) = some r from h)
   clear h
   go_enter Tryd.func11, Tryd.ntmps11
   go_wp2_with (first | (go_at_call 32; refine (slices_ContainsFunc_f33.calls k A0_0 c0_0 l0_0 _ _ (Kd.C_below HR0.out (below_alloc (Below.refl _ _) _)) HC0.out HT1.out).mono ?_; rintro e w2 ⟨rfl, hb2⟩; have hG2 := blk_below (heap_alloc_new w (.cells #[.slice A0_0 l0_0.length c0_0, .slice A0_1 l0_1.length c0_1, .slice A0_2 l0_2.length c0_2, .int .i64 a0_3] 31)) hb2; have hc0 : w2.cell? ⟨w.heap.size, 0, none⟩ = some (.slice A0_0 l0_0.length c0_0) := (blk_cell hG2 0).trans rfl; have hc3 : w2.cell? ⟨w.heap.size, 3, none⟩ = some (.int .i64 a0_3) := (blk_cell hG2 3).trans rfl) | (go_at_call 34; refine (impl_in.calls a0_3 0 100000 _ _ HT2.out).mono ?_; rintro e w3 ⟨rfl, ⟨nd, rfl⟩⟩))
   have HB4 := Aside0.mk (pw_below_drewN (below_step (below_alloc (Below.refl _ _) _) hb2) nd)
   have HG4 := Aside0.mk (blk_drewN hG2 nd)
   clear hc0 hc3 hG2 hb2
   generalize World.drewN _ nd = w4 at HB4 HG4 ⊢
   have h := H.out
   clear H
   obtain ⟨t3, A3, h⟩ := Option.bind_eq_some_iff.mp h
   have HT3 := Aside0.mk A3
   clear A3
   cases t3 with
   | false =>
    obtain rfl := Option.some.inj (show some false = some r from h)
    clear h
    refine start_ (n := 15) (S := fun W => W.cell? ⟨w.heap.size, 1, none⟩ = some (.slice A0_1 l0_1.length c0_1) ∧ W.cell? ⟨w.heap.size, 2, none⟩ = some (.slice A0_2 l0_2.length c0_2) ∧ W.cell? ⟨w.heap.size, 3, none⟩ = some (.int .i64 a0_3)) (ds := []) #[false, false, false, false, false, false, false, false, false, false, false, false, false, false, false] (by kernel_rfl) rfl rfl ⟨(blk_cell (blk_drew HG4.out) 1).trans rfl, (blk_cell (blk_drew HG4.out) 2).trans rfl, (blk_cell (blk_drew HG4.out) 3).trans rfl⟩ (fun hHeld => ?_)
    have HG5 := Aside0.mk (blk_drew HG4.out)
    have HB5 := Aside0.mk (below_drew1 HB4.out)
    clear HG4 HB4
    generalize w4.drew = w5 at HG5 HB5 hHeld ⊢
    refine pure_ (i := 0) (N := some 20) (v := ?_) (a' := ?_) #[true, false, false, false, false, false, false, false, false, false, false, false, false, false, false] rfl rfl (by kernel_rfl) (fun _ _ _ h => h) (Or.inl ⟨by rfl, ?_⟩) ?_ ?_
    rotate_left
    · intro w'
      go_simp
      with_reducible rfl
    rotate_left
    · simp only [Act.put, List.setIfInBounds_toArray, List.set_cons_zero, List.set_cons_succ, i64_w, i32_w]
      rfl
    refine take_ (i := 1) (N := some 21) (v := ?_) (a' := ?_) #[true, true, false, false, false, false, false, false, false, false, false, false, false, false, false] rfl rfl (by kernel_rfl) (fun _ _ _ h => h) (Or.inl ⟨by rfl, ?_⟩) hHeld ?_ ?_
    rotate_left
    · rintro w' ⟨s1, s2, s3⟩
      go_simp
      with_reducible rfl
    rotate_left
    · simp only [Act.put, List.setIfInBounds_toArray, List.set_cons_zero, List.set_cons_succ, i64_w, i32_w]
      rfl
    refine one_ (i := 2) (N := some 22) #[true, true, true, false, false, false, false, false, false, false, false, false, false, false, false] rfl rfl (by kernel_rfl) (by decide) (fun K hK => ?_)
    refine goes_ Tryd.func35 (by kernel_rfl) rfl #[.pointer (some ⟨w.heap.size, 0, none⟩), .slice A0_1 l0_1.length c0_1] (by rfl) rfl rfl (by (try simp only [List.map_toArray, List.map_cons, List.map_nil]); first | done | rfl) ?_
    refine (impl_Disk_namesOk.calls k w.heap.size l0_0 l0_1 l0_2 a0_3 A0_1 c0_1 l0_1 false w _ (⟨A0_0, c0_0, A0_1, c0_1, A0_2, c0_2, HG5.out, Nat.le_refl _, HR0.out, HC0.out, HR1.out, HC1.out, HR2.out, HC2.out⟩) HB5.out (Kd.C_foot_came (show Kd.Heap k63 from Kd.heap_iso _ (Kd.heap_pair Kd.heap_string (Kd.heap_int .i64))) HR1.out HB5.out (Nat.le_refl _)) HC1.out HT3.out).mono ?_
    rintro e w6 ⟨rfl, hi, hb, hk⟩
    refine ⟨_, rfl, ?_⟩
    have HG6 := Aside0.mk (blk_below HG5.out hk)
    have HB6 := Aside0.mk (below_step HB5.out hk)
    clear HG5 HB5 hk hi hb
    refine hK.out _ _ ⟨(blk_cell HG6.out 1).trans rfl, (blk_cell HG6.out 2).trans rfl, (blk_cell HG6.out 3).trans rfl⟩ (fun hHeld => ?_)
    clear hK K
    refine norm_ (a' := ?_) ?_ ?_
    rotate_left
    · show Act.put _ (some 22) _ = _
      simp only [Act.put, List.setIfInBounds_toArray, List.set_cons_zero, List.set_cons_succ, i64_w, i32_w]
      rfl
    refine pure_ (i := 3) (N := some 23) (v := ?_) (a' := ?_) #[true, true, true, true, false, false, false, false, false, false, false, false, false, false, false] rfl rfl (by kernel_rfl) (fun _ _ _ h => h) (Or.inl ⟨by rfl, ?_⟩) ?_ ?_
    rotate_left
    · intro w'
      go_simp
      with_reducible rfl
    rotate_left
    · simp only [Act.put, List.setIfInBounds_toArray, List.set_cons_zero, List.set_cons_succ, i64_w, i32_w]
      rfl
    refine pure_ (i := 4) (N := some 24) (v := undef) (a' := ?_) #[true, true, true, true, true, false, false, false, false, false, false, false, false, false, false] rfl rfl (by kernel_rfl) (fun _ _ _ h => h) (Or.inr ⟨by rfl, rfl⟩) ?_ ?_
    rotate_left
    · simp only [Act.put, List.setIfInBounds_toArray, List.set_cons_zero, List.set_cons_succ, i64_w, i32_w]
      rfl
    refine pure_ (i := 5) (N := some 25) (v := undef) (a' := ?_) #[true, true, true, true, true, true, false, false, false, false, false, false, false, false, false] rfl rfl (by kernel_rfl) (fun _ _ _ h => h) (Or.inr ⟨by rfl, rfl⟩) ?_ ?_
    rotate_left
    · simp only [Act.put, List.setIfInBounds_toArray, List.set_cons_zero, List.set_cons_succ, i64_w, i32_w]
      rfl
    refine pure_ (i := 6) (N := some 26) (v := undef) (a' := ?_) #[true, true, true, true, true, true, true, false, false, false, false, false, false, false, false] rfl rfl (by kernel_rfl) (fun _ _ _ h => h) (Or.inr ⟨by rfl, rfl⟩) ?_ ?_
    rotate_left
    · simp only [Act.put, List.setIfInBounds_toArray, List.set_cons_zero, List.set_cons_succ, i64_w, i32_w]
      rfl
    refine pure_ (i := 7) (N := some 27) (v := ?_) (a' := ?_) #[true, true, true, true, true, true, true, true, false, false, false, false, false, false, false] rfl rfl (by kernel_rfl) (fun _ _ _ h => h) (Or.inl ⟨by rfl, ?_⟩) ?_ ?_
    rotate_left
    · intro w'
      go_simp
      with_reducible rfl
    rotate_left
    · simp only [Act.put, List.setIfInBounds_toArray, List.set_cons_zero, List.set_cons_succ, i64_w, i32_w]
      rfl
    refine pure_ (i := 8) (N := some 28) (v := ?_) (a' := ?_) #[true, true, true, true, true, true, true, true, true, false, false, false, false, false, false] rfl rfl (by kernel_rfl) (fun _ _ _ h => h) (Or.inl ⟨by rfl, ?_⟩) ?_ ?_
    rotate_left
    · intro w'
      go_simp
      with_reducible rfl
    rotate_left
    · simp only [Act.put, List.setIfInBounds_toArray, List.set_cons_zero, List.set_cons_succ, i64_w, i32_w]
      rfl
    refine pure_ (i := 9) (N := some 29) (v := undef) (a' := ?_) #[true, true, true, true, true, true, true, true, true, true, false, false, false, false, false] rfl rfl (by kernel_rfl) (fun _ _ _ h => h) (Or.inr ⟨by rfl, rfl⟩) ?_ ?_
    rotate_left
    · simp only [Act.put, List.setIfInBounds_toArray, List.set_cons_zero, List.set_cons_succ, i64_w, i32_w]
      rfl
    refine pure_ (i := 10) (N := some 30) (v := undef) (a' := ?_) #[true, true, true, true, true, true, true, true, true, true, true, false, false, false, false] rfl rfl (by kernel_rfl) (fun _ _ _ h => h) (Or.inr ⟨by rfl, rfl⟩) ?_ ?_
    rotate_left
    · simp only [Act.put, List.setIfInBounds_toArray, List.set_cons_zero, List.set_cons_succ, i64_w, i32_w]
      rfl
    refine pure_ (i := 11) (N := some 31) (v := undef) (a' := ?_) #[true, true, true, true, true, true, true, true, true, true, true, true, false, false, false] rfl rfl (by kernel_rfl) (fun _ _ _ h => h) (Or.inr ⟨by rfl, rfl⟩) ?_ ?_
    rotate_left
    · simp only [Act.put, List.setIfInBounds_toArray, List.set_cons_zero, List.set_cons_succ, i64_w, i32_w]
      rfl
    refine pure_ (i := 12) (N := some 32) (v := undef) (a' := ?_) #[true, true, true, true, true, true, true, true, true, true, true, true, true, false, false] rfl rfl (by kernel_rfl) (fun _ _ _ h => h) (Or.inr ⟨by rfl, rfl⟩) ?_ ?_
    rotate_left
    · simp only [Act.put, List.setIfInBounds_toArray, List.set_cons_zero, List.set_cons_succ, i64_w, i32_w]
      rfl
    refine pure_ (i := 13) (N := some 33) (v := ?_) (a' := ?_) #[true, true, true, true, true, true, true, true, true, true, true, true, true, true, false] rfl rfl (by kernel_rfl) (fun _ _ _ h => h) (Or.inl ⟨by rfl, ?_⟩) ?_ ?_
    rotate_left
    · intro w'
      go_simp
      with_reducible rfl
    rotate_left
    · simp only [Act.put, List.setIfInBounds_toArray, List.set_cons_zero, List.set_cons_succ, i64_w, i32_w]
      rfl
    refine pure_ (i := 14) (N := some 2) (v := ?_) (a' := ?_) #[true, true, true, true, true, true, true, true, true, true, true, true, true, true, true] rfl rfl (by kernel_rfl) (fun _ _ _ h => h) (Or.inl ⟨by rfl, ?_⟩) ?_ ?_
    rotate_left
    · intro w'
      go_simp
      with_reducible rfl
    rotate_left
    · simp only [Act.put, List.setIfInBounds_toArray, List.set_cons_zero, List.set_cons_succ, i64_w, i32_w]
      rfl
    refine done_ (by kernel_rfl) ?_
    go_wp2
    go_ret
    exact ⟨by first | rfl | (simp; done), HB6.out⟩
   | true =>
    replace h : ((impl_Disk_namesOk.f k l0_0 l0_1 l0_2 a0_3 l0_2).bind fun t4 => (if t4 = true then ((impl_Disk_used.f l0_0 l0_1 l0_2 a0_3).bind fun t5 => (some (decide (t5 ≤ a0_3)))) else (some false))) = some r := h
    obtain ⟨t4, A4, h⟩ := Option.bind_eq_some_iff.mp h
    have HT4 := Aside0.mk A4
    clear A4
    cases t4 with
    | false =>
     obtain rfl := Option.some.inj (show some false = some r from h)
     clear h
     refine start_ (n := 15) (S := fun W => W.cell? ⟨w.heap.size, 1, none⟩ = some (.slice A0_1 l0_1.length c0_1) ∧ W.cell? ⟨w.heap.size, 2, none⟩ = some (.slice A0_2 l0_2.length c0_2) ∧ W.cell? ⟨w.heap.size, 3, none⟩ = some (.int .i64 a0_3)) (ds := []) #[false, false, false, false, false, false, false, false, false, false, false, false, false, false, false] (by kernel_rfl) rfl rfl ⟨(blk_cell (blk_drew HG4.out) 1).trans rfl, (blk_cell (blk_drew HG4.out) 2).trans rfl, (blk_cell (blk_drew HG4.out) 3).trans rfl⟩ (fun hHeld => ?_)
     have HG5 := Aside0.mk (blk_drew HG4.out)
     have HB5 := Aside0.mk (below_drew1 HB4.out)
     clear HG4 HB4
     generalize w4.drew = w5 at HG5 HB5 hHeld ⊢
     refine pure_ (i := 0) (N := some 20) (v := ?_) (a' := ?_) #[true, false, false, false, false, false, false, false, false, false, false, false, false, false, false] rfl rfl (by kernel_rfl) (fun _ _ _ h => h) (Or.inl ⟨by rfl, ?_⟩) ?_ ?_
     rotate_left
     · intro w'
       go_simp
       with_reducible rfl
     rotate_left
     · simp only [Act.put, List.setIfInBounds_toArray, List.set_cons_zero, List.set_cons_succ, i64_w, i32_w]
       rfl
     refine take_ (i := 1) (N := some 21) (v := ?_) (a' := ?_) #[true, true, false, false, false, false, false, false, false, false, false, false, false, false, false] rfl rfl (by kernel_rfl) (fun _ _ _ h => h) (Or.inl ⟨by rfl, ?_⟩) hHeld ?_ ?_
     rotate_left
     · rintro w' ⟨s1, s2, s3⟩
       go_simp
       with_reducible rfl
     rotate_left
     · simp only [Act.put, List.setIfInBounds_toArray, List.set_cons_zero, List.set_cons_succ, i64_w, i32_w]
       rfl
     refine one_ (i := 2) (N := some 22) #[true, true, true, false, false, false, false, false, false, false, false, false, false, false, false] rfl rfl (by kernel_rfl) (by decide) (fun K hK => ?_)
     refine goes_ Tryd.func35 (by kernel_rfl) rfl #[.pointer (some ⟨w.heap.size, 0, none⟩), .slice A0_1 l0_1.length c0_1] (by rfl) rfl rfl (by (try simp only [List.map_toArray, List.map_cons, List.map_nil]); first | done | rfl) ?_
     refine (impl_Disk_namesOk.calls k w.heap.size l0_0 l0_1 l0_2 a0_3 A0_1 c0_1 l0_1 true w _ (⟨A0_0, c0_0, A0_1, c0_1, A0_2, c0_2, HG5.out, Nat.le_refl _, HR0.out, HC0.out, HR1.out, HC1.out, HR2.out, HC2.out⟩) HB5.out (Kd.C_foot_came (show Kd.Heap k63 from Kd.heap_iso _ (Kd.heap_pair Kd.heap_string (Kd.heap_int .i64))) HR1.out HB5.out (Nat.le_refl _)) HC1.out HT3.out).mono ?_
     rintro e w6 ⟨rfl, hi, hb, hk⟩
     refine ⟨_, rfl, ?_⟩
     have HG6 := Aside0.mk (blk_below HG5.out hk)
     have HB6 := Aside0.mk (below_step HB5.out hk)
     clear HG5 HB5 hk hi hb
     refine hK.out _ _ ⟨(blk_cell HG6.out 1).trans rfl, (blk_cell HG6.out 2).trans rfl, (blk_cell HG6.out 3).trans rfl⟩ (fun hHeld => ?_)
     clear hK K
     refine norm_ (a' := ?_) ?_ ?_
     rotate_left
     · show Act.put _ (some 22) _ = _
       simp only [Act.put, List.setIfInBounds_toArray, List.set_cons_zero, List.set_cons_succ, i64_w, i32_w]
       rfl
     refine pure_ (i := 3) (N := some 23) (v := ?_) (a' := ?_) #[true, true, true, true, false, false, false, false, false, false, false, false, false, false, false] rfl rfl (by kernel_rfl) (fun _ _ _ h => h) (Or.inl ⟨by rfl, ?_⟩) ?_ ?_
     rotate_left
     · intro w'
       go_simp
       with_reducible rfl
     rotate_left
     · simp only [Act.put, List.setIfInBounds_toArray, List.set_cons_zero, List.set_cons_succ, i64_w, i32_w]
       rfl
     refine pure_ (i := 4) (N := some 24) (v := ?_) (a' := ?_) #[true, true, true, true, true, false, false, false, false, false, false, false, false, false, false] rfl rfl (by kernel_rfl) (fun _ _ _ h => h) (Or.inl ⟨by rfl, ?_⟩) ?_ ?_
     rotate_left
     · intro w'
       go_simp
       with_reducible rfl
     rotate_left
     · simp only [Act.put, List.setIfInBounds_toArray, List.set_cons_zero, List.set_cons_succ, i64_w, i32_w]
       rfl
     refine take_ (i := 5) (N := some 25) (v := ?_) (a' := ?_) #[true, true, true, true, true, true, false, false, false, false, false, false, false, false, false] rfl rfl (by kernel_rfl) (fun _ _ _ h => h) (Or.inl ⟨by rfl, ?_⟩) hHeld ?_ ?_
     rotate_left
     · rintro w' ⟨s1, s2, s3⟩
       go_simp
       with_reducible rfl
     rotate_left
     · simp only [Act.put, List.setIfInBounds_toArray, List.set_cons_zero, List.set_cons_succ, i64_w, i32_w]
       rfl
     refine one_ (i := 6) (N := some 26) #[true, true, true, true, true, true, true, false, false, false, false, false, false, false, false] rfl rfl (by kernel_rfl) (by decide) (fun K hK => ?_)
     refine goes_ Tryd.func35 (by kernel_rfl) rfl #[.pointer (some ⟨w.heap.size, 0, none⟩), .slice A0_2 l0_2.length c0_2] (by rfl) rfl rfl (by (try simp only [List.map_toArray, List.map_cons, List.map_nil]); first | done | rfl) ?_
     refine (impl_Disk_namesOk.calls k w.heap.size l0_0 l0_1 l0_2 a0_3 A0_2 c0_2 l0_2 false w _ (⟨A0_0, c0_0, A0_1, c0_1, A0_2, c0_2, HG6.out, Nat.le_refl _, HR0.out, HC0.out, HR1.out, HC1.out, HR2.out, HC2.out⟩) HB6.out (Kd.C_foot_came (show Kd.Heap k63 from Kd.heap_iso _ (Kd.heap_pair Kd.heap_string (Kd.heap_int .i64))) HR2.out HB6.out (Nat.le_refl _)) HC2.out HT4.out).mono ?_
     rintro e w7 ⟨rfl, hi, hb, hk⟩
     refine ⟨_, rfl, ?_⟩
     have HG7 := Aside0.mk (blk_below HG6.out hk)
     have HB7 := Aside0.mk (below_step HB6.out hk)
     clear HG6 HB6 hk hi hb
     refine hK.out _ _ ⟨(blk_cell HG7.out 1).trans rfl, (blk_cell HG7.out 2).trans rfl, (blk_cell HG7.out 3).trans rfl⟩ (fun hHeld => ?_)
     clear hK K
     refine norm_ (a' := ?_) ?_ ?_
     rotate_left
     · show Act.put _ (some 26) _ = _
       simp only [Act.put, List.setIfInBounds_toArray, List.set_cons_zero, List.set_cons_succ, i64_w, i32_w]
       rfl
     refine pure_ (i := 7) (N := some 27) (v := ?_) (a' := ?_) #[true, true, true, true, true, true, true, true, false, false, false, false, false, false, false] rfl rfl (by kernel_rfl) (fun _ _ _ h => h) (Or.inl ⟨by rfl, ?_⟩) ?_ ?_
     rotate_left
     · intro w'
       go_simp
       with_reducible rfl
     rotate_left
     · simp only [Act.put, List.setIfInBounds_toArray, List.set_cons_zero, List.set_cons_succ, i64_w, i32_w]
       rfl
     refine pure_ (i := 8) (N := some 28) (v := ?_) (a' := ?_) #[true, true, true, true, true, true, true, true, true, false, false, false, false, false, false] rfl rfl (by kernel_rfl) (fun _ _ _ h => h) (Or.inl ⟨by rfl, ?_⟩) ?_ ?_
     rotate_left
     · intro w'
       go_simp
       with_reducible rfl
     rotate_left
     · simp only [Act.put, List.setIfInBounds_toArray, List.set_cons_zero, List.set_cons_succ, i64_w, i32_w]
       rfl
     refine pure_ (i := 9) (N := some 29) (v := undef) (a' := ?_) #[true, true, true, true, true, true, true, true, true, true, false, false, false, false, false] rfl rfl (by kernel_rfl) (fun _ _ _ h => h) (Or.inr ⟨by rfl, rfl⟩) ?_ ?_
     rotate_left
     · simp only [Act.put, List.setIfInBounds_toArray, List.set_cons_zero, List.set_cons_succ, i64_w, i32_w]
       rfl
     refine pure_ (i := 10) (N := some 30) (v := undef) (a' := ?_) #[true, true, true, true, true, true, true, true, true, true, true, false, false, false, false] rfl rfl (by kernel_rfl) (fun _ _ _ h => h) (Or.inr ⟨by rfl, rfl⟩) ?_ ?_
     rotate_left
     · simp only [Act.put, List.setIfInBounds_toArray, List.set_cons_zero, List.set_cons_succ, i64_w, i32_w]
       rfl
     refine pure_ (i := 11) (N := some 31) (v := undef) (a' := ?_) #[true, true, true, true, true, true, true, true, true, true, true, true, false, false, false] rfl rfl (by kernel_rfl) (fun _ _ _ h => h) (Or.inr ⟨by rfl, rfl⟩) ?_ ?_
     rotate_left
     · simp only [Act.put, List.setIfInBounds_toArray, List.set_cons_zero, List.set_cons_succ, i64_w, i32_w]
       rfl
     refine pure_ (i := 12) (N := some 32) (v := undef) (a' := ?_) #[true, true, true, true, true, true, true, true, true, true, true, true, true, false, false] rfl rfl (by kernel_rfl) (fun _ _ _ h => h) (Or.inr ⟨by rfl, rfl⟩) ?_ ?_
     rotate_left
     · simp only [Act.put, List.setIfInBounds_toArray, List.set_cons_zero, List.set_cons_succ, i64_w, i32_w]
       rfl
     refine pure_ (i := 13) (N := some 33) (v := ?_) (a' := ?_) #[true, true, true, true, true, true, true, true, true, true, true, true, true, true, false] rfl rfl (by kernel_rfl) (fun _ _ _ h => h) (Or.inl ⟨by rfl, ?_⟩) ?_ ?_
     rotate_left
     · intro w'
       go_simp
       with_reducible rfl
     rotate_left
     · simp only [Act.put, List.setIfInBounds_toArray, List.set_cons_zero, List.set_cons_succ, i64_w, i32_w]
       rfl
     refine pure_ (i := 14) (N := some 2) (v := ?_) (a' := ?_) #[true, true, true, true, true, true, true, true, true, true, true, true, true, true, true] rfl rfl (by kernel_rfl) (fun _ _ _ h => h) (Or.inl ⟨by rfl, ?_⟩) ?_ ?_
     rotate_left
     · intro w'
       go_simp
       with_reducible rfl
     rotate_left
     · simp only [Act.put, List.setIfInBounds_toArray, List.set_cons_zero, List.set_cons_succ, i64_w, i32_w]
       rfl
     refine done_ (by kernel_rfl) ?_
     go_wp2
     go_ret
     exact ⟨by first | rfl | (simp; done), HB7.out⟩
    | true =>
     replace h : ((impl_Disk_used.f l0_0 l0_1 l0_2 a0_3).bind fun t5 => (some (decide (t5 ≤ a0_3)))) = some r := h
     obtain ⟨t5, A5, h⟩ := Option.bind_eq_some_iff.mp h
     have HT5 := Aside0.mk A5
     clear A5
     obtain rfl := Option.some.inj h
     clear h
     refine start_ (n := 15) (S := fun W => W.cell? ⟨w.heap.size, 1, none⟩ = some (.slice A0_1 l0_1.length c0_1) ∧ W.cell? ⟨w.heap.size, 2, none⟩ = some (.slice A0_2 l0_2.length c0_2) ∧ W.cell? ⟨w.heap.size, 3, none⟩ = some (.int .i64 a0_3)) (ds := []) #[false, false, false, false, false, false, false, false, false, false, false, false, false, false, false] (by kernel_rfl) rfl rfl ⟨(blk_cell (blk_drew HG4.out) 1).trans rfl, (blk_cell (blk_drew HG4.out) 2).trans rfl, (blk_cell (blk_drew HG4.out) 3).trans rfl⟩ (fun hHeld => ?_)
     have HG5 := Aside0.mk (blk_drew HG4.out)
     have HB5 := Aside0.mk (below_drew1 HB4.out)
     clear HG4 HB4
     generalize w4.drew = w5 at HG5 HB5 hHeld ⊢
     refine pure_ (i := 0) (N := some 20) (v := ?_) (a' := ?_) #[true, false, false, false, false, false, false, false, false, false, false, false, false, false, false] rfl rfl (by kernel_rfl) (fun _ _ _ h => h) (Or.inl ⟨by rfl, ?_⟩) ?_ ?_
     rotate_left
     · intro w'
       go_simp
       with_reducible rfl
     rotate_left
     · simp only [Act.put, List.setIfInBounds_toArray, List.set_cons_zero, List.set_cons_succ, i64_w, i32_w]
       rfl
     refine take_ (i := 1) (N := some 21) (v := ?_) (a' := ?_) #[true, true, false, false, false, false, false, false, false, false, false, false, false, false, false] rfl rfl (by kernel_rfl) (fun _ _ _ h => h) (Or.inl ⟨by rfl, ?_⟩) hHeld ?_ ?_
     rotate_left
     · rintro w' ⟨s1, s2, s3⟩
       go_simp
       with_reducible rfl
     rotate_left
     · simp only [Act.put, List.setIfInBounds_toArray, List.set_cons_zero, List.set_cons_succ, i64_w, i32_w]
       rfl
     refine one_ (i := 2) (N := some 22) #[true, true, true, false, false, false, false, false, false, false, false, false, false, false, false] rfl rfl (by kernel_rfl) (by decide) (fun K hK => ?_)
     refine goes_ Tryd.func35 (by kernel_rfl) rfl #[.pointer (some ⟨w.heap.size, 0, none⟩), .slice A0_1 l0_1.length c0_1] (by rfl) rfl rfl (by (try simp only [List.map_toArray, List.map_cons, List.map_nil]); first | done | rfl) ?_
     refine (impl_Disk_namesOk.calls k w.heap.size l0_0 l0_1 l0_2 a0_3 A0_1 c0_1 l0_1 true w _ (⟨A0_0, c0_0, A0_1, c0_1, A0_2, c0_2, HG5.out, Nat.le_refl _, HR0.out, HC0.out, HR1.out, HC1.out, HR2.out, HC2.out⟩) HB5.out (Kd.C_foot_came (show Kd.Heap k63 from Kd.heap_iso _ (Kd.heap_pair Kd.heap_string (Kd.heap_int .i64))) HR1.out HB5.out (Nat.le_refl _)) HC1.out HT3.out).mono ?_
     rintro e w6 ⟨rfl, hi, hb, hk⟩
     refine ⟨_, rfl, ?_⟩
     have HG6 := Aside0.mk (blk_below HG5.out hk)
     have HB6 := Aside0.mk (below_step HB5.out hk)
     clear HG5 HB5 hk hi hb
     refine hK.out _ _ ⟨(blk_cell HG6.out 1).trans rfl, (blk_cell HG6.out 2).trans rfl, (blk_cell HG6.out 3).trans rfl⟩ (fun hHeld => ?_)
     clear hK K
     refine norm_ (a' := ?_) ?_ ?_
     rotate_left
     · show Act.put _ (some 22) _ = _
       simp only [Act.put, List.setIfInBounds_toArray, List.set_cons_zero, List.set_cons_succ, i64_w, i32_w]
       rfl
     refine pure_ (i := 3) (N := some 23) (v := ?_) (a' := ?_) #[true, true, true, true, false, false, false, false, false, false, false, false, false, false, false] rfl rfl (by kernel_rfl) (fun _ _ _ h => h) (Or.inl ⟨by rfl, ?_⟩) ?_ ?_
     rotate_left
     · intro w'
       go_simp
       with_reducible rfl
     rotate_left
     · simp only [Act.put, List.setIfInBounds_toArray, List.set_cons_zero, List.set_cons_succ, i64_w, i32_w]
       rfl
     refine pure_ (i := 4) (N := some 24) (v := ?_) (a' := ?_) #[true, true, true, true, true, false, false, false, false, false, false, false, false, false, false] rfl rfl (by kernel_rfl) (fun _ _ _ h => h) (Or.inl ⟨by rfl, ?_⟩) ?_ ?_
     rotate_left
     · intro w'
       go_simp
       with_reducible rfl
     rotate_left
     · simp only [Act.put, List.setIfInBounds_toArray, List.set_cons_zero, List.set_cons_succ, i64_w, i32_w]
       rfl
     refine take_ (i := 5) (N := some 25) (v := ?_) (a' := ?_) #[true, true, true, true, true, true, false, false, false, false, false, false, false, false, false] rfl rfl (by kernel_rfl) (fun _ _ _ h => h) (Or.inl ⟨by rfl, ?_⟩) hHeld ?_ ?_
     rotate_left
     · rintro w' ⟨s1, s2, s3⟩
       go_simp
       with_reducible rfl
     rotate_left
     · simp only [Act.put, List.setIfInBounds_toArray, List.set_cons_zero, List.set_cons_succ, i64_w, i32_w]
       rfl
     refine one_ (i := 6) (N := some 26) #[true, true, true, true, true, true, true, false, false, false, false, false, false, false, false] rfl rfl (by kernel_rfl) (by decide) (fun K hK => ?_)
     refine goes_ Tryd.func35 (by kernel_rfl) rfl #[.pointer (some ⟨w.heap.size, 0, none⟩), .slice A0_2 l0_2.length c0_2] (by rfl) rfl rfl (by (try simp only [List.map_toArray, List.map_cons, List.map_nil]); first | done | rfl) ?_
     refine (impl_Disk_namesOk.calls k w.heap.size l0_0 l0_1 l0_2 a0_3 A0_2 c0_2 l0_2 true w _ (⟨A0_0, c0_0, A0_1, c0_1, A0_2, c0_2, HG6.out, Nat.le_refl _, HR0.out, HC0.out, HR1.out, HC1.out, HR2.out, HC2.out⟩) HB6.out (Kd.C_foot_came (show Kd.Heap k63 from Kd.heap_iso _ (Kd.heap_pair Kd.heap_string (Kd.heap_int .i64))) HR2.out HB6.out (Nat.le_refl _)) HC2.out HT4.out).mono ?_
     rintro e w7 ⟨rfl, hi, hb, hk⟩
     refine ⟨_, rfl, ?_⟩
     have HG7 := Aside0.mk (blk_below HG6.out hk)
     have HB7 := Aside0.mk (below_step HB6.out hk)
     clear HG6 HB6 hk hi hb
     refine hK.out _ _ ⟨(blk_cell HG7.out 1).trans rfl, (blk_cell HG7.out 2).trans rfl, (blk_cell HG7.out 3).trans rfl⟩ (fun hHeld => ?_)
     clear hK K
     refine norm_ (a' := ?_) ?_ ?_
     rotate_left
     · show Act.put _ (some 26) _ = _
       simp only [Act.put, List.setIfInBounds_toArray, List.set_cons_zero, List.set_cons_succ, i64_w, i32_w]
       rfl
     refine pure_ (i := 7) (N := some 27) (v := ?_) (a' := ?_) #[true, true, true, true, true, true, true, true, false, false, false, false, false, false, false] rfl rfl (by kernel_rfl) (fun _ _ _ h => h) (Or.inl ⟨by rfl, ?_⟩) ?_ ?_
     rotate_left
     · intro w'
       go_simp
       with_reducible rfl
     rotate_left
     · simp only [Act.put, List.setIfInBounds_toArray, List.set_cons_zero, List.set_cons_succ, i64_w, i32_w]
       rfl
     refine pure_ (i := 8) (N := some 28) (v := ?_) (a' := ?_) #[true, true, true, true, true, true, true, true, true, false, false, false, false, false, false] rfl rfl (by kernel_rfl) (fun _ _ _ h => h) (Or.inl ⟨by rfl, ?_⟩) ?_ ?_
     rotate_left
     · intro w'
       go_simp
       with_reducible rfl
     rotate_left
     · simp only [Act.put, List.setIfInBounds_toArray, List.set_cons_zero, List.set_cons_succ, i64_w, i32_w]
       rfl
     refine pure_ (i := 10) (N := some 30) (v := ?_) (a' := ?_) #[true, true, true, true, true, true, true, true, true, false, true, false, false, false, false] rfl rfl (by kernel_rfl) (fun _ _ _ h => h) (Or.inl ⟨by rfl, ?_⟩) ?_ ?_
     rotate_left
     · intro w'
       go_simp
       with_reducible rfl
     rotate_left
     · simp only [Act.put, List.setIfInBounds_toArray, List.set_cons_zero, List.set_cons_succ, i64_w, i32_w]
       rfl
     refine take_ (i := 11) (N := some 31) (v := ?_) (a' := ?_) #[true, true, true, true, true, true, true, true, true, false, true, true, false, false, false] rfl rfl (by kernel_rfl) (fun _ _ _ h => h) (Or.inl ⟨by rfl, ?_⟩) hHeld ?_ ?_
     rotate_left
     · rintro w' ⟨s1, s2, s3⟩
       go_simp
       with_reducible rfl
     rotate_left
     · simp only [Act.put, List.setIfInBounds_toArray, List.set_cons_zero, List.set_cons_succ, i64_w, i32_w]
       rfl
     refine one_ (i := 9) (N := some 29) #[true, true, true, true, true, true, true, true, true, true, true, true, false, false, false] rfl rfl (by kernel_rfl) (by decide) (fun K hK => ?_)
     refine goes_ Tryd.func36 (by kernel_rfl) rfl #[.pointer (some ⟨w.heap.size, 0, none⟩)] (by rfl) rfl rfl (by (try simp only [List.map_toArray, List.map_cons, List.map_nil]); first | done | rfl) ?_
     refine (impl_Disk_used.calls w.heap.size l0_0 l0_1 l0_2 a0_3 t5 w _ (⟨A0_0, c0_0, A0_1, c0_1, A0_2, c0_2, HG7.out, Nat.le_refl _, HR0.out, HC0.out, HR1.out, HC1.out, HR2.out, HC2.out⟩) HB7.out HT5.out).mono ?_
     rintro e w8 ⟨rfl, hi, hb, hk⟩
     refine ⟨_, rfl, ?_⟩
     have HG8 := Aside0.mk (blk_below HG7.out hk)
     have HB8 := Aside0.mk (below_step HB7.out hk)
     clear HG7 HB7 hk hi hb
     refine hK.out _ _ ⟨(blk_cell HG8.out 1).trans rfl, (blk_cell HG8.out 2).trans rfl, (blk_cell HG8.out 3).trans rfl⟩ (fun hHeld => ?_)
     clear hK K
     refine norm_ (a' := ?_) ?_ ?_
     rotate_left
     · show Act.put _ (some 29) _ = _
       simp only [Act.put, List.setIfInBounds_toArray, List.set_cons_zero, List.set_cons_succ, i64_w, i32_w]
       rfl
     refine pure_ (i := 12) (N := some 32) (v := ?_) (a' := ?_) #[true, true, true, true, true, true, true, true, true, true, true, true, true, false, false] rfl rfl (by kernel_rfl) (fun _ _ _ h => h) (Or.inl ⟨by rfl, ?_⟩) ?_ ?_
     rotate_left
     · intro w'
       go_simp
       with_reducible rfl
     rotate_left
     · simp only [Act.put, List.setIfInBounds_toArray, List.set_cons_zero, List.set_cons_succ, i64_w, i32_w]
       rfl
     refine pure_ (i := 13) (N := some 33) (v := ?_) (a' := ?_) #[true, true, true, true, true, true, true, true, true, true, true, true, true, true, false] rfl rfl (by kernel_rfl) (fun _ _ _ h => h) (Or.inl ⟨by rfl, ?_⟩) ?_ ?_
     rotate_left
     · intro w'
       go_simp
       with_reducible rfl
     rotate_left
     · simp only [Act.put, List.setIfInBounds_toArray, List.set_cons_zero, List.set_cons_succ, i64_w, i32_w]
       rfl
     refine pure_ (i := 14) (N := some 2) (v := ?_) (a' := ?_) #[true, true, true, true, true, true, true, true, true, true, true, true, true, true, true] rfl rfl (by kernel_rfl) (fun _ _ _ h => h) (Or.inl ⟨by rfl, ?_⟩) ?_ ?_
     rotate_left
     · intro w'
       go_simp
       with_reducible rfl
     rotate_left
     · simp only [Act.put, List.setIfInBounds_toArray, List.set_cons_zero, List.set_cons_succ, i64_w, i32_w]
       rfl
     refine done_ (by kernel_rfl) ?_
     go_wp2
     go_ret
     exact ⟨by first | rfl | (simp; done), HB8.out⟩
/-! ### impl_nameAt: function 40 -/
def impl_nameAt.go (s : ByteArray) : List S63 → Int → Int
  | [], _ => -1
  | x :: l, i => if x.f0.toList = s.toList then i else impl_nameAt.go s l (i + 1)
def impl_nameAt.f (l0 : List S63) (a1 : ByteArray) : Option Int := if l0.length ≤ 140737488351232 then some (impl_nameAt.go a1 l0 0) else none
set_option maxHeartbeats 1000000 in
set_option maxRecDepth 100000 in
theorem impl_nameAt.lit (n : ByteArray) (b : Int) (s : ByteArray) (ad : Addr) (w : World) (r : Bool) (hs : w.cell? ad = some (.string s)) (hr : (n.toList == s.toList) = r) :
    Calls Tryd.prog 55 #[.agg #[.string n, .int .i64 b], .pointer (some ad)] w fun e w' => e = .returned (.bool r) ∧ Below w.heap.size w w' := by
  have hu63 := Tryd.underlying63
  have HB := Aside0.mk (Below.refl w.heap.size w)
  have hl := World.block_lt_of_cell? w _ hs
  have hs1 : ∀ o, (w.alloc o).cell? ad = some (.string s) := fun o => (World.cell?_alloc_lt _ _ _ hl).trans hs
  clear hl
  go_enter Tryd.func55, Tryd.ntmps55
  go_wp2
  go_ret
  exact ⟨by first | rfl | (simp; done) | (simp [*]; done), by repeat (first | (with_reducible first | exact HB.out | apply below_alloc | apply pw_below_drewN | apply below_drew1) | exact HB.out)⟩
theorem impl_nameAt.go_drop (s : ByteArray) (l : List S63) (i : Nat) (h : i < l.length) : impl_nameAt.go s (l.drop i) (i : Int) = if (l.getD i z63).f0.toList = s.toList then (i : Int) else impl_nameAt.go s (l.drop (i + 1)) ((i + 1 : Nat) : Int) := by
  rw [List.drop_eq_getElem_cons h, impl_nameAt.go]
  simp [List.getD_eq_getElem?_getD, List.getElem?_eq_getElem h]
set_option maxHeartbeats 2000000 in
set_option maxRecDepth 100000 in
theorem impl_nameAt.idx (A0 : Option Addr) (c0 : Nat) (l0 : List S63) (s : ByteArray) (ad : Addr) (w : World) (hr0 : Kd.C k63 w A0 l0.length l0) (hc0 : l0.length ≤ c0) (hl : l0.length ≤ 140737488351232) (hs : w.cell? ad = some (.string s)) :
    Calls Tryd.prog 54 #[.slice A0 l0.length c0, .func (.func 55) #[] #[.pointer (some ad)]] w fun e w' => e = .returned (.int .i64 (impl_nameAt.go s l0 0)) ∧ Below w.heap.size w w' := by
  have hu63 := Tryd.underlying63
  have HR0 := Aside0.mk hr0
  have HC0 := Aside0.mk hc0
  clear hr0 hc0
  have HS2 := Aside0.mk (show ∀ W, Below w.heap.size w W → W.cell? ad = some (.string s) from fun W h => (h.cell (World.block_lt_of_cell? w _ hs)).trans hs)
  clear hs
  have HB := Aside0.mk (Below.refl w.heap.size w)
  go_enter Tryd.func54, Tryd.ntmps54
  go_wp2
  go_loopg [8] l0.length (fun kq v8 w' => ∃ (x8_1 : Int), v8 = .int .i64 x8_1 ∧ Aside0 (0 ≤ x8_1 ∧ x8_1.toNat + kq = l0.length) ∧ Aside0 (impl_nameAt.go s (l0.drop x8_1.toNat) x8_1 = impl_nameAt.go s l0 0) ∧ Aside0 (Below w.heap.size w w'))
  case atStart => exact ⟨(0), (by first | rfl | (simp; done) | (simp [*]; done)), ⟨by simp⟩, ⟨by simp⟩, ⟨by repeat (first | (with_reducible first | exact HB.out | apply below_alloc | apply pw_below_drewN | apply below_drew1) | exact HB.out)⟩⟩
  case round =>
    try clear p2
    obtain ⟨x8_1, rfl, HK1, HG, HB⟩ := hrel
    by_cases c3 : x8_1 < (l0.length : Int)
    · have c3b0 : decide (x8_1 < (l0.length : Int)) = true := decide_eq_true c3
      have p173 : 0 ≤ (x8_1 : Int) := HK1.out.1
      have c4b0 : decide (0 ≤ x8_1) = true := decide_eq_true p173
      have hgd := impl_nameAt.go_drop s l0 x8_1.toNat (by omega)
      have HG2 := Aside0.mk hgd
      clear hgd
      obtain ⟨ad173, e173, hx173_0, hx173_1⟩ := at_T63 HR0.out x8_1 p173 c3
      cases e173
      replace hx173_0 := (HB.out.cell (World.block_lt_of_cell? w _ hx173_0)).trans hx173_0
      replace hx173_1 := (HB.out.cell (World.block_lt_of_cell? w _ hx173_1)).trans hx173_1
      have HW := Aside0.mk (show wrap64 (x8_1 + 1) = x8_1 + 1 by unfold wrap64; omega)
      have HC3 := Aside0.mk c3
      have q173 := eq_true c3
      clear c3
      have HP := Aside0.mk p173
      replace p173 := eq_true p173
      cases hc : ((rd_T63 l0 x8_1).f0.toList == s.toList) with
      | true =>
        have HCC := Aside0.mk hc
        go_wp2_with (first | (go_at_call 55; (with_reducible refine (impl_nameAt.lit (rd_T63 l0 x8_1).f0 (rd_T63 l0 x8_1).f1 s ad _ true (HS2.out _ HB.out) hc).mono ?_); rintro e w8 ⟨rfl, hb⟩; have n0_ := Aside0.mk (below_step (by repeat (first | (with_reducible first | exact HB.out | apply below_alloc | apply pw_below_drewN | apply below_drew1) | exact HB.out)) hb); clear HB; have HB := n0_; clear n0_; (try clear hb)))
        go_ret
        refine ⟨?_, by repeat (first | (with_reducible first | exact HB.out | apply below_alloc | apply pw_below_drewN | apply below_drew1) | exact HB.out)⟩
        have h1 := HG.out
        have h2 := HG2.out
        have h3 := HCC.out
        rw [Int.toNat_of_nonneg HP.out] at h2
        rw [if_pos (by simpa [rd_T63] using h3)] at h2
        rw [← h1, h2]; rfl
      | false =>
        have HCC := Aside0.mk hc
        go_wp2_with (first | (go_at_call 55; (with_reducible refine (impl_nameAt.lit (rd_T63 l0 x8_1).f0 (rd_T63 l0 x8_1).f1 s ad _ false (HS2.out _ HB.out) hc).mono ?_); rintro e w8 ⟨rfl, hb⟩; have n0_ := Aside0.mk (below_step (by repeat (first | (with_reducible first | exact HB.out | apply below_alloc | apply pw_below_drewN | apply below_drew1) | exact HB.out)) hb); clear HB; have HB := n0_; clear n0_; (try clear hb)))
        go_roundg (gk - 1)
        case measure => have := HK1.out; have := HC3.out; omega
        case rel =>
          refine ⟨(wrap64 (x8_1 + 1)), (by first | rfl | (simp; done) | (simp [*]; done)), ⟨by have := HK1.out; have := HC3.out; rw [HW.out]; omega⟩, ⟨?_⟩, ⟨by repeat (first | (with_reducible first | exact HB.out | apply below_alloc | apply pw_below_drewN | apply below_drew1) | exact HB.out)⟩⟩
          have h1 := HG.out
          have h2 := HG2.out
          have h3 := HCC.out
          have h4 := HP.out
          rw [Int.toNat_of_nonneg h4] at h2
          rw [if_neg (by simpa [rd_T63] using h3)] at h2
          rw [HW.out, ← h1, h2]
          have e : (x8_1 + 1).toNat = x8_1.toNat + 1 := by omega
          have e2 : ((x8_1.toNat + 1 : Nat) : Int) = x8_1 + 1 := by omega
          rw [e, e2]
    · have c3b0 : decide (x8_1 < (l0.length : Int)) = false := decide_eq_false c3
      have HC3 := Aside0.mk c3
      clear c3
      go_wp2
      go_ret
      refine ⟨?_, by repeat (first | (with_reducible first | exact HB.out | apply below_alloc | apply pw_below_drewN | apply below_drew1) | exact HB.out)⟩
      have h1 := HG.out
      have h2 := HC3.out
      rw [List.drop_of_length_le (by omega), impl_nameAt.go] at h1
      rw [← h1]; rfl
set_option maxHeartbeats 2000000 in
set_option maxRecDepth 100000 in
theorem impl_nameAt.calls (A0 : Option Addr) (c0 : Nat) (l0 : List S63) (a1 : ByteArray) (r : Int) (w : World) (hr0 : Kd.C k63 w A0 l0.length l0) (hc0 : l0.length ≤ c0) (h : impl_nameAt.f l0 a1 = some r) :
    Calls Tryd.prog 40 #[.slice A0 l0.length c0, .string a1] w fun e w' => e = .returned (.int .i64 r) ∧ Below w.heap.size w w' := by
 have hlr : l0.length ≤ 140737488351232 ∧ impl_nameAt.go a1 l0 0 = r := by
  unfold impl_nameAt.f at h
  split at h
  rotate_left
  · cases h
  exact ⟨by assumption, Option.some.inj h⟩
 obtain ⟨hl, rfl⟩ := hlr
 clear h
 have HR0 := Aside0.mk hr0
 have HC0 := Aside0.mk hc0
 have HL := Aside0.mk hl
 clear hr0 hc0 hl
 have HB := Aside0.mk (Below.refl w.heap.size w)
 go_enter Tryd.func40, Tryd.ntmps40
 go_wp2_with (first | (go_at_call 54; (refine (impl_nameAt.idx A0 c0 l0 a1 ⟨w.heap.size, 0, none⟩ _ (Kd.C_below HR0.out (below_alloc (Below.refl _ _) _)) HC0.out HL.out (by simp)).mono ?_); rintro e w8 ⟨rfl, hb⟩))
 go_ret
 exact ⟨rfl, below_step (below_alloc (Below.refl _ _) _) hb⟩
end Go.Proofs.YtocmgmolbfhkaaaDoor.MFnExactSafeFile
