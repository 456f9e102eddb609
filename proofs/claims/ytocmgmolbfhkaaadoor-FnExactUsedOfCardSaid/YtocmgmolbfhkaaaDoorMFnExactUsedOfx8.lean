-- Written by a program of this session out of the translation. Not trusted: Lean checks it.
import Derived.Test.YtocmgmolbfhkaaaDoorMFnExactUsedOfx0
import Derived.Test.YtocmgmolbfhkaaaDoorMFnExactUsedOfx6
import Derived.Test.YtocmgmolbfhkaaaDoorMFnExactUsedOfx7
namespace Go.Proofs.YtocmgmolbfhkaaaDoor.MFnExactUsedOf
-- shrunk
-- RD
open Go.Proofs.YtocmgmolbfhkaaaDoor Go.RowKit Go.Proofs.YtocmgmolbfhkaaaDoorW.PrintWords Go.Proofs.YtocmgmolbfhkaaaDoorW.PrintLast Go.Proofs.YtocmgmolbfhkaaaDoorW.PrintMore Go.Proofs.YtocmgmolbfhkaaaDoorX
attribute [local go_sem] max2_int min2_int max_two min_two max_three min_three max_four min_four str_gtr str_leq str_geq cell_twice
set_option linter.unusedVariables false
set_option linter.unusedSimpArgs false
/-! ### impl_Name_57: function 57 -/
def impl_Name_57.f (l0 : List S63) (a1 : Int) : Option (List S63) := if l0.isEmpty = true ∧ 0 ≤ a1 ∧ a1 ≤ 40 then some [] else none
set_option maxHeartbeats 1000000 in
set_option maxRecDepth 100000 in
theorem impl_Name_57.nil_ (n : Nat) (hn : n ≤ 40) (w : World) : Calls Tryd.prog 57 #[.slice none 0 0, .int .i64 n] w fun e w' => ∃ v0_, e = .returned v0_ ∧ Kd.R k63 63 w' w.heap.size (fun _ => True) v0_ ([] : List S63) ∧ Below w.heap.size w w' := by
  obtain ⟨i0, hi, hzz⟩ := Option.map_eq_some_iff.1 info63
  simp only [Prod.mk.injEq] at hzz
  obtain ⟨hz0, hz1, hz2⟩ := hzz
  rcases Nat.eq_zero_or_pos n with h0 | h0
  · subst h0
    go_enter Tryd.func57, Tryd.ntmps57
    go_wp2
    go_ret
    exact ⟨_, rfl, Kd.R_nil _ _ _ _ _, Below.refl _ _⟩
  · have hrun := Lib.run_append_nil_zeros (P := Tryd.prog) w 29 3 29 63 i0 _ .i64 .i64 Tryd.underlying29 Tryd.underlying3 hi hz0 n h0 (by omega) (by omega) (by rw [hz2]; omega)
    have hp : (0 : Int) < n := by omega
    have hp2 : ¬ ((n : Int) < 0) := by omega
    have HR := Aside0.mk hrun
    clear hrun
    have hp3 : decide (0 < n) = true := by simpa using h0
    go_enter Tryd.func57, Tryd.ntmps57
    go_wp2_with (first | (at_builtin; refine Lib.wpList_append_run w rfl (.tmp 20) (.tmp 21) 29 3 rfl _ _ rfl rfl _ _ HR.out ?_))
    go_ret
    have hcl := grownCap_le_maxLen w n 0 63 (by simp [maxLen]; omega)
    have hcg := grownCap_ge w n 0 63
    refine ⟨_, rfl, ⟨fun _ _ => trivial, [], ⟨by simp, .inr ⟨w.heap.size, _, _, rfl, Nat.le_refl _, heap_alloc_new _ _, Nat.zero_le _, hcl, ?_, by simp⟩⟩, Reps.none _ _⟩, below_drew1 (below_alloc (Below.refl _ _) _)⟩
    simp only [Array.size_append, size_zeroCells]
    show n * 2 + (grownCap w n 0 63 - n) * 2 = grownCap w n 0 63 * 2
    omega
theorem impl_Name_57.calls (A0 : Option Addr) (c0 : Nat) (l0 : List S63) (a1 : Int) (r : List S63) (w : World) (hr0 : Kd.C k63 w A0 l0.length l0) (hc0 : l0.length ≤ c0) (h : impl_Name_57.f l0 a1 = some r) :
    Calls Tryd.prog 57 #[.slice none 0 0, .int .i64 a1] w fun e w' => ∃ v0_ : Value, e = .returned v0_ ∧ Kd.R k63 63 w' w.heap.size (fun _ => True) v0_ r ∧ Below w.heap.size w w' := by
 unfold impl_Name_57.f at h
 split at h
 rotate_left
 · cases h
 rename_i hh
 obtain rfl := Option.some.inj h
 obtain ⟨n, rfl⟩ := Int.eq_ofNat_of_zero_le hh.2.1
 exact impl_Name_57.nil_ n (by omega) w
/-! ### impl_Name_51: function 51 -/
mutual
def impl_Name_51.l0 : Nat → List (List (S63)) → Int → List (List (S63)) → Int → Int → Option ((List (S63)))
  | 0, _, _, _, _, _ => none
  | k + 1, x0, x3, x9, x10, x11 => if x11 < x10 then (if 0 ≤ x11 then (if x11 < (x9.length : Int) then (if (wrap64 (x3 + ((rd_L6 x9 x11).length : Int))) < 0 then (none) else (impl_Name_51.l0 k x0 (wrap64 (x3 + ((rd_L6 x9 x11).length : Int))) x9 x10 (wrap64 (x11 + 1)))) else (none)) else (none)) else ((impl_Name_57.f ([] : List (S63)) x3).bind fun t192 => (impl_Name_51.l1 k t192 x0 (x0.length : Int) 0))
def impl_Name_51.l1 : Nat → List (S63) → List (List (S63)) → Int → Int → Option ((List (S63)))
  | 0, _, _, _, _ => none
  | k + 1, x6, x25, x26, x27 => if x27 < x26 then (if 0 ≤ x27 then (if x27 < (x25.length : Int) then (if x6.length + (rd_L6 x25 x27).length < 5864062014805 then (impl_Name_51.l1 k (x6 ++ (rd_L6 x25 x27)) x25 x26 (wrap64 (x27 + 1))) else (none)) else (none)) else (none)) else (some x6)
end
def impl_Name_51.f (k : Nat) (l0 : List (List (S63))) : Option ((List (S63))) := impl_Name_51.l0 k l0 0 l0 (l0.length : Int) 0
theorem impl_Name_51.mono_l : ∀ k, (∀ y0 y1 y2 y3 y4, LeO (impl_Name_51.l0 k y0 y1 y2 y3 y4) (impl_Name_51.l0 (k + 1) y0 y1 y2 y3 y4)) ∧ (∀ y0 y1 y2 y3, LeO (impl_Name_51.l1 k y0 y1 y2 y3) (impl_Name_51.l1 (k + 1) y0 y1 y2 y3))
  | 0 => ⟨fun _ _ _ _ _ r h => by simp [impl_Name_51.l0] at h, fun _ _ _ _ r h => by simp [impl_Name_51.l1] at h⟩
  | k + 1 => by
    obtain ⟨ih0, ih1⟩ := impl_Name_51.mono_l k
    refine ⟨?_, ?_⟩
    · intro y0 y1 y2 y3 y4
      unfold impl_Name_51.l0
      repeat' first
      | (with_reducible exact ih0 _ _ _ _ _)
      | (with_reducible exact ih1 _ _ _ _)
      | (with_reducible exact LeO.refl _)
      | (with_reducible exact LeO.none _)
      | (with_reducible refine LeO.ite ?_ ?_)
      | (with_reducible refine LeO.bind ?_ (fun _ => ?_))
      | exact ih0 _ _ _ _ _
      | exact ih1 _ _ _ _
      | exact LeO.none _
      | refine LeO.ite ?_ ?_
      | refine LeO.bind ?_ (fun _ => ?_)
    · intro y0 y1 y2 y3
      unfold impl_Name_51.l1
      repeat' first
      | (with_reducible exact ih0 _ _ _ _ _)
      | (with_reducible exact ih1 _ _ _ _)
      | (with_reducible exact LeO.refl _)
      | (with_reducible exact LeO.none _)
      | (with_reducible refine LeO.ite ?_ ?_)
      | (with_reducible refine LeO.bind ?_ (fun _ => ?_))
      | exact ih0 _ _ _ _ _
      | exact ih1 _ _ _ _
      | exact LeO.none _
      | refine LeO.ite ?_ ?_
      | refine LeO.bind ?_ (fun _ => ?_)
theorem impl_Name_51.mono : ∀ a0 k, LeO (impl_Name_51.f k a0) (impl_Name_51.f (k + 1) a0) := by
  intro a0 k
  obtain ⟨ih0, ih1⟩ := impl_Name_51.mono_l k
  unfold impl_Name_51.f
  repeat' first
      | (with_reducible exact ih0 _ _ _ _ _)
      | (with_reducible exact ih1 _ _ _ _)
      | (with_reducible exact LeO.refl _)
      | (with_reducible exact LeO.none _)
      | (with_reducible refine LeO.ite ?_ ?_)
      | (with_reducible refine LeO.bind ?_ (fun _ => ?_))
      | exact ih0 _ _ _ _ _
      | exact ih1 _ _ _ _
      | exact LeO.none _
      | refine LeO.ite ?_ ?_
      | refine LeO.bind ?_ (fun _ => ?_)
set_option maxHeartbeats 8000000 in
set_option maxRecDepth 100000 in
theorem impl_Name_51.calls (k : Nat) (A0 : Option Addr) (c0 : Nat) (l0 : List (List (S63))) (r : List (S63)) (w : World) (hr0 : Kd.C (Kd.slice 63 k63) w A0 l0.length l0) (hc0 : l0.length ≤ c0) (h : impl_Name_51.f k l0 = some r) :
    Calls Tryd.prog 51 #[.slice A0 l0.length c0] w fun e w' => ∃ v0_ : Value, e = .returned (v0_) ∧ Kd.R k63 63 w' w.heap.size (fun _ => True) v0_ r ∧ Below w.heap.size w w' := by
 have HR0 := Aside0.mk hr0
 have HC0 := Aside0.mk hc0
 clear hr0 hc0
 have HB := Aside0.mk (Below.refl w.heap.size w)
 have H : (impl_Name_51.l0 k l0 0 l0 (l0.length : Int) 0) = some r := h
 clear h
 have H' := Aside0.mk H
 clear H
 go_enter Tryd.func51, Tryd.ntmps51
 go_wp2
 go_loopg [3, 11] k (fun kq v3 v11 w' => ∃ (x3_1 : Int) (x11_1 : Int), v3 = .int .i64 x3_1 ∧ v11 = .int .i64 x11_1 ∧ Aside0 (impl_Name_51.l0 kq l0 x3_1 l0 (l0.length : Int) x11_1 = some r) ∧ Aside0 (kq ≤ k) ∧ Aside0 (Below w.heap.size w w'))
 case atStart => exact ⟨(0), (0), (by first | rfl | (simp; done) | (simp [*]; done)), (by first | rfl | (simp; done) | (simp [*]; done)), H', ⟨Nat.le_refl _⟩, ⟨by repeat (first | (with_reducible first | exact HB.out | apply below_alloc | apply pw_below_drewN | apply below_drew1) | exact HB.out)⟩⟩
 case round =>
  clear H'
  obtain ⟨x3_1, x11_1, rfl, rfl, HA, HK1, HB⟩ := hrel
  cases gk with
  | zero => exact absurd HA.out (by simp [impl_Name_51.l0])
  | succ k1 =>
   have H := HA.out
   clear HA
   simp only [impl_Name_51.l0] at H
   by_cases c2 : x11_1 < (l0.length : Int)
   · rw [if_pos c2] at H
     have c2b0 : decide (x11_1 < (l0.length : Int)) = true := decide_eq_true c2
     clear c2
     by_cases c3 : 0 ≤ x11_1
     rotate_left
     · rw [if_neg c3] at H
       exact absurd H (by simp)
     rw [if_pos c3] at H
     have c3b0 : decide (0 ≤ x11_1) = true := decide_eq_true c3
     clear c3
     by_cases c4 : x11_1 < (l0.length : Int)
     rotate_left
     · rw [if_neg c4] at H
       exact absurd H (by simp)
     rw [if_pos c4] at H
     have c4b0 : decide (x11_1 < (l0.length : Int)) = true := decide_eq_true c4
     clear c4
     by_cases c5 : (wrap64 (x3_1 + ((rd_L6 l0 x11_1).length : Int))) < 0
     · rw [if_pos c5] at H
       exact absurd H (by simp)
     rw [if_neg c5] at H
     have c5b0 : decide ((wrap64 (x3_1 + ((rd_L6 l0 x11_1).length : Int))) < 0) = false := decide_eq_false c5
     clear c5
     have H' := Aside0.mk H
     clear H
     have p191 : 0 ≤ (x11_1 : Int) := of_decide_eq_true (by first | (with_reducible assumption) | assumption)
     have q191 : x11_1 < (l0.length : Int) := of_decide_eq_true (by first | (with_reducible assumption) | assumption)
     obtain ⟨ad191, A191_0, c191_0, e191, hx191_0, hl191_0, hi191_0⟩ := at_L6 HR0.out x11_1 p191 q191
     cases e191
     replace hx191_0 := (HB.out.cell (World.block_lt_of_cell? w _ hx191_0)).trans hx191_0
     have HR191_0 := Aside0.mk hi191_0
     have HC191_0 := Aside0.mk hl191_0
     clear hi191_0 hl191_0
     replace p191 := eq_true p191
     replace q191 := eq_true q191
     go_wp2
     go_roundg k1
     case measure => have := HK1.out; omega
     case rel => exact ⟨(wrap64 (x3_1 + ((rd_L6 l0 x11_1).length : Int))), (wrap64 (x11_1 + 1)), (by first | rfl | (simp; done) | (simp [*]; done)), (by first | rfl | (simp; done) | (simp [*]; done)), H', ⟨by have := HK1.out; omega⟩, ⟨by repeat (first | (with_reducible first | exact HB.out | apply below_alloc | apply pw_below_drewN | apply below_drew1) | exact HB.out)⟩⟩
   rw [if_neg c2] at H
   have c2b0 : decide (x11_1 < (l0.length : Int)) = false := decide_eq_false c2
   clear c2
   replace H := Option.bind_eq_some_iff.mp H
   obtain ⟨t192, A60, H⟩ := H
   replace H : (impl_Name_51.l1 k1 t192 l0 (l0.length : Int) 0) = some r := H
   have A6 := Aside0.mk A60
   clear A60
   have H' := Aside0.mk H
   clear H
   go_wp2_with (first | ((with_reducible refine gate_callee (f := 57) rfl ?_); refine goesL_ (some 24) rfl rfl Tryd.func57 (by kernel_rfl) rfl #[.slice none 0 0, .int .i64 x3_1] rfl (by (try simp only [List.map_toArray, List.map_cons, List.map_nil]); first | done | rfl | (simp only [List.length_drop, List.length_take]; rfl)) ?_; (refine (impl_Name_57.calls none 0 ([] : List (S63)) x3_1 t192 _ ?side1 ?side2 A6.out).mono ?_); (case side1 => exact Kd.C_nil _ _); (case side2 => exact Nat.le_refl _); rintro e w7 ⟨v193, rfl, ho0, hb⟩; refine ⟨_, rfl, ?_⟩; have n0_ := Aside0.mk (Kd.R_lower ho0 (below_size (by repeat (first | (with_reducible first | exact HB.out | apply below_alloc | apply pw_below_drewN | apply below_drew1) | exact HB.out)))); have n1_ := Aside0.mk (below_step (by repeat (first | (with_reducible first | exact HB.out | apply below_alloc | apply pw_below_drewN | apply below_drew1) | exact HB.out)) hb); clear HB; have HO194 := n0_; have HB := n1_; clear n0_ n1_; (try clear hb); (try clear hb2); (try clear hk); (try clear hi); (try clear ho0)))
   go_loopg [6, 27] k1 (fun kq v6 v27 w' => ∃ (x6_2 : List (S63)) (x27_2 : Int), v27 = .int .i64 x27_2 ∧ Aside0 (impl_Name_51.l1 kq x6_2 l0 (l0.length : Int) x27_2 = some r) ∧ Aside0 (kq ≤ k1) ∧ Aside0 (Kd.R k63 63 w' w.heap.size (fun _ => True) v6 x6_2) ∧ Aside0 (Below w.heap.size w w'))
   case atStart => exact ⟨(t192), (0), (by first | rfl | (simp; done) | (simp [*]; done)), H', ⟨Nat.le_refl _⟩, ⟨by (with_reducible repeat (first | apply Kd.R_alloc | apply Kd.R_drewN | apply Kd.R_drew)); exact HO194.out⟩, ⟨by repeat (first | (with_reducible first | exact HB.out | apply below_alloc | apply pw_below_drewN | apply below_drew1) | exact HB.out)⟩⟩
   case round =>
    clear H'
    try clear c1
    try clear p1
    try clear q1
    try clear hx1
    try clear c2
    try clear c2b0
    try clear p2
    try clear c3
    try clear c3b0
    try clear c4
    try clear c4b0
    try clear c5
    try clear c5b0
    try clear p6
    try clear hx191_0
    try clear p191
    try clear q191
    obtain ⟨x6_2, x27_2, rfl, HA, HK2, HO_6, HB⟩ := hrel
    cases gk with
    | zero => exact absurd HA.out (by simp [impl_Name_51.l1])
    | succ k2 =>
     have H := HA.out
     clear HA
     simp only [impl_Name_51.l1] at H
     by_cases c8 : x27_2 < (l0.length : Int)
     rotate_left
     · rw [if_neg c8] at H
       have c8b0 : decide (x27_2 < (l0.length : Int)) = false := decide_eq_false c8
       clear c8
       obtain rfl := Option.some.inj H
       go_wp2
       go_ret
       exact ⟨_, by first | rfl | (simp [errW_none, errW_some] <;> rfl) | (simp [*, errW_none, errW_some] <;> rfl), by (with_reducible repeat (first | apply Kd.R_alloc | apply Kd.R_drewN | apply Kd.R_drew)); exact HO_6.out, by repeat (first | (with_reducible first | exact HB.out | apply below_alloc | apply pw_below_drewN | apply below_drew1) | exact HB.out)⟩
     rw [if_pos c8] at H
     have c8b0 : decide (x27_2 < (l0.length : Int)) = true := decide_eq_true c8
     clear c8
     by_cases c9 : 0 ≤ x27_2
     rotate_left
     · rw [if_neg c9] at H
       exact absurd H (by simp)
     rw [if_pos c9] at H
     have c9b0 : decide (0 ≤ x27_2) = true := decide_eq_true c9
     clear c9
     by_cases c10 : x27_2 < (l0.length : Int)
     rotate_left
     · rw [if_neg c10] at H
       exact absurd H (by simp)
     rw [if_pos c10] at H
     have c10b0 : decide (x27_2 < (l0.length : Int)) = true := decide_eq_true c10
     clear c10
     by_cases c11 : x6_2.length + (rd_L6 l0 x27_2).length < 5864062014805
     rotate_left
     · rw [if_neg c11] at H
       exact absurd H (by simp)
     rw [if_pos c11] at H
     have LMc11 := Aside0.mk c11
     clear c11
     obtain ⟨y196, hy196⟩ : ∃ y_ : List (S63), y_ = (x6_2 ++ (rd_L6 l0 x27_2)) := ⟨_, rfl⟩
     replace H : (impl_Name_51.l1 k2 y196 l0 (l0.length : Int) (wrap64 (x27_2 + 1))) = some r := by first | (rw [hy196]; with_reducible exact H) | (have H2_ := (Option.bind_some _ _).symm.trans H; rw [hy196]; with_reducible exact H2_) | (have H2_ := (Option.bind_some _ _).symm.trans H; with_reducible exact H2_) | with_reducible exact H | (rw [hy196]; exact H) | exact H
     have Ny196 := Aside0.mk hy196
     clear hy196
     have H' := Aside0.mk H
     clear H
     have p195 : 0 ≤ (x27_2 : Int) := of_decide_eq_true (by first | (with_reducible assumption) | assumption)
     have q195 : x27_2 < (l0.length : Int) := of_decide_eq_true (by first | (with_reducible assumption) | assumption)
     obtain ⟨ad195, A195_0, c195_0, e195, hx195_0, hl195_0, hi195_0⟩ := at_L6 HR0.out x27_2 p195 q195
     cases e195
     replace hx195_0 := (HB.out.cell (World.block_lt_of_cell? w _ hx195_0)).trans hx195_0
     have HR195_0 := Aside0.mk hi195_0
     have HC195_0 := Aside0.mk hl195_0
     clear hi195_0 hl195_0
     replace p195 := eq_true p195
     replace q195 := eq_true q195
     go_wp2_with (first | ((with_reducible refine gate_builtin (b := .append) (xs := #[.tmp 31, .tmp 32]) rfl ?_); at_builtin; refine Kd.R_append_rows k63 (w0 := w) w.heap.size rfl (.tmp 31) (.tmp 32) 29 63 (.agg #[(.string ⟨#[]⟩), (.int .i64 0)]) 24 rfl Tryd.underlying29 info63 rfl (by decide) (by omega) u6 x6_2 (rd_L6 l0 x27_2) _ _ _ (fun _ => True) (fun _ => False) rfl rfl ?aO ?aR (fun _ _ h => h) (fun _ h => h.elim) ?aF ?aB ?aS ?aL ?_; (case aR => repeat (first | exact (Kd.C_below HR195_0.out HB.out) | (with_reducible refine Kd.C_alloc ?_ _) | (with_reducible refine Kd.C_drewN ?_ _) | (with_reducible refine Kd.C_drew ?_))); (case aB => exact (by repeat (first | (with_reducible first | exact HB.out | apply below_alloc | apply pw_below_drewN | apply below_drew1) | exact HB.out))); (case aF => exact (fun _ _ => trivial)); (case aO => exact (by (with_reducible repeat (first | apply Kd.R_alloc | apply Kd.R_drewN | apply Kd.R_drew)); exact HO_6.out)); (case aS => exact (below_size (by repeat (first | (with_reducible first | exact HB.out | apply below_alloc | apply pw_below_drewN | apply below_drew1) | exact HB.out)))); (case aL => have := LMc11.out; omega); intro v197 w12 ho hb hg hat; rw [← Ny196.out] at ho; have n0_ := Aside0.mk (hb); have n1_ := Aside0.mk (ho); clear HB; clear HO_6; have HB := n0_; have HO198 := n1_; clear n0_ n1_; clear ho hb hg hat))
     go_roundg k2
     case measure => have := HK1.out; have := HK2.out; omega
     case rel => exact ⟨(y196), (wrap64 (x27_2 + 1)), (by first | rfl | (simp; done) | (simp [*]; done)), H', ⟨by have := HK1.out; have := HK2.out; omega⟩, ⟨by (with_reducible repeat (first | apply Kd.R_alloc | apply Kd.R_drewN | apply Kd.R_drew)); exact HO198.out⟩, ⟨by repeat (first | (with_reducible first | exact HB.out | apply below_alloc | apply pw_below_drewN | apply below_drew1) | exact HB.out)⟩⟩
/-! ### impl_Disk_used: function 36 -/
def impl_Disk_used.go (B : List S49) : List S63 → List Int → Int → Option Int
  | [], _, a => some a
  | x :: l, seen, a => if 0 ≤ x.f1 ∧ x.f1 < (B.length : Int) then (if x.f1 ∈ seen then impl_Disk_used.go B l (x.f1 :: seen) a else impl_Disk_used.go B l (x.f1 :: seen) (wrap64 (a + ((rd_T49 B x.f1).f0.size : Int)))) else none
def impl_Disk_used.f (s0_0 : List S49) (s0_1 : List S63) (s0_2 : List S63) (s0_3 : Int) : Option Int := if s0_1.length ≤ 20 ∧ s0_2.length ≤ 20 ∧ s0_0.length ≤ 140737488351232 then impl_Disk_used.go s0_0 (s0_1 ++ s0_2) [] 0 else none
theorem impl_Disk_used.cat (L S : List S63) (hL : L.length ≤ 20) (hS : S.length ≤ 20) : impl_Name_51.f 7 [L, S] = some (L ++ S) := by
  have e0 : rd_L6 [L, S] 0 = L := rfl
  have e1 : rd_L6 [L, S] 1 = S := rfl
  have a0 : wrap64 (0 + (L.length : Int)) = L.length := by unfold wrap64; omega
  have a1 : wrap64 ((L.length : Int) + (S.length : Int)) = ((L.length + S.length : Nat) : Int) := by unfold wrap64; omega
  have b0 : wrap64 (0 + 1) = 1 := by unfold wrap64; omega
  have b1 : wrap64 (1 + 1) = 2 := by unfold wrap64; omega
  have n0 : ¬ ((L.length : Int) < 0) := by omega
  have n1 : ¬ (((L.length + S.length : Nat) : Int) < 0) := by omega
  have hG : impl_Name_57.f ([] : List S63) ((L.length + S.length : Nat) : Int) = some [] := by
    unfold impl_Name_57.f
    rw [if_pos ⟨rfl, by omega, by omega⟩]
  have l2 : (([L, S] : List (List S63)).length : Int) = 2 := rfl
  have c0 : ([] : List S63).length + L.length < 5864062014805 := by simp; omega
  have c1 : ([] ++ L : List S63).length + S.length < 5864062014805 := by simp; omega
  unfold impl_Name_51.f
  rw [l2]
  rw [impl_Name_51.l0, if_pos (by omega), if_pos (by omega), if_pos (by rw [l2]; omega), e0, a0, if_neg n0, b0]
  rw [impl_Name_51.l0, if_pos (by omega), if_pos (by omega), if_pos (by rw [l2]; omega), e1, a1, if_neg n1, b1]
  rw [impl_Name_51.l0, if_neg (by omega), hG]
  simp only [Option.bind_some]
  rw [l2, impl_Name_51.l1, if_pos (by omega), if_pos (by omega), if_pos (by rw [l2]; omega), e0, if_pos c0, b0]
  rw [impl_Name_51.l1, if_pos (by omega), if_pos (by omega), if_pos (by rw [l2]; omega), e1, if_pos c1, b1]
  rw [impl_Name_51.l1, if_neg (by omega)]
  rfl
theorem impl_Disk_used.two {w : World} {b : Nat} {A1 A2 : Option Addr} {c1 c2 : Nat} {L S : List S63} (hb : w.heap[b]? = some (.cells #[.slice A1 L.length c1, .slice A2 S.length c2] 29 (0, 0))) (h1 : Kd.C k63 w A1 L.length L) (l1 : L.length ≤ c1) (h2 : Kd.C k63 w A2 S.length S) (l2 : S.length ≤ c2) :
    Kd.C (Kd.slice 63 k63) w (some ⟨b, 0, none⟩) ([L, S] : List (List S63)).length [L, S] := by
  refine ⟨rfl, by simp, fun _ => ⟨_, rfl, fun j p hj => ?_⟩⟩
  match j, hj with
  | 0, hj =>
    cases hj
    refine ⟨[.slice A1 L.length c1], rfl, ⟨A1, c1, rfl, l1, h1⟩, fun i u hu => ?_⟩
    match i, hu with
    | 0, hu => cases hu; rw [add_plain]; exact (blk_cell hb 0).trans rfl
  | 1, hj =>
    cases hj
    refine ⟨[.slice A2 S.length c2], rfl, ⟨A2, c2, rfl, l2, h2⟩, fun i u hu => ?_⟩
    match i, hu with
    | 0, hu => cases hu; rw [add_plain]; exact (blk_cell hb 1).trans rfl
/-- Block b is the call's own map of those that were seen. -/
def impl_Disk_used.Seen (w : World) (b n : Nat) (seen : List Int) : Prop := ∃ D : DataW Unit, w.ownsMap Tryd.prog 3 (plainElem Tryd.prog 4) b n D ∧ ∀ k : Int, (Lit.int .i64 k).wf = true → D.atKey (.int .i64 k) (.lit (.bool false)) = .lit (.bool (decide (k ∈ seen)))
theorem impl_Disk_used.plainBool {P : Program} {e : TypeId} (he : P.underlying e = some .bool) {v : Value} {z : DataW Unit × List MemPlace} (h : plainElem P e v = some z) : ∃ x, v = .bool x ∧ z = (.lit (.bool x), []) := by
  unfold plainElem at h
  rw [he] at h
  cases v <;> simp at h
  exact ⟨_, rfl, h.symm⟩
theorem impl_Disk_used.wf_ok {k : Int} (h0 : 0 ≤ k) (h1 : k ≤ 140737488351232) : (Lit.int .i64 k).wf = true := by
  simp only [Lit.wf, Bool.and_eq_true, decide_eq_true_eq]
  exact (show -9223372036854775808 ≤ k ∧ k ≤ 9223372036854775807 by omega)
theorem impl_Disk_used.Seen.look {w : World} {b n : Nat} {seen : List Int} (h : impl_Disk_used.Seen w b n seen) {k : Int} (hk : (Lit.int .i64 k).wf = true) :
    (Instr.lookup 77 (.map (some b)) (.int .i64 k) false).run Tryd.prog w = .ok (.bool (decide (k ∈ seen))) w := by
  obtain ⟨D, hown, hat⟩ := h
  have hz : (zeroValue 4).run Tryd.prog w = .ok (.bool false) w := by kernel_rfl
  obtain ⟨v, ps, hrun, hv⟩ := hown.lookup (Maps.int_keyed Tryd.underlying3) Tryd.underlying77 hz (plainElem_bool Tryd.underlying4 false) (Maps.keyOf_int_mk Tryd.underlying3 hk)
  rw [hat k hk] at hv
  obtain ⟨x, rfl, hx⟩ := impl_Disk_used.plainBool Tryd.underlying4 hv
  simp only [Prod.mk.injEq, DataW.lit.injEq, Lit.bool.injEq] at hx
  rw [hrun, hx.1]
theorem impl_Disk_used.Seen.made (w : World) : impl_Disk_used.Seen (w.alloc (.map #[] 0)) w.heap.size 0 [] :=
  ⟨.map [], World.ownsMap_made w Tryd.prog 3 _, fun k _ => by simp [DataW.atKey]⟩
theorem impl_Disk_used.Seen.below {w w' : World} {b n : Nat} {seen : List Int} (h : impl_Disk_used.Seen w b n seen) (hb : Below w.heap.size w w') : impl_Disk_used.Seen w' b n seen := by
  obtain ⟨D, hown, hat⟩ := h
  exact ⟨D, hown.kept (grown_of_below hb none) (by simp), hat⟩
theorem impl_Disk_used.Seen.obj {w : World} {b n : Nat} {seen : List Int} (h : impl_Disk_used.Seen w b n seen) : ∃ es c, w.heap[b]? = some (.map es c) := by
  obtain ⟨D, ⟨es, c, hb, _⟩, _⟩ := h
  exact ⟨es, c, hb⟩
theorem impl_Disk_used.go_drop (B : List S49) (l : List S63) (seen : List Int) (a : Int) (i : Nat) (h : i < l.length) : impl_Disk_used.go B (l.drop i) seen a = if 0 ≤ (l.getD i z63).f1 ∧ (l.getD i z63).f1 < (B.length : Int) then (if (l.getD i z63).f1 ∈ seen then impl_Disk_used.go B (l.drop (i + 1)) ((l.getD i z63).f1 :: seen) a else impl_Disk_used.go B (l.drop (i + 1)) ((l.getD i z63).f1 :: seen) (wrap64 (a + ((rd_T49 B (l.getD i z63).f1).f0.size : Int)))) else none := by
  rw [List.drop_eq_getElem_cons h, impl_Disk_used.go]
  simp [List.getD_eq_getElem?_getD, List.getElem?_eq_getElem h]
theorem impl_Disk_used.put {w : World} {ops : Array Oper} {rest : List Oper} {o : Oper} {a : Act} {Q : Exit → Act → World → Prop} (hg : o.guard = none) (m x v : Operand) (hop : o.op = Op.mapUpdate 77 m x v) (b n : Nat) (seen : List Int) (k : Int)
    (hm : a.eval m = .map (some b)) (hs : impl_Disk_used.Seen w b n seen) (hn : n < maxLen) (hx : a.eval x = .int .i64 k) (hv : a.eval v = .bool true) (hk : (Lit.int .i64 k).wf = true)
    (hK : ∀ w', impl_Disk_used.Seen w' b (n + 1) (k :: seen) → w.grownBy w' (some b) → wpList Tryd.prog ops Q rest (a.put o.dst undef) w') : wpList Tryd.prog ops Q (o :: rest) a w := by
  obtain ⟨D, hown, hat⟩ := hs
  refine wpList_mapUpdate_own w hg m x v 77 hop 3 4 (Maps.int_keyed Tryd.underlying3) Tryd.underlying77 (plainElem Tryd.prog 4) b n D hm hown hn _ _ (.int .i64 k) hx hv (Maps.keyOf_int_mk Tryd.underlying3 hk) (.lit (.bool true)) [] (plainElem_bool Tryd.underlying4 true) (fun w' h1 h2 => hK w' ⟨_, h1, fun k' hk' => ?_⟩ h2)
  by_cases e : k' = k
  · subst e
    rw [Maps.atKey_put_same hown.isMap (by trivial)]
    simp
  · rw [Maps.atKey_put_other (fun h => e (by injection h)), hat k' hk']
    simp [e]
set_option maxHeartbeats 4000000 in
set_option maxRecDepth 100000 in
theorem impl_Disk_used.core (g : Nat) (A0 : Option Addr) (c0 : Nat) (B : List S49) (A1 : Option Addr) (c1 : Nat) (L : List S63) (A2 : Option Addr) (c2 : Nat) (S : List S63) (R : Int) (r : Int) (w : World)
    (hg : w.heap[g]? = some (.cells #[.slice A0 B.length c0, .slice A1 L.length c1, .slice A2 S.length c2, .int .i64 R] 31 (0, 0)))
    (h0 : Kd.C k49 w A0 B.length B) (l0 : B.length ≤ c0) (h1 : Kd.C k63 w A1 L.length L) (l1 : L.length ≤ c1) (h2 : Kd.C k63 w A2 S.length S) (l2 : S.length ≤ c2)
    (hL : L.length ≤ 20) (hS : S.length ≤ 20) (hB : B.length ≤ 140737488351232) (hr : impl_Disk_used.go B (L ++ S) [] 0 = some r) :
    Calls Tryd.prog 36 #[.pointer (some ⟨g, 0, none⟩)] w fun e w' => e = .returned (.int .i64 r) ∧ Below w.heap.size w w' := by
  have hu63 := Tryd.underlying63
  have HG := Aside0.mk hg
  have H0 := Aside0.mk h0
  have H1 := Aside0.mk h1
  have H2 := Aside0.mk h2
  have HL0 := Aside0.mk l0
  have HL1 := Aside0.mk l1
  have HL2 := Aside0.mk l2
  have HR := Aside0.mk hr
  have hgl := blk_lt hg
  clear hg h0 h1 h2 l0 l1 l2 hr
  have hmm := fun W : World => @run_makeMap Tryd.prog 77 W
  go_enter Tryd.func36, Tryd.ntmps36
  go_wp2_with fail
  clear hmm
  have hb1 : Below w.heap.size w (w.alloc (.map #[] 0)) := below_alloc (Below.refl _ _) _
  have HS := Aside0.mk (impl_Disk_used.Seen.made w)
  have HB1 := Aside0.mk hb1
  generalize (w.alloc (.map #[] 0)) = w1 at HS HB1 hb1 ⊢
  have hG := blk_below HG.out hb1
  have hG1 : w1.cell? ⟨g, 1, none⟩ = some (.slice A1 L.length c1) := (blk_cell hG 1).trans rfl
  have hG2 : w1.cell? ⟨g, 2, none⟩ = some (.slice A2 S.length c2) := (blk_cell hG 2).trans rfl
  have HG1 := Aside0.mk hG
  clear hG
  have hgl1 := blk_lt HG1.out
  go_region_held3 (fun w' => w'.cell? ⟨g, 1, none⟩ = some (.slice A1 L.length c1) ∧ w'.cell? ⟨g, 2, none⟩ = some (.slice A2 S.length c2)) (first | go_keep | (exact ⟨(blk_cell (blk_below (blk_alloc (blk_drew HG1.out) _) hb) 1).trans rfl, (blk_cell (blk_below (blk_alloc (blk_drew HG1.out) _) hb) 2).trans rfl⟩))
    ((go_at_call 51; refine (impl_Name_51.calls 7 _ 2 [L, S] (L ++ S) _ (impl_Disk_used.two (heap_alloc_new _ _) (Kd.C_below H1.out (below_alloc (below_drew hb1) _)) HL1.out (Kd.C_below H2.out (below_alloc (below_drew hb1) _)) HL2.out) (by simp) (impl_Disk_used.cat L S hL hS)).mono ?_; rintro e w' ⟨v, rfl, ho, hb⟩; obtain ⟨Av, cv, rfl⟩ := Kd.R_slice ho))
  rename_i hHeld
  clear hHeld
  have hb1' : Below w1.heap.size w1 w' := below_step (below_alloc (below_drew (Below.refl _ _)) _) hb
  have HB := Aside0.mk (below_step (below_alloc (below_drew hb1) _) hb)
  have HS2 := Aside0.mk (HS.out.below hb1')
  obtain ⟨es, ec, hmo⟩ := HS.out.obj
  have ho2 := Kd.R_lower (Kd.R_mono (Kd.R_newB ho (blk_alloc (blk_drew hmo) (.cells #[.slice A1 L.length c1, .slice A2 S.length c2] 29))) (fun k hk => hk.2)) (show w.heap.size ≤ _ from by have := HB1.out.size; simp; omega)
  have HO := Aside0.mk ho2
  clear ho2 ho hmo hb hb1' hb1 hG1 hG2 HS HG1 hgl1 HB1
  have hn : L.length + S.length = (L ++ S).length := by rw [List.length_append]
  have hn2 : (L.length : Int) + (S.length : Int) = ((L ++ S).length : Int) := by rw [List.length_append]; omega
  have hl40 : (L ++ S).length ≤ 40 := by rw [List.length_append]; omega
  rw [hn, hn2]
  clear hn hn2
  generalize L ++ S = l at HO HR hl40 ⊢
  go_wp2
  go_loopg [4, 19] l.length (fun kq v4 v19 w' => ∃ (a i : Int) (seen : List Int) (n : Nat), v4 = .int .i64 a ∧ v19 = .int .i64 i ∧ Aside0 (0 ≤ i ∧ i.toNat + kq = l.length) ∧ Aside0 (impl_Disk_used.go B (l.drop i.toNat) seen a = some r) ∧ Aside0 (impl_Disk_used.Seen w' w.heap.size n seen ∧ n ≤ i.toNat) ∧ Aside0 (Kd.R k63 63 w' w.heap.size (fun k => k ≠ w.heap.size) (.slice Av l.length cv) l) ∧ Aside0 (Below w.heap.size w w'))
  case atStart => exact ⟨0, 0, [], 0, rfl, rfl, ⟨by simp⟩, ⟨by simpa using HR.out⟩, ⟨HS2.out, Nat.zero_le _⟩, HO, HB⟩
  case round =>
    clear HS2 HR HO HB
    obtain ⟨a, i, seen, n, rfl, rfl, HK1, HR, HS, HO, HB⟩ := hrel
    by_cases c3 : i < (l.length : Int)
    · have c3b0 : decide (i < (l.length : Int)) = true := decide_eq_true c3
      have p173 : 0 ≤ i := HK1.out.1
      obtain ⟨ad, e173, hx0, hx1⟩ := at_T63 (Kd.R_reads' HO.out).2.2 i p173 c3
      subst e173
      have HC3 := Aside0.mk c3
      have HP := Aside0.mk p173
      replace c3 := eq_true c3
      replace p173 := eq_true p173
      have hgd := impl_Disk_used.go_drop B l seen a i.toNat (by have := HC3.out; have := HP.out; omega)
      have hrd : l.getD i.toNat z63 = rd_T63 l i := rfl
      rw [hrd, HR.out] at hgd
      clear hrd
      by_cases hin : 0 ≤ (rd_T63 l i).f1 ∧ (rd_T63 l i).f1 < (B.length : Int)
      rotate_left
      · rw [if_neg hin] at hgd; cases hgd
      rw [if_pos hin] at hgd
      have hwf := impl_Disk_used.wf_ok hin.1 (by omega)
      have hSa : impl_Disk_used.Seen (wr.alloc (.cells #[.string (rd_T63 l i).f0, .int .i64 (rd_T63 l i).f1] 63)) w.heap.size n seen := HS.out.1.below (below_alloc (Below.refl _ _) _)
      have hlook := hSa.look hwf
      have HSA := Aside0.mk hSa
      have HBA := Aside0.mk (below_alloc HB.out (.cells #[.string (rd_T63 l i).f0, .int .i64 (rd_T63 l i).f1] 63))
      have HOA := Aside0.mk (Kd.R_alloc HO.out (.cells #[.string (rd_T63 l i).f0, .int .i64 (rd_T63 l i).f1] 63))
      have hn0 : n < maxLen := by have := HS.out.2; have := HK1.out; simp [maxLen]; omega
      have HWF := Aside0.mk hwf
      have HN0 := Aside0.mk hn0
      have HIN := Aside0.mk hin
      clear hSa hwf hn0 hin
      by_cases hs : (rd_T63 l i).f1 ∈ seen
      · rw [if_pos hs] at hgd
        have HGD := Aside0.mk hgd
        clear hgd
        rw [decide_eq_true hs] at hlook
        clear hs
        go_wp2_with (first | (at_mapUpdate; refine impl_Disk_used.put rfl _ _ _ rfl w.heap.size n seen (rd_T63 l i).f1 rfl HSA.out HN0.out rfl rfl HWF.out ?_; intro w9 hs9 hg9; clear hlook))
        go_roundg (gk - 1)
        case measure => have := HK1.out; have := HC3.out; omega
        case rel =>
          have hw1 : wrap64 (i + 1) = i + 1 := by have := HC3.out; have := HP.out; unfold wrap64; omega
          have hw2 : (i + 1).toNat = i.toNat + 1 := by have := HP.out; omega
          refine ⟨a, wrap64 (i + 1), (rd_T63 l i).f1 :: seen, n + 1, rfl, rfl, ⟨?_⟩, ⟨?_⟩, ⟨?_⟩, ⟨Kd.R_grown HOA.out hg9 (fun k hk he => hk (Option.some.inj he))⟩, ⟨pw_below_grown HBA.out (some w.heap.size) HBA.out.size hg9 (fun k hk => Nat.le_of_eq (Option.some.inj hk))⟩⟩
          · rw [hw1]; have := HK1.out; have := HC3.out; omega
          · rw [hw1, hw2]; exact HGD.out.symm
          · rw [hw1, hw2]; exact ⟨hs9, by have := HS.out.2; omega⟩
      · rw [if_neg hs] at hgd
        have HGD := Aside0.mk hgd
        clear hgd
        rw [decide_eq_false hs] at hlook
        clear hs
        have hgs := blk_below HG.out HBA.out
        have hg0 : (wr.alloc (.cells #[.string (rd_T63 l i).f0, .int .i64 (rd_T63 l i).f1] 63)).cell? ⟨g, 0, none⟩ = some (.slice A0 B.length c0) := (blk_cell hgs 0).trans rfl
        clear hgs
        obtain ⟨adB, eB, hy0, hy1⟩ := at_T49 H0.out (rd_T63 l i).f1 HIN.out.1 HIN.out.2
        subst eB
        replace hy0 := (HBA.out.cell (World.block_lt_of_cell? w _ hy0)).trans hy0
        clear hy1
        have pB := eq_true HIN.out.1
        have qB := eq_true HIN.out.2
        go_wp2_with fail
        clear hlook
        go_quiet (fail)
        rename_i nq _
        have HSB := Aside0.mk (HSA.out.below (pw_below_drewN (Below.refl _ _) nq))
        have HBB := Aside0.mk (pw_below_drewN HBA.out nq)
        have HOB := Aside0.mk (Kd.R_drewN HOA.out nq)
        go_wp2_with (first | (at_mapUpdate; refine impl_Disk_used.put rfl _ _ _ rfl w.heap.size n seen (rd_T63 l i).f1 rfl HSB.out HN0.out rfl rfl HWF.out ?_; intro w9 hs9 hg9))
        go_roundg (gk - 1)
        case measure => have := HK1.out; have := HC3.out; omega
        case rel =>
          have hw1 : wrap64 (i + 1) = i + 1 := by have := HC3.out; have := HP.out; unfold wrap64; omega
          have hw2 : (i + 1).toNat = i.toNat + 1 := by have := HP.out; omega
          refine ⟨wrap64 (a + ((rd_T49 B (rd_T63 l i).f1).f0.size : Int)), wrap64 (i + 1), (rd_T63 l i).f1 :: seen, n + 1, rfl, rfl, ⟨?_⟩, ⟨?_⟩, ⟨?_⟩, ⟨Kd.R_grown HOB.out hg9 (fun k hk he => hk (Option.some.inj he))⟩, ⟨pw_below_grown HBB.out (some w.heap.size) HBB.out.size hg9 (fun k hk => Nat.le_of_eq (Option.some.inj hk))⟩⟩
          · rw [hw1]; have := HK1.out; have := HC3.out; omega
          · rw [hw1, hw2]; exact HGD.out.symm
          · rw [hw1, hw2]; exact ⟨hs9, by have := HS.out.2; omega⟩
    · have c3b0 : decide (i < (l.length : Int)) = false := decide_eq_false c3
      have HC3 := Aside0.mk c3
      clear c3
      go_wp2
      go_ret
      have h1 := HR.out
      have h2 := HC3.out
      rw [List.drop_of_length_le (by have := HK1.out; omega), impl_Disk_used.go] at h1
      exact ⟨by rw [Option.some.inj h1]; rfl, HB.out⟩
theorem impl_Disk_used.calls (g : Nat) (s0_0 : List (S49)) (s0_1 : List (S63)) (s0_2 : List (S63)) (s0_3 : Int) (r : Int) (w0 w : World) (hI : IsS31 w0 w g s0_0 s0_1 s0_2 s0_3) (hB : Below w0.heap.size w0 w) (h : impl_Disk_used.f s0_0 s0_1 s0_2 s0_3 = some r) :
    Calls Tryd.prog 36 #[.pointer (some ⟨g, 0, none⟩)] w fun e w' => e = .returned (.int .i64 r) ∧ IsS31 w0 w' g s0_0 s0_1 s0_2 s0_3 ∧ Below w0.heap.size w0 w' ∧ KeepF w w' g none := by
 unfold impl_Disk_used.f at h
 split at h
 rotate_left
 · cases h
 rename_i hh
 have hI' := hI
 obtain ⟨A0, c0, A1, c1, A2, c2, hg, hge, h0, l0, h1, l1, h2, l2⟩ := hI'
 refine (impl_Disk_used.core g A0 c0 s0_0 A1 c1 s0_1 A2 c2 s0_2 s0_3 r w hg (Kd.C_below h0 hB) l0 (Kd.C_below h1 hB) l1 (Kd.C_below h2 hB) l2 hh.1 hh.2.1 hh.2.2 h).mono ?_
 rintro e w' ⟨he, hb⟩
 exact ⟨he, hI.below hb, below_step hB hb, hb⟩
/-! ### slices_IndexFunc_f33: function 49 -/
def slices_IndexFunc_f33.l0 : Nat → List (S49) → Int → Int → Option (Int)
  | 0, _, _, _ => none
  | k + 1, x0, x7, x8 => if x8 < x7 then (if 0 ≤ x8 then (if x8 < (x0.length : Int) then ((impl_GoodDisk_1.f ((rd_T49 x0 x8).f0) ((rd_T49 x0 x8).f1)).bind fun t200 => (if t200 = true then (some x8) else (slices_IndexFunc_f33.l0 k x0 x7 (wrap64 (x8 + 1))))) else (none)) else (none)) else (some (-1))
def slices_IndexFunc_f33.f (k : Nat) (l0 : List (S49))  : Option (Int) := slices_IndexFunc_f33.l0 k l0 (l0.length : Int) 0
theorem slices_IndexFunc_f33.mono_l : ∀ k, (∀ y0 y1 y2, LeO (slices_IndexFunc_f33.l0 k y0 y1 y2) (slices_IndexFunc_f33.l0 (k + 1) y0 y1 y2))
  | 0 => fun _ _ _ r h => by simp [slices_IndexFunc_f33.l0] at h
  | k + 1 => by
    have ih0 := slices_IndexFunc_f33.mono_l k
    · intro y0 y1 y2
      unfold slices_IndexFunc_f33.l0
      repeat' first
      | (with_reducible exact ih0 _ _ _)
      | (with_reducible exact LeO.refl _)
      | (with_reducible exact LeO.none _)
      | (with_reducible refine LeO.ite ?_ ?_)
      | (with_reducible refine LeO.bind ?_ (fun _ => ?_))
      | exact ih0 _ _ _
      | exact LeO.none _
      | refine LeO.ite ?_ ?_
      | refine LeO.bind ?_ (fun _ => ?_)
theorem slices_IndexFunc_f33.mono : ∀ a0 k, LeO (slices_IndexFunc_f33.f k a0) (slices_IndexFunc_f33.f (k + 1) a0) := by
  intro a0 k
  have ih0 := slices_IndexFunc_f33.mono_l k
  unfold slices_IndexFunc_f33.f
  repeat' first
      | (with_reducible exact ih0 _ _ _)
      | (with_reducible exact LeO.refl _)
      | (with_reducible exact LeO.none _)
      | (with_reducible refine LeO.ite ?_ ?_)
      | (with_reducible refine LeO.bind ?_ (fun _ => ?_))
      | exact ih0 _ _ _
      | exact LeO.none _
      | refine LeO.ite ?_ ?_
      | refine LeO.bind ?_ (fun _ => ?_)
set_option maxHeartbeats 8000000 in
set_option maxRecDepth 100000 in
theorem slices_IndexFunc_f33.calls (k : Nat) (A0 : Option Addr) (c0 : Nat) (l0 : List (S49))  (r : Int) (w : World) (hr0 : Kd.C k49 w A0 l0.length l0) (hc0 : l0.length ≤ c0) (h : slices_IndexFunc_f33.f k l0 = some r) :
    Calls Tryd.prog 49 #[.slice A0 l0.length c0, .func (.func 33) #[] #[]] w fun e w' => e = .returned (.int .i64 r) ∧ Below w.heap.size w w' := by
 have hu49 := Tryd.underlying49
 have HR0 := Aside0.mk hr0
 have HC0 := Aside0.mk hc0
 clear hr0 hc0
 have HB := Aside0.mk (Below.refl w.heap.size w)
 have H : (slices_IndexFunc_f33.l0 k l0 (l0.length : Int) 0) = some r := h
 clear h
 have H' := Aside0.mk H
 clear H
 go_enter Tryd.func49, Tryd.ntmps49
 go_wp2
 go_loopg [8] k (fun kq v8 w' => ∃ (x8_1 : Int), v8 = .int .i64 x8_1 ∧ Aside0 (slices_IndexFunc_f33.l0 kq l0 (l0.length : Int) x8_1 = some r) ∧ Aside0 (kq ≤ k) ∧ Aside0 (Below w.heap.size w w'))
 case atStart => exact ⟨(0), (by first | rfl | (simp; done) | (simp [*]; done)), H', ⟨Nat.le_refl _⟩, ⟨by repeat (first | (with_reducible first | exact HB.out | apply below_alloc | apply pw_below_drewN | apply below_drew1) | exact HB.out)⟩⟩
 case round =>
  clear H'
  try clear p2
  obtain ⟨x8_1, rfl, HA, HK1, HB⟩ := hrel
  cases gk with
  | zero => exact absurd HA.out (by simp [slices_IndexFunc_f33.l0])
  | succ k1 =>
   have H := HA.out
   clear HA
   simp only [slices_IndexFunc_f33.l0] at H
   by_cases c3 : x8_1 < (l0.length : Int)
   rotate_left
   · rw [if_neg c3] at H
     have c3b0 : decide (x8_1 < (l0.length : Int)) = false := decide_eq_false c3
     clear c3
     obtain rfl := Option.some.inj H
     go_wp2
     go_ret
     exact ⟨by first | rfl | (simp [errW_none, errW_some] <;> rfl) | (simp [*, errW_none, errW_some] <;> rfl), by repeat (first | (with_reducible first | exact HB.out | apply below_alloc | apply pw_below_drewN | apply below_drew1) | exact HB.out)⟩
   rw [if_pos c3] at H
   have c3b0 : decide (x8_1 < (l0.length : Int)) = true := decide_eq_true c3
   clear c3
   by_cases c4 : 0 ≤ x8_1
   rotate_left
   · rw [if_neg c4] at H
     exact absurd H (by simp)
   rw [if_pos c4] at H
   have c4b0 : decide (0 ≤ x8_1) = true := decide_eq_true c4
   clear c4
   by_cases c5 : x8_1 < (l0.length : Int)
   rotate_left
   · rw [if_neg c5] at H
     exact absurd H (by simp)
   rw [if_pos c5] at H
   have c5b0 : decide (x8_1 < (l0.length : Int)) = true := decide_eq_true c5
   clear c5
   replace H := Option.bind_eq_some_iff.mp H
   obtain ⟨t200, A60, H⟩ := H
   replace H : (if t200 = true then (some x8_1) else (slices_IndexFunc_f33.l0 k1 l0 (l0.length : Int) (wrap64 (x8_1 + 1)))) = some r := H
   have A6 := Aside0.mk A60
   clear A60
   by_cases c7 : t200 = true
   · subst c7
     have H1 : (some x8_1) = some r := by rw [if_pos rfl] at H; exact H
     clear H
     have H := H1
     clear H1
     obtain rfl := Option.some.inj H
     have p199 : 0 ≤ (x8_1 : Int) := of_decide_eq_true (by first | (with_reducible assumption) | assumption)
     have q199 : x8_1 < (l0.length : Int) := of_decide_eq_true (by first | (with_reducible assumption) | assumption)
     obtain ⟨ad199, e199, hx199_0, hx199_1⟩ := at_T49 HR0.out x8_1 p199 q199
     cases e199
     replace hx199_0 := (HB.out.cell (World.block_lt_of_cell? w _ hx199_0)).trans hx199_0
     replace hx199_1 := (HB.out.cell (World.block_lt_of_cell? w _ hx199_1)).trans hx199_1
     replace p199 := eq_true p199
     replace q199 := eq_true q199
     go_wp2_with (first | (go_at_call 33; (with_reducible refine (impl_GoodDisk_1.calls ((rd_T49 l0 x8_1).f0) ((rd_T49 l0 x8_1).f1) true _ A6.out).mono ?_); rintro e w8 ⟨rfl, hb⟩; have n0_ := Aside0.mk (below_step (by repeat (first | (with_reducible first | exact HB.out | apply below_alloc | apply pw_below_drewN | apply below_drew1) | exact HB.out)) hb); clear HB; have HB := n0_; clear n0_; (try clear hb); (try clear hb2); (try clear hk); (try clear hi)))
     go_ret
     exact ⟨by first | rfl | (simp [errW_none, errW_some] <;> rfl) | (simp [*, errW_none, errW_some] <;> rfl), by repeat (first | (with_reducible first | exact HB.out | apply below_alloc | apply pw_below_drewN | apply below_drew1) | exact HB.out)⟩
   replace c7 := Bool.eq_false_iff.mpr c7
   subst c7
   have H1 : (slices_IndexFunc_f33.l0 k1 l0 (l0.length : Int) (wrap64 (x8_1 + 1))) = some r := by rw [if_neg (show ¬ (false = true) by decide)] at H; exact H
   clear H
   have H := H1
   clear H1
   have H' := Aside0.mk H
   clear H
   have p199 : 0 ≤ (x8_1 : Int) := of_decide_eq_true (by first | (with_reducible assumption) | assumption)
   have q199 : x8_1 < (l0.length : Int) := of_decide_eq_true (by first | (with_reducible assumption) | assumption)
   obtain ⟨ad199, e199, hx199_0, hx199_1⟩ := at_T49 HR0.out x8_1 p199 q199
   cases e199
   replace hx199_0 := (HB.out.cell (World.block_lt_of_cell? w _ hx199_0)).trans hx199_0
   replace hx199_1 := (HB.out.cell (World.block_lt_of_cell? w _ hx199_1)).trans hx199_1
   replace p199 := eq_true p199
   replace q199 := eq_true q199
   go_wp2_with (first | (go_at_call 33; (with_reducible refine (impl_GoodDisk_1.calls ((rd_T49 l0 x8_1).f0) ((rd_T49 l0 x8_1).f1) false _ A6.out).mono ?_); rintro e w9 ⟨rfl, hb⟩; have n0_ := Aside0.mk (below_step (by repeat (first | (with_reducible first | exact HB.out | apply below_alloc | apply pw_below_drewN | apply below_drew1) | exact HB.out)) hb); clear HB; have HB := n0_; clear n0_; (try clear hb); (try clear hb2); (try clear hk); (try clear hi)))
   go_roundg k1
   case measure => have := HK1.out; omega
   case rel => exact ⟨(wrap64 (x8_1 + 1)), (by first | rfl | (simp; done) | (simp [*]; done)), H', ⟨by have := HK1.out; omega⟩, ⟨by repeat (first | (with_reducible first | exact HB.out | apply below_alloc | apply pw_below_drewN | apply below_drew1) | exact HB.out)⟩⟩
/-! ### slices_ContainsFunc_f33: function 32 -/
def slices_ContainsFunc_f33.f (k : Nat) (l0 : List (S49))  : Option (Bool) := (slices_IndexFunc_f33.f k l0).bind fun t201 => (some (decide (t201 ≥ 0)))
theorem slices_ContainsFunc_f33.mono : ∀ a0 k, LeO (slices_ContainsFunc_f33.f k a0) (slices_ContainsFunc_f33.f (k + 1) a0) := by
  intro a0 k
  unfold slices_ContainsFunc_f33.f
  repeat' first
      | (with_reducible exact slices_IndexFunc_f33.mono _ _)
      | (with_reducible exact LeO.refl _)
      | (with_reducible exact LeO.none _)
      | (with_reducible refine LeO.ite ?_ ?_)
      | (with_reducible refine LeO.bind ?_ (fun _ => ?_))
      | exact slices_IndexFunc_f33.mono _ _
      | exact LeO.none _
      | refine LeO.ite ?_ ?_
      | refine LeO.bind ?_ (fun _ => ?_)
set_option maxHeartbeats 8000000 in
set_option maxRecDepth 100000 in
theorem slices_ContainsFunc_f33.calls (k : Nat) (A0 : Option Addr) (c0 : Nat) (l0 : List (S49))  (r : Bool) (w : World) (hr0 : Kd.C k49 w A0 l0.length l0) (hc0 : l0.length ≤ c0) (h : slices_ContainsFunc_f33.f k l0 = some r) :
    Calls Tryd.prog 32 #[.slice A0 l0.length c0, .func (.func 33) #[] #[]] w fun e w' => e = .returned (.bool r) ∧ Below w.heap.size w w' := by
 have HR0 := Aside0.mk hr0
 have HC0 := Aside0.mk hc0
 clear hr0 hc0
 have HB := Aside0.mk (Below.refl w.heap.size w)
 have H : ((slices_IndexFunc_f33.f k l0).bind fun t201 => (some (decide (t201 ≥ 0)))) = some r := h
 clear h
 replace H := Option.bind_eq_some_iff.mp H
 obtain ⟨t201, A30, H⟩ := H
 replace H : (some (decide (t201 ≥ 0))) = some r := H
 have A3 := Aside0.mk A30
 clear A30
 obtain rfl := Option.some.inj H
 go_enter Tryd.func32, Tryd.ntmps32
 go_wp2_with (first | ((with_reducible refine gate_callee (f := 49) rfl ?_); refine goesL_ (some 7) rfl rfl Tryd.func49 (by kernel_rfl) rfl #[.slice A0 l0.length c0, .func (.func 33) #[] #[]] rfl (by (try simp only [List.map_toArray, List.map_cons, List.map_nil]); first | done | rfl | (simp only [List.length_drop, List.length_take]; rfl)) ?_; (with_reducible refine (slices_IndexFunc_f33.calls k _ _ l0  t201 _ ?side1 ?side2 A3.out).mono ?_); (case side1 => repeat (first | exact HR0.out | (with_reducible refine Kd.C_alloc ?_ _) | (with_reducible refine Kd.C_drewN ?_ _) | (with_reducible refine Kd.C_drew ?_))); (case side2 => exact HC0.out); rintro e w4 ⟨rfl, hb⟩; refine ⟨_, rfl, ?_⟩; have n0_ := Aside0.mk (below_step (by repeat (first | (with_reducible first | exact HB.out | apply below_alloc | apply pw_below_drewN | apply below_drew1) | exact HB.out)) hb); clear HB; have HB := n0_; clear n0_; (try clear hb); (try clear hb2); (try clear hk); (try clear hi)))
 go_ret
 exact ⟨by first | rfl | (simp [errW_none, errW_some] <;> rfl) | (simp [*, errW_none, errW_some] <;> rfl), by repeat (first | (with_reducible first | exact HB.out | apply below_alloc | apply pw_below_drewN | apply below_drew1) | exact HB.out)⟩
end Go.Proofs.YtocmgmolbfhkaaaDoor.MFnExactUsedOf
