import Derived.Test.YtffjlpphcjfdgaaRows
import Derived.Test.YtffjlpphcjfdgaaMFnExactNewSkipx2
import Derived.LoopN
import Derived.WalkKit
import Derived.ProofKit
import Derived.OpenShut
import Derived.ShutString
import Derived.ChangeOld
import Derived.Below
import Derived.SizedLaws
namespace Go.Proofs.Ytffjlpphcjfdgaa
set_option linter.unusedVariables false
set_option linter.unusedSimpArgs false
open Go.RowKit Go.Proofs.YtffjlpphcjfdgaaW.PrintWords Go.Proofs.YtffjlpphcjfdgaaW.PrintLast Go.Proofs.YtffjlpphcjfdgaaW.PrintMore Go.Proofs.Ytffjlpphcjfdgaa.MFnExactNewSkip
theorem markTower0 (A : Option Addr) (c : Nat) (x : Int) (w : World) : Calls Try.prog 13 #[.slice A 0 c, .int .i64 x] w fun e w' => e = .returned (.int .i64 x) ∧ Below w.heap.size w w' := by
  have HB := Below.refl w.heap.size w
  go_enter Try.func13, Try.ntmps13
  go_wp2
  refine wp_loop_rounds 1 ?_
  rw [rounds_succ]
  go_wp2
  go_ret
  exact ⟨rfl, by repeat (first | exact HB | apply below_alloc | apply pw_below_drewN | apply below_drew1)⟩
theorem heldTower0 (A : Option Addr) (c : Nat) (x : Int) (w : World) : Calls Try.prog 15 #[.slice A 0 c, .int .i64 x] w fun e w' => e = .returned (.int .i64 x) ∧ Below w.heap.size w w' := by
  have HB := Below.refl w.heap.size w
  go_enter Try.func15, Try.ntmps15
  go_wp2
  refine wp_loop_rounds 1 ?_
  rw [rounds_succ]
  go_wp2
  go_ret
  exact ⟨rfl, by repeat (first | exact HB | apply below_alloc | apply pw_below_drewN | apply below_drew1)⟩
theorem markInt5 (P0 : Nat → Prop) (v : Value) (l : List Int) (w0 w : World) (hB : Below w0.heap.size w0 w) (ho : Kd.R (Kd.int .i64) 3 w w0.heap.size P0 v l) (hl : l = [-1, -1, -1, -1, -1]) :
    Calls Try.prog 12 #[v, .int .i64 1] w fun e w' => e = .returned (.int .i64 6) ∧ Kd.R (Kd.int .i64) 3 w' w0.heap.size (fun k_ => (P0 k_ ∨ w.heap.size ≤ k_)) v [1, 2, 3, 4, 5] ∧ Below w0.heap.size w0 w' ∧ Kept w w' (fun k_ => P0 k_) := by
  subst hl
  exact laws_markIntS.calls 7 P0 v _ 1 6 [1, 2, 3, 4, 5] w0 w hB ho (by decide +kernel)
theorem markSkip0 (P0 : Nat → Prop) (v : Value) (A : Option Addr) (c : Nat) (w0 w : World) (hB : Below w0.heap.size w0 w) (ho : Kd.R (Kd.int .i64) 3 w w0.heap.size P0 v [-1, -1, -1, -1, -1]) :
    Calls Try.prog 7 #[.agg #[v, .slice A 0 c], .int .i64 1] w fun e w' => e = .returned (.int .i64 6) ∧ Kd.R (Kd.int .i64) 3 w' w0.heap.size (fun _ => True) v [1, 2, 3, 4, 5] ∧ Below w0.heap.size w0 w' ∧ Kept w w' P0 := by
  have hu25 := Try.underlying25
  have HO := Kd.R_mono (ok' := fun k => P0 k ∧ k < w.heap.size) (Kd.R_bound ho) (fun k hk => ⟨hk.1, hk.2.2.1⟩)
  have HB := hB
  clear hB ho
  go_enter Try.func7, Try.ntmps7
  go_wp2_with (first
    | ((with_reducible refine gate_dst (N := 2) rfl ?_); refine box_event ?hg (N := 2) ?hd (cs := #[v, .slice A 0 c]) (t := 25) ?hr ?_; (case hd => rfl); (case hg => rfl); (case hr => first | (go_simp; done) | (go_simp; rfl)); intro gb hg w5 hbox hb; have HB5 := below_then HB (by first | exact HB.size | exact (below_size HB)) hb; have HO5 := Kd.R_below HO hb; have hcz0 : w5.cell? ⟨gb, 0, none⟩ = some v := (blk_cell hbox 0).trans rfl; have hfz0 := blk_frozen hbox 0; have hge := Aside0.mk (Nat.le_of_eq hg.symm); clear hg)
    | ((with_reducible refine gate_callee (f := 12) rfl ?_); refine goesL_ (some 8) rfl rfl Try.func12 (by kernel_rfl) rfl #[v, .int .i64 1] rfl (by (try simp only [List.map_toArray, List.map_cons, List.map_nil]); first | done | rfl) ?_; refine (markInt5 _ v _ w0 _ HB5 HO5 rfl).mono ?_; rintro e w6 ⟨rfl, HO6, HB6, HK6⟩; refine ⟨_, rfl, ?_⟩; have hbox6 := blk_kept hbox HK6 (by have := hge.out; intro hq; omega); have hcz6 : w6.cell? ⟨gb, 1, none⟩ = some (.slice A 0 c) := (blk_cell hbox6 1).trans rfl; have hfz6 := blk_frozen hbox6 1)
    | ((with_reducible refine gate_callee (f := 13) rfl ?_); refine goesL_ (some 12) rfl rfl Try.func13 (by kernel_rfl) rfl #[.slice A 0 c, .int .i64 6] rfl (by (try simp only [List.map_toArray, List.map_cons, List.map_nil]); first | done | rfl) ?_; refine (markTower0 _ _ _ _).mono ?_; rintro e w7 ⟨rfl, HB7⟩; refine ⟨_, rfl, ?_⟩))
  go_ret
  exact ⟨rfl, Kd.R_mono (Kd.R_below HO6 HB7) (fun _ _ => trivial), below_then HB6 HB6.size HB7, Kept.below ((Kept.of_below hb P0).then_ HK6 (fun k hk => .inl hk.1)) HB7⟩
theorem heldInt5 (A : Option Addr) (c : Nat) (w : World) (hr : Kd.C (Kd.int .i64) w A 5 [1, 2, 3, 4, 5]) (hc : 5 ≤ c) :
    Calls Try.prog 14 #[.slice A 5 c, .int .i64 1] w fun e w' => e = .returned (.int .i64 6) ∧ Below w.heap.size w w' :=
  (laws_heldIntS.calls 7 A c [1, 2, 3, 4, 5] 1 6 w hr hc (by decide +kernel)).mono (by rintro e w' ⟨rfl, nd, rfl⟩; exact ⟨rfl, pw_below_drewN (Below.refl _ _) _⟩)
theorem heldSkip0 (A0 : Option Addr) (c0 : Nat) (A : Option Addr) (c : Nat) (w : World) (hr : Kd.C (Kd.int .i64) w A0 5 [1, 2, 3, 4, 5]) (hc : 5 ≤ c0) :
    Calls Try.prog 8 #[.agg #[.slice A0 5 c0, .slice A 0 c], .int .i64 1] w fun e w' => e = .returned (.int .i64 6) ∧ Below w.heap.size w w' := by
  have hu25 := Try.underlying25
  go_enter Try.func8, Try.ntmps8
  go_wp2_with (first
    | ((with_reducible refine gate_dst (N := 2) rfl ?_); refine box_event ?hg (N := 2) ?hd (cs := #[.slice A0 5 c0, .slice A 0 c]) (t := 25) ?hr ?_; (case hd => rfl); (case hg => rfl); (case hr => first | (go_simp; done) | (go_simp; rfl)); intro gb hg w5 hbox hb; have HR5 := Kd.C_below hr hb; have hcz0 : w5.cell? ⟨gb, 0, none⟩ = some (.slice A0 5 c0) := (blk_cell hbox 0).trans rfl; have hfz0 := blk_frozen hbox 0; clear hg)
    | ((with_reducible refine gate_callee (f := 14) rfl ?_); refine goesL_ (some 8) rfl rfl Try.func14 (by kernel_rfl) rfl #[.slice A0 5 c0, .int .i64 1] rfl (by (try simp only [List.map_toArray, List.map_cons, List.map_nil]); first | done | rfl) ?_; refine (heldInt5 _ _ _ HR5 hc).mono ?_; rintro e w6 ⟨rfl, HB6⟩; refine ⟨_, rfl, ?_⟩; have hbox6 := blk_below hbox HB6; have hcz6 : w6.cell? ⟨gb, 1, none⟩ = some (.slice A 0 c) := (blk_cell hbox6 1).trans rfl; have hfz6 := blk_frozen hbox6 1)
    | ((with_reducible refine gate_callee (f := 15) rfl ?_); refine goesL_ (some 14) rfl rfl Try.func15 (by kernel_rfl) rfl #[.slice A 0 c, .int .i64 6] rfl (by (try simp only [List.map_toArray, List.map_cons, List.map_nil]); first | done | rfl) ?_; refine (heldTower0 _ _ _ _).mono ?_; rintro e w7 ⟨rfl, HB7⟩; refine ⟨_, rfl, ?_⟩))
  go_ret
  exact ⟨rfl, below_then (below_then hb hb.size HB6) (by have := hb.size; have := HB6.size; omega) HB7⟩
theorem eqSkip0 (A0 : Option Addr) (c0 : Nat) (A : Option Addr) (c : Nat) (B0 : Option Addr) (d0 : Nat) (B : Option Addr) (d : Nat) (w : World) (hr : Kd.C (Kd.int .i64) w A0 5 [-1, -1, -1, -1, -1]) (hc : 5 ≤ c0) (hr' : Kd.C (Kd.int .i64) w B0 5 [-1, -1, -1, -1, -1]) (hd : 5 ≤ d0) :
    Calls Try.prog 6 #[.agg #[.slice A0 5 c0, .slice A 0 c], .agg #[.slice B0 5 d0, .slice B 0 d]] w fun e w' => e = .returned (.bool true) ∧ Below w.heap.size w w' :=
  laws_eqSkip.calls 8 A0 c0 [-1, -1, -1, -1, -1] A c [] B0 d0 [-1, -1, -1, -1, -1] B d [] true w hr hc ⟨rfl, by simp, fun h => absurd h (Nat.lt_irrefl 0)⟩ (Nat.zero_le _) hr' hd ⟨rfl, by simp, fun h => absurd h (Nat.lt_irrefl 0)⟩ (Nat.zero_le _) (by decide +kernel)
theorem made5 {w' : World} {b : Nat} {ok ok' : Nat → Prop} {v0 v1 : Value} (h0 : Kd.R (Kd.int .i64) 3 w' b ok v0 [-1, -1, -1, -1, -1]) (h1 : Kd.S k42 42 w' b ok' v1 []) :
    ∃ A0 c0 A c, v0 = .slice A0 5 c0 ∧ v1 = .slice A 0 c ∧ 5 ≤ c0 ∧ Kd.C (Kd.int .i64) w' A0 5 [-1, -1, -1, -1, -1] := by
  obtain ⟨A0, c0, rfl, hc, hr⟩ := Kd.R_reads h0
  obtain ⟨A, c, rfl⟩ := Kd.S_slice h1
  exact ⟨A0, c0, A, c, rfl, rfl, hc, hr⟩
theorem specNew5 (w : World) : Calls Try.prog 4 #[] w fun e w' => ∃ A0 c0 A c, e = .returned (.agg #[.slice A0 5 c0, .slice A 0 c]) ∧ 5 ≤ c0 ∧ Kd.C (Kd.int .i64) w' A0 5 [-1, -1, -1, -1, -1] ∧ Below w.heap.size w w' :=
  (spec_NewSkip.calls 8 [-1, -1, -1, -1, -1] [] w (by kernel_rfl)).mono (by
    rintro e w' ⟨v0, v1, rfl, h0, h1, hb⟩
    obtain ⟨A0, c0, A, c, rfl, rfl, hc, hr⟩ := made5 h0 h1
    exact ⟨A0, c0, A, c, rfl, hc, hr, hb⟩)
theorem implNew5 (w : World) : Calls Try.prog 5 #[] w fun e w' => ∃ A0 c0 A c, e = .returned (.agg #[.slice A0 5 c0, .slice A 0 c]) ∧ 5 ≤ c0 ∧ Kd.R (Kd.int .i64) 3 w' w.heap.size (fun _ => True) (.slice A0 5 c0) [-1, -1, -1, -1, -1] ∧ Below w.heap.size w w' :=
  (impl_NewSkip.calls [-1, -1, -1, -1, -1] [] w (by rfl)).mono (by
    rintro e w' ⟨v0, v1, rfl, h0, h1, hb⟩
    obtain ⟨A0, c0, A, c, rfl, rfl, hc, hr⟩ := made5 h0 h1
    exact ⟨A0, c0, A, c, rfl, hc, h0, hb⟩)

theorem boxed {w2 : World} {g : Nat} {t : TypeId} {a b v u : Value} (h : w2.heap[g]? = some (.cells #[a, b] t (0, 0))) :
    ((w2.setCell ⟨g, 0, none⟩ v).setCell ⟨g, 1, none⟩ u).heap[g]? = some (.cells #[v, u] t (0, 0)) ∧ ∀ B w0, Below B w0 w2 → B ≤ g → Below B w0 ((w2.setCell ⟨g, 0, none⟩ v).setCell ⟨g, 1, none⟩ u) :=
  ⟨blk_put (blk_put h 0 v rfl) 1 u rfl, fun B w0 hb hg => (hb.setCell hg _).setCell hg _⟩
set_option maxHeartbeats 8000000 in
set_option maxRecDepth 100000 in
theorem law_walk (w : World) : Calls Try.prog 3 #[] w fun e w' => e = .returned (.bool true) ∧ Below w.heap.size w w' := by
  have hu25 := Try.underlying25
  go_enter Try.func3, Try.ntmps3
  go_upto_region 2 with (first
    | ((with_reducible refine gate_callee (f := 4) rfl ?_); refine goesL_ (some 6) rfl rfl Try.func4 (by kernel_rfl) rfl #[] rfl (by (try simp only [List.map_toArray, List.map_cons, List.map_nil]); first | done | rfl) ?_; refine (specNew5 _).mono ?_; rintro e w1 ⟨A0, c0, A, c, rfl, hc0, hr0, hb1⟩; refine ⟨_, rfl, ?_⟩)
    | ((with_reducible refine gate_dst (N := 1) rfl ?_); refine box_event ?hg (N := 1) ?hd (cs := #[.slice none 0 0, .slice none 0 0]) (t := 25) ?hr ?_; (case hd => rfl); (case hg => rfl); (case hr => first | (go_simp; done) | (go_simp; rfl)); intro g1 hg w2 hbox1 hb2; have hge1 := Aside0.mk (Nat.le_of_eq (Eq.symm hg)); clear hg; have hz10 : (w2).cell? ⟨g1, 0, none⟩ = some (.slice none 0 0) := (blk_cell hbox1 0).trans rfl; have hz11 : (w2).cell? ⟨g1, 1, none⟩ = some (.slice none 0 0) := (blk_cell hbox1 1).trans rfl; have hf10 := blk_frozen hbox1 0; have hf11 := blk_frozen hbox1 1))
  obtain ⟨hx1, hl1⟩ := boxed (v := .slice A0 5 c0) (u := .slice A 0 c) hbox1
  replace hl1 := hl1 w1.heap.size w1 hb2 hge1.out
  generalize ((w2.setCell ⟨g1, 0, none⟩ (.slice A0 5 c0)).setCell ⟨g1, 1, none⟩ (.slice A 0 c)) = W1 at hx1 hl1 ⊢
  have hr1 := Kd.C_below hr0 hl1
  have b1 : Below w.heap.size w W1 := below_then hb1 hb1.size hl1
  clear hz10 hz11 hf10 hf11 hbox1 hl1 hr0 hb1 hb2 hge1 w2 w1
  go_upto_region 3 with (first
    | ((with_reducible refine gate_callee (f := 5) rfl ?_); refine goesL_ (some 7) rfl rfl Try.func5 (by kernel_rfl) rfl #[] rfl (by (try simp only [List.map_toArray, List.map_cons, List.map_nil]); first | done | rfl) ?_; refine (implNew5 _).mono ?_; rintro e w3 ⟨B0, d0, B, d, rfl, hd0, HO, hb3⟩; refine ⟨_, rfl, ?_⟩)
    | ((with_reducible refine gate_dst (N := 2) rfl ?_); refine box_event ?hg (N := 2) ?hd (cs := #[.slice none 0 0, .slice none 0 0]) (t := 25) ?hr ?_; (case hd => rfl); (case hg => rfl); (case hr => first | (go_simp; done) | (go_simp; rfl)); intro g2 hg w4 hbox2 hb4; have hge2 := Aside0.mk (Nat.le_of_eq (Eq.symm hg)); clear hg; have hz20 : (w4).cell? ⟨g2, 0, none⟩ = some (.slice none 0 0) := (blk_cell hbox2 0).trans rfl; have hz21 : (w4).cell? ⟨g2, 1, none⟩ = some (.slice none 0 0) := (blk_cell hbox2 1).trans rfl; have hf20 := blk_frozen hbox2 0; have hf21 := blk_frozen hbox2 1))
  obtain ⟨hx2, hl2⟩ := boxed (v := .slice B0 5 d0) (u := .slice B 0 d) hbox2
  replace hl2 := hl2 w3.heap.size w3 hb4 hge2.out
  generalize ((w4.setCell ⟨g2, 0, none⟩ (.slice B0 5 d0)).setCell ⟨g2, 1, none⟩ (.slice B 0 d)) = W3 at hx2 hl2 ⊢
  have HO3 := Kd.R_below (Kd.R_mono (ok' := fun k => k < w3.heap.size) (Kd.R_bound HO) (fun k hk => hk.2.2.1)) hl2
  have b13 : Below W1.heap.size W1 W3 := below_then hb3 hb3.size hl2
  have hr3 := Kd.C_below hr1 b13
  have hg3 := Kd.R_reads' HO3
  have hx13 := blk_below hx1 b13
  have p30 : W3.cell? ⟨g1, 0, none⟩ = some (.slice A0 5 c0) := (blk_cell hx13 0).trans rfl
  have p31 : W3.cell? ⟨g1, 1, none⟩ = some (.slice A 0 c) := (blk_cell hx13 1).trans rfl
  have q30 : W3.cell? ⟨g2, 0, none⟩ = some (.slice B0 5 d0) := (blk_cell hx2 0).trans rfl
  have q31 : W3.cell? ⟨g2, 1, none⟩ = some (.slice B 0 d) := (blk_cell hx2 1).trans rfl
  clear hz20 hz21 hf20 hf21 hbox2 hb4 w4 hl2 hb3
  go_upto_region 6 with (first
    | ((with_reducible refine gate_callee (f := 6) rfl ?_); refine goesL_ (some 10) rfl rfl Try.func6 (by kernel_rfl) rfl #[(.agg #[.slice B0 5 d0, .slice B 0 d]), (.agg #[.slice A0 5 c0, .slice A 0 c])] rfl (by (try simp only [List.map_toArray, List.map_cons, List.map_nil]); first | done | rfl) ?_; refine (eqSkip0 _ _ _ _ _ _ _ _ _ hg3.2.2 hd0 hr3 hc0).mono ?_; rintro e w5 ⟨rfl, hb5⟩; refine ⟨_, rfl, ?_⟩))
  have b15 : Below W1.heap.size W1 w5 := below_then b13 b13.size hb5
  have hx25 := blk_below hx2 hb5
  have HO5 := Kd.R_below HO3 hb5
  have q50 : w5.cell? ⟨g2, 0, none⟩ = some (.slice B0 5 d0) := (blk_cell hx25 0).trans rfl
  have q51 : w5.cell? ⟨g2, 1, none⟩ = some (.slice B 0 d) := (blk_cell hx25 1).trans rfl
  clear p30 p31 q30 q31
  go_upto_region 8 with (first
    | ((with_reducible refine gate_callee (f := 7) rfl ?_); refine goesL_ (some 14) rfl rfl Try.func7 (by kernel_rfl) rfl #[(.agg #[.slice B0 5 d0, .slice B 0 d]), .int .i64 1] rfl (by (try simp only [List.map_toArray, List.map_cons, List.map_nil]); first | done | rfl) ?_; refine (markSkip0 _ _ _ _ W1 _ b15 HO5).mono ?_; rintro e w6 ⟨rfl, HO6, b16, hk6⟩; refine ⟨_, rfl, ?_⟩))
  have hx26 := blk_kept hx25 hk6 (by have := hge2.out; intro hq; omega)
  have hr6 := Kd.C_below hr1 b16
  have hg6 := (Kd.R_reads' HO6).2.2
  have q60 : w6.cell? ⟨g2, 0, none⟩ = some (.slice B0 5 d0) := (blk_cell hx26 0).trans rfl
  have q61 : w6.cell? ⟨g2, 1, none⟩ = some (.slice B 0 d) := (blk_cell hx26 1).trans rfl
  clear q50 q51
  go_upto_region 13 with (first
    | ((with_reducible refine gate_callee (f := 8) rfl ?_); refine goesL_ (some 17) rfl rfl Try.func8 (by kernel_rfl) rfl #[(.agg #[.slice B0 5 d0, .slice B 0 d]), .int .i64 1] rfl (by (try simp only [List.map_toArray, List.map_cons, List.map_nil]); first | done | rfl) ?_; refine (heldSkip0 _ _ _ _ _ hg6 hd0).mono ?_; rintro e w7 ⟨rfl, hb7⟩; refine ⟨_, rfl, ?_⟩))
  have b17 : Below W1.heap.size W1 w7 := below_then b16 b16.size hb7
  clear q60 q61
  go_upto_region 14 with (first
    | ((with_reducible refine gate_callee (f := 5) rfl ?_); refine goesL_ (some 23) rfl rfl Try.func5 (by kernel_rfl) rfl #[] rfl (by (try simp only [List.map_toArray, List.map_cons, List.map_nil]); first | done | rfl) ?_; refine (implNew5 _).mono ?_; rintro e w8 ⟨E0, f0, E, f, rfl, hf0, HO8, hb8⟩; refine ⟨_, rfl, ?_⟩)
    | ((with_reducible refine gate_dst (N := 5) rfl ?_); refine box_event ?hg (N := 5) ?hd (cs := #[.slice none 0 0, .slice none 0 0]) (t := 25) ?hr ?_; (case hd => rfl); (case hg => rfl); (case hr => first | (go_simp; done) | (go_simp; rfl)); intro g5 hg w9 hbox5 hb9; have hge5 := Aside0.mk (Nat.le_of_eq (Eq.symm hg)); clear hg; have hz50 : (w9).cell? ⟨g5, 0, none⟩ = some (.slice none 0 0) := (blk_cell hbox5 0).trans rfl; have hz51 : (w9).cell? ⟨g5, 1, none⟩ = some (.slice none 0 0) := (blk_cell hbox5 1).trans rfl; have hf50 := blk_frozen hbox5 0; have hf51 := blk_frozen hbox5 1))
  obtain ⟨hx5, hl5⟩ := boxed (v := .slice E0 5 f0) (u := .slice E 0 f) hbox5
  replace hl5 := hl5 w8.heap.size w8 hb9 hge5.out
  generalize ((w9.setCell ⟨g5, 0, none⟩ (.slice E0 5 f0)).setCell ⟨g5, 1, none⟩ (.slice E 0 f)) = W9 at hx5 hl5 ⊢
  have b79 : Below w7.heap.size w7 W9 := below_then hb8 hb8.size hl5
  have b69 : Below w6.heap.size w6 W9 := below_then hb7 hb7.size b79
  have b19 : Below W1.heap.size W1 W9 := below_then b17 b17.size b79
  have hr9 := Kd.C_below hr1 b19
  have hg9 := Kd.C_below hg6 b69
  have he9 := (Kd.R_reads' (Kd.R_below HO8 hl5)).2.2
  have hx19 := blk_below hx1 b19
  have hx29 := blk_below hx26 b69
  have p90 : W9.cell? ⟨g1, 0, none⟩ = some (.slice A0 5 c0) := (blk_cell hx19 0).trans rfl
  have p91 : W9.cell? ⟨g1, 1, none⟩ = some (.slice A 0 c) := (blk_cell hx19 1).trans rfl
  have r90 : W9.cell? ⟨g5, 0, none⟩ = some (.slice E0 5 f0) := (blk_cell hx5 0).trans rfl
  have r91 : W9.cell? ⟨g5, 1, none⟩ = some (.slice E 0 f) := (blk_cell hx5 1).trans rfl
  clear hz50 hz51 hf50 hf51 hbox5 hb9 w9 hge5 hl5
  go_upto_region 17 with (first
    | ((with_reducible refine gate_callee (f := 6) rfl ?_); refine goesL_ (some 26) rfl rfl Try.func6 (by kernel_rfl) rfl #[(.agg #[.slice E0 5 f0, .slice E 0 f]), (.agg #[.slice A0 5 c0, .slice A 0 c])] rfl (by (try simp only [List.map_toArray, List.map_cons, List.map_nil]); first | done | rfl) ?_; refine (eqSkip0 _ _ _ _ _ _ _ _ _ he9 hf0 hr9 hc0).mono ?_; rintro e w10 ⟨rfl, hb10⟩; refine ⟨_, rfl, ?_⟩))
  have hx210 := blk_below hx29 hb10
  have hg10 := Kd.C_below hg9 hb10
  have s90 : w10.cell? ⟨g2, 0, none⟩ = some (.slice B0 5 d0) := (blk_cell hx210 0).trans rfl
  have s91 : w10.cell? ⟨g2, 1, none⟩ = some (.slice B 0 d) := (blk_cell hx210 1).trans rfl
  clear p90 p91 r90 r91
  go_wp2_with (first
    | ((with_reducible refine gate_callee (f := 8) rfl ?_); refine goesL_ (some 30) rfl rfl Try.func8 (by kernel_rfl) rfl #[(.agg #[.slice B0 5 d0, .slice B 0 d]), .int .i64 1] rfl (by (try simp only [List.map_toArray, List.map_cons, List.map_nil]); first | done | rfl) ?_; refine (heldSkip0 _ _ _ _ _ hg10 hd0).mono ?_; rintro e w11 ⟨rfl, hb11⟩; refine ⟨_, rfl, ?_⟩))
  go_ret
  refine ⟨rfl, ?_⟩
  have b1_11 : Below W1.heap.size W1 w11 := below_then (below_then b19 b19.size hb10) (by have := b19.size; have := hb10.size; omega) hb11
  exact below_then b1 b1.size b1_11
end Go.Proofs.Ytffjlpphcjfdgaa
namespace Go.Proofs.Ytffjlpphcjfdgaa.fnExactNewSkip
open Go.ChangeShapes Go.WideShapes Go.ChangeAt Go.RowKit
open Go.ChangeMaps (open_string shut_string)
set_option linter.unusedVariables false
theorem own : ownKnob Try.prog.godebug = none := by kernel_rfl
set_option maxRecDepth 100000 in
theorem lifted (os : Os) (started : os.Started) (H : Type) (enc : TypeId × Value → H) :
    ReturnsInHanded {} Try.checked os 3 .any (Rows.fnExactNewSkipSpec.pre6 enc Try.prog Try.f3 Rows.fnExactNewSkipRow.domain false) (Rows.fnExactNewSkipSpec.post enc Try.prog Try.f3 false true false false) := by
  refine returnsInHanded_of_change_sized (C := Try.checked) own started (by kernel_rfl) Try.func3
    (ChangeSpec.witness6 (enc := enc) (C := Try.checked) false ⟨#[], #[], []⟩ 8 (by kernel_rfl) (by kernel_rfl) (by kernel_rfl) (by kernel_rfl)) ?_
  intro W base args ds gs before hval0 hW hcnd hsz0 _
  have hsz : (DataW.weightsEach Try.prog (Try.f3.params.toList ++ Rows.fnExactNewSkipSpec.plain.varTypes Try.prog) (ds ++ gs)).all (· ≤ reachBytes) = true := hsz0
  have hval : ∀ (j : Nat) t v, Try.f3.params[j]? = some t → args[j]? = some v → Value.okWide Try.prog W .any base t v := hval0
  have hW' := hW
  obtain ⟨p, q, hA0, hV, rfl, hfz, hnd⟩ := hW
  have hA : DataW.TrodAll enc Try.prog W 0 (fun _ => true) true Try.f3.params.toList args.toList ds p := hA0
  rw [Try.params3] at hA hval hsz
  obtain ⟨rfl, rfl, rfl⟩ := trodAll_none hA
  obtain ⟨rfl, rfl⟩ := trodVars_none hV
  clear hA0 hval0 hsz0 hsz
  refine (law_walk W).mono fun e W' ⟨he, bel⟩ => ?_
  subst he
  exact ⟨_, rfl, _, _, _, [], _, [], hW', trodAll_mk1 (shut_bool Try.underlying4 _), trodAll_mk0, rfl, bel.frame _, fun h => by cases h⟩
theorem over : Rows.fnExactNewSkipRow.holds Try.pinned (OpenSpec.ofChange Rows.fnExactNewSkipSpec) :=
  OpenClaim.holds_of_wide 3 Try.f3 rfl rfl rfl rfl rfl rfl rfl ⟨rfl, rfl, rfl, rfl, rfl⟩ rfl rfl rfl rfl rfl (by kernel_rfl) Try.func3 (by kernel_rfl)
    (of_decide_eq_true (by kernel_rfl)) (by unfold Func.isWrapper; first | (rw [if_pos (by decide +kernel)]; kernel_rfl) | (rw [if_neg (by decide +kernel)]; exact ⟨rfl, rfl⟩))
    (fun os started H enc _ => lifted os started H enc)
theorem proved : Rows.FnExactNewSkipSaid := over
end Go.Proofs.Ytffjlpphcjfdgaa.fnExactNewSkip
namespace Go.Proofs.Ytffjlpphcjfdgaa
/-- The row, under a short name, for the claim. -/
theorem fnExactNewSkip_holds : Rows.FnExactNewSkipSaid := fnExactNewSkip.proved
end Go.Proofs.Ytffjlpphcjfdgaa
