/-
  What the walk of this seat's texts is told beside the library: rows that a conversion of a text to bytes has made. Such a row bears a mark behind its end, so it is no row of 'make'; it is read, written in place and made a text of. No condition.
-/
import Derived.Test.YtffjlpphcjfdgaaDoorWMore
import Derived.Test.YtffjlpphcjfdgaaDoorWInvWords
import Derived.Test.YtffjlpphcjfdgaaDoorWGuard
namespace Go.Proofs.YtffjlpphcjfdgaaDoorW.PrintWords
open Go Go.RowKit
set_option linter.unusedVariables false
set_option linter.unusedSimpArgs false
theorem cell_twice (w : World) (a : Addr) (v1 v2 : Value) (h : (w.cell? a).isSome = true) : ((w.setCell a v1).setCell a v2).cell? a = some v2 := by
  obtain ⟨u, hu⟩ := Option.isSome_iff_exists.1 h
  exact World.cell?_setCell_same _ _ _ (World.cell?_setCell_same _ _ _ hu)
namespace Kd
def B (_d : Kd Int) (e : Nat) (w : World) (base : Nat) (ok : Nat → Prop) (v : Value) (xs : List Int) : Prop :=
  (∀ k, v.ownBlock = some k → ok k) ∧ ∃ g cap cur fz, v = .slice (some ⟨g, 0, none⟩) xs.length cap ∧ base ≤ g ∧ w.heap[g]? = some (.cells cur e fz) ∧ cur.size ≤ fz.1 ∧ xs.length ≤ cap ∧ cap ≤ maxLen ∧ cur.size = cap ∧ cur.toList.take xs.length = xs.map (Value.int .u8)
section
variable {d : Kd Int} {e base g t N : Nat} {w w1 w' W W2 : World} {ok ok' S : Nat → Prop} {v u : Value} {xs : List Int}
theorem B_mono (h : B d e w base ok v xs) (hok : ∀ k, ok k → ok' k) : B d e w base ok' v xs := ⟨fun k hk => hok k (h.1 k hk), h.2⟩
theorem B_bound (h : B d e w base ok v xs) : B d e w base (fun k => ok k ∧ base ≤ k ∧ k < w.heap.size ∧ ∃ cells fz, w.heap[k]? = some (.cells cells e fz)) v xs := by
  obtain ⟨h0, g, cap, cur, fz, rfl, hb, hh, r⟩ := h
  refine ⟨fun k hk => ?_, g, cap, cur, fz, rfl, hb, hh, r⟩
  have e1 : g = k := by simpa [Value.ownBlock] using hk
  subst e1
  exact ⟨h0 _ hk, hb, (Array.getElem?_eq_some_iff.1 hh).1, cur, fz, hh⟩
theorem B_move (h : B d e w base ok v xs) (hm : ∀ k, ok k → w1.heap[k]? = w.heap[k]?) : B d e w1 base ok v xs := by
  obtain ⟨h0, g, cap, cur, fz, rfl, hb, hh, r⟩ := h
  exact ⟨h0, g, cap, cur, fz, rfl, hb, (hm g (h0 g (by simp [Value.ownBlock]))).trans hh, r⟩
theorem B_lower {base' : Nat} (h : B d e w base ok v xs) (hb' : base' ≤ base) : B d e w base' ok v xs := by
  obtain ⟨h0, g, cap, cur, fz, rfl, hb, r⟩ := h
  exact ⟨h0, g, cap, cur, fz, rfl, Nat.le_trans hb' hb, r⟩
theorem B_step (h : B d e w base ok v xs) (hm : ∀ k, ok k → k < w.heap.size → w1.heap[k]? = w.heap[k]?) : B d e w1 base ok v xs := B_mono (B_move (B_bound h) (fun k hk => hm k hk.1 hk.2.2.1)) (fun _ hk => hk.1)
theorem B_below (h : B d e w base ok v xs) (hb : Below w.heap.size w w1) : B d e w1 base ok v xs := B_step h (fun k _ hk => hb.block k hk)
theorem B_alloc (h : B d e w base ok v xs) (o : Obj) : B d e (w.alloc o) base ok v xs := B_below h (below_alloc (Below.refl _ _) o)
theorem B_drew (h : B d e w base ok v xs) : B d e w.drew base ok v xs := B_below h (below_drew (Below.refl _ _))
theorem B_drewN (h : B d e w base ok v xs) (m : Nat) : B d e (w.drewN m) base ok v xs := B_below h (pw_below_drewN (Below.refl _ _) m)
theorem B_grown (h : B d e w base ok v xs) {row : Option Nat} (hg : w.grownBy w1 row) (hok : ∀ k, ok k → some k ≠ row) : B d e w1 base ok v xs := B_step h (fun k ho hk => hg.block k hk (hok k ho))
theorem B_far (h : B d e w base ok v xs) {p : Addr} (hok : ∀ k, ok k → k ≠ p.block) (u : Value) : B d e (w.setCell p u) base ok v xs := B_step h (fun k ho _ => Below.heap_setCell w p u k (hok k ho))
theorem B_keep (h : B d e w base ok v xs) {g : Nat} (hk : KeepBut w w1 g none) (hok : ∀ k, ok k → k ≠ g) : B d e w1 base ok v xs := B_step h (fun k ho hlt => hk.2 k hlt (hok k ho) (by simp))
theorem B_types (h : B d e w base ok v xs) {g t : Nat} {cells : Array Value} {fz : Nat × Nat} (hb : w.heap[g]? = some (.cells cells t fz)) (ht : ∀ q, q ∈ e :: d.E → q ≠ t) : B d e w base (fun k => ok k ∧ k ≠ g) v xs :=
  B_mono (B_bound h) (fun k hk => ⟨hk.1, by
    obtain ⟨_, _, _, cells', fz', hc⟩ := hk
    rintro rfl
    rw [hc] at hb
    injection hb with hb
    injection hb with _ hb
    exact ht e List.mem_cons_self hb⟩)
theorem B_set (h : B d e w base ok v xs) {g t : Nat} {cells : Array Value} {fz : Nat × Nat} (hb : w.heap[g]? = some (.cells cells t fz)) (ht : ∀ q, q ∈ e :: d.E → q ≠ t) (j : Nat) (u : Value) : B d e (w.setCell ⟨g, j, none⟩ u) base ok v xs :=
  B_mono (B_far (p := ⟨g, j, none⟩) (B_types h hb ht) (fun _ hk => hk.2) u) (fun _ hk => hk.1)
theorem B_lt (h : B d e w base ok v xs) : ∀ k, v.ownBlock = some k → k < w.heap.size := fun k hk => ((B_bound h).1 k hk).2.2.1
theorem B_base (h : B d e w base ok v xs) : ∀ k, v.ownBlock = some k → base ≤ k := fun k hk => ((B_bound h).1 k hk).2.1
theorem B_away (h : B d e w base ok v xs) {g : Nat} (hok : ∀ k, ok k → k ≠ g) : some g ≠ v.ownBlock := fun he => hok g (h.1 g he.symm) rfl
theorem B_ne (h : B d e w base ok v xs) {g t : Nat} {cells : Array Value} {fz : Nat × Nat} (hb : w.heap[g]? = some (.cells cells t fz)) (ht : e ≠ t) : some g ≠ v.ownBlock := by
  intro he
  obtain ⟨_, _, _, cells', fz', hc⟩ := (B_bound h).1 g he.symm
  rw [hc] at hb
  injection hb with hb
  injection hb with _ hb
  exact ht hb
theorem B_slice (h : B d e w base ok v xs) : ∃ A c, v = .slice A xs.length c ∧ xs.length ≤ c := by
  obtain ⟨h0, g, cap, cur, fz, rfl, hb, hh, hf, hl, r⟩ := h
  exact ⟨_, cap, rfl, hl⟩
theorem B_nums {g c n : Nat} {o : Nat} (h : B (int .u8) e w base ok (.slice (some ⟨g, o, none⟩) n c) xs) : n = xs.length ∧ o = 0 ∧ n ≤ c ∧ xs.length ≤ 9223372036854775807 ∧ (∃ cur fz, w.heap[g]? = some (.cells cur e fz) ∧ cur.size ≤ fz.1 ∧ cur.size = c) ∧ ∀ j (hj : j < xs.length), w.cell? ⟨g, j, none⟩ = some (.int .u8 xs[j]) := by
  obtain ⟨h0, g', cap, cur, fz, he, hb, hh, hf, hl, hm, hc, ht⟩ := h
  injection he with h1 h2 h3
  injection h1 with h1
  injection h1 with h1 h1'
  subst h1; subst h2; subst h3; subst h1'
  refine ⟨rfl, rfl, hl, by simp only [maxLen] at hm; omega, ⟨cur, fz, hh, hf, hc⟩, fun j hj => ?_⟩
  rw [cell_of_row w g j cur e fz hh, ← Array.getElem?_toList]
  have := congrArg (fun z => z[j]?) ht
  simp only [List.getElem?_take, if_pos hj, List.getElem?_map, List.getElem?_eq_getElem hj, Option.map_some] at this
  exact this
theorem B_reads' {A : Option Addr} {n c : Nat} (h : B (int .u8) e w base ok (.slice A n c) xs) : n = xs.length ∧ n ≤ c ∧ (int .u8).C w A xs.length xs := by
  have h' := h
  obtain ⟨h0, g, cap, cur, fz, he, r⟩ := h'
  injection he with h1 h2 h3
  subst h1
  obtain ⟨a1, a2, a3, a4, a5, a6⟩ := B_nums h
  refine ⟨a1, a3, rfl, a4, fun hp => ⟨_, rfl, fun j p hj => ⟨[.int .u8 p], rfl, rfl, fun i u hu => ?_⟩⟩⟩
  obtain ⟨hjl, hjp⟩ := List.getElem?_eq_some_iff.1 hj
  have hi : i = 0 := by
    by_cases e0 : i = 0
    · exact e0
    · have : ([Value.int .u8 p])[i]? = none := List.getElem?_eq_none (by simp; omega)
      rw [this] at hu; cases hu
  subst hi
  have hu' : Value.int .u8 p = u := by simpa using hu
  subst hu'
  rw [add_at, show 0 + (j * (int .u8).sz + 0) = j by show 0 + (j * 1 + 0) = j; omega, a6 j hjl, hjp]
theorem B_reads (h : B (int .u8) e w base ok v xs) : ∃ A c, v = .slice A xs.length c ∧ xs.length ≤ c ∧ (int .u8).C w A xs.length xs := by
  obtain ⟨A, c, rfl, hl⟩ := B_slice h
  exact ⟨A, c, rfl, hl, (B_reads' h).2.2⟩
theorem B_string {P : Program} {src dst e' : TypeId} (hs : P.underlying src = some (.slice e')) (he : P.underlying e' = some (.int .u8)) (hd : P.underlying dst = some .string) (h : B (int .u8) e w base ok v xs) : (convert src dst v).run P w = .ok (.string (strOfNums xs)) w := by
  obtain ⟨A, c, rfl, hl, hC⟩ := B_reads h
  exact C_string hs he hd hC
theorem B_typed (h : B d e w base ok v xs) : ∀ k, v.ownBlock = some k → ∃ cells fz, w.heap[k]? = some (.cells cells e fz) := fun k hk => ((B_bound h).1 k hk).2.2.2
theorem B_at {m : Nat} (hq : w.drewN m = w') (h : B d e w base ok v xs) : B d e w' base ok v xs := by subst hq; exact B_drewN h m
theorem B_elder' (hu : B d e W base ok u xs) (hbase : ∀ k, v.ownBlock = some k → W.heap.size ≤ k) (hb : Below W.heap.size W w1) : B d e w1 base (fun k => ok k ∧ some k ≠ v.ownBlock) u xs :=
  B_mono (B_move (B_bound hu) (fun k hk => hb.block k hk.2.2.1)) (fun k hk => ⟨hk.1, fun he => by have := hbase k he.symm; have := hk.2.2.1; omega⟩)
theorem B_new' (h : B d e w1 W.heap.size ok v xs) (hlt : ∀ k, u.ownBlock = some k → k < W.heap.size) : B d e w1 W.heap.size (fun k => ok k ∧ some k ≠ u.ownBlock) v xs :=
  B_mono (B_bound h) (fun k hk => ⟨hk.1, fun he => by have := hlt k he.symm; have := hk.2.1; omega⟩)
theorem B_elderB (h : B d e w base ok v xs) (a : Nat) (ha : w.heap.size ≤ a) : B d e w base (fun k => ok k ∧ k ≠ a) v xs := B_mono (B_bound h) (fun k hk => ⟨hk.1, by have := hk.2.2.1; omega⟩)
theorem B_newB {g : Nat} {o : Obj} (h : B d e w1 w.heap.size ok v xs) (hb : w.heap[g]? = some o) : B d e w1 w.heap.size (fun k => ok k ∧ k ≠ g) v xs := B_mono (B_bound h) (fun k hk => ⟨hk.1, by have := blk_lt hb; have := hk.2.1; omega⟩)
theorem B_old (hu : B d e W base ok u xs) (hb : Below W.heap.size W w1) : B d e w1 base (fun k => ok k ∧ k < W.heap.size) u xs := B_mono (B_below (B_bound hu) hb) (fun _ h => ⟨h.1, h.2.2.1⟩)
theorem B_oldK (hu : B d e W base (fun k => ok k ∧ k ≠ g) u xs) (hk : KeepBut W w1 g none) : B d e w1 base (fun k => ok k ∧ k < W.heap.size) u xs := B_mono (B_keep (B_bound hu) hk (fun _ h => h.1.2)) (fun _ h => ⟨h.1.1, h.2.2.1⟩)
theorem B_told (h : B d e w1 base (fun k => ok k ∧ k < N) u xs) (hbase : ∀ k, v.ownBlock = some k → N ≤ k) : B d e w1 base (fun k => (ok k ∧ some k ≠ v.ownBlock) ∧ k < N) u xs :=
  B_mono h (fun k hk => ⟨⟨hk.1, fun e => Nat.lt_irrefl _ (Nat.lt_of_lt_of_le hk.2 (hbase k e.symm))⟩, hk.2⟩)
theorem B_tight (_hE : d.E = []) (h : B d e W base ok v xs) : B d e W base (fun k => some k = v.ownBlock) v xs := ⟨fun k hk => hk.symm, h.2⟩
theorem B_kept (h : B d e W base ok v xs) (hk : Kept W W2 S) (hne : ∀ k, ok k → ¬ S k) : B d e W2 base ok v xs := B_step h (fun k ho hlt => hk.2 k hlt (hne k ho))
theorem B_keptB (h : B d e W base ok v xs) (hk : Kept W W2 S) (hne : ∀ k, ok k → ¬ S k) : B d e W2 base (fun k => ok k ∧ (¬ S k ∧ k < W.heap.size)) v xs :=
  B_kept (B_mono (B_bound h) (fun k hk => ⟨hk.1, hne k hk.1, hk.2.2.1⟩)) hk (fun _ hk => hk.2.1)
theorem B_newM {M : Nat → Prop} (h : B d e w1 W.heap.size ok v xs) (hle : w.heap.size ≤ W.heap.size) (hM : ∀ k, w.heap.size ≤ k → M k) : B d e w1 W.heap.size (fun k => M k ∧ ok k) v xs := B_mono (B_bound h) (fun k hk => ⟨hM k (Nat.le_trans hle hk.2.1), hk.1⟩)
theorem B_over' {e' : Nat} (h : B d e W base ok u xs) (hty : ∀ k, v.ownBlock = some k → ∃ cells, W.heap[k]? = some (.cells cells e' (0, 0))) (ht : ∀ q, q ∈ e :: d.E → q ≠ e') (hg : W.grownBy w1 v.ownBlock) : B d e w1 base ok u xs := by
  refine B_mono (B_move (B_bound h) (fun k hk => hg.block k hk.2.2.1 (fun he => ?_))) (fun _ hk => hk.1)
  obtain ⟨_, _, _, cells, fz, hc⟩ := hk
  obtain ⟨cells', hc'⟩ := hty k he.symm
  rw [hc] at hc'
  injection hc' with hc'
  injection hc' with _ hc'
  exact ht e List.mem_cons_self hc'
theorem B_apart' {e' : Nat} (h : B d e W base ok u xs) (hty : ∀ k, v.ownBlock = some k → ∃ cells, W.heap[k]? = some (.cells cells e' (0, 0))) (ht : ∀ q, q ∈ e :: d.E → q ≠ e') : B d e W base (fun k => ok k ∧ some k ≠ v.ownBlock) u xs := by
  refine B_mono (B_bound h) (fun k hk => ⟨hk.1, fun he => ?_⟩)
  obtain ⟨_, _, _, cells, fz, hc⟩ := hk
  obtain ⟨cells', hc'⟩ := hty k he.symm
  rw [hc] at hc'
  injection hc' with hc'
  injection hc' with _ hc'
  exact ht e List.mem_cons_self hc'
theorem B_form (h : B d e w base ok v xs) (_hp : 0 < xs.length) : ∃ g cap, v = .slice (some ⟨g, 0, none⟩) xs.length cap ∧ base ≤ g ∧ g < w.heap.size ∧ ∃ cells fz, w.heap[g]? = some (.cells cells e fz) := by
  obtain ⟨h0, g, cap, cur, fz, rfl, hb, hh, r⟩ := h
  exact ⟨g, cap, rfl, hb, (Array.getElem?_eq_some_iff.1 hh).1, cur, fz, hh⟩
theorem B_cell (_z : Int) {o n cap : Nat} (h : B (int .u8) e W base ok (.slice (some ⟨g, o, none⟩) n cap) xs) (i : Int) (h0 : 0 ≤ i) (hi : i < n) : W.cell? ⟨g, o + i.toNat, none⟩ = some (.int .u8 (rd xs i)) ∧ W.frozen? ⟨g, o + i.toNat, none⟩ = false := by
  obtain ⟨a1, a2, a3, a4, ⟨cur, fz, hh, hf, hc⟩, a6⟩ := B_nums h
  subst a2
  have hj : i.toNat < xs.length := by omega
  refine ⟨?_, ?_⟩
  · rw [Nat.zero_add, a6 _ hj]
    unfold rd
    rw [List.getD_eq_getElem?_getD, List.getElem?_eq_getElem hj]; rfl
  · simp only [World.frozen?, hh]
    simp only [Bool.and_eq_false_iff, decide_eq_false_iff_not]
    exact .inl (by omega)
theorem heap_put {W : World} {g j : Nat} {cur : Array Value} {e : Nat} {fz : Nat × Nat} (hh : W.heap[g]? = some (.cells cur e fz)) (u : Value) : (W.setCell ⟨g, j, none⟩ u).heap[g]? = some (.cells (cur.setIfInBounds j u) e fz) := by
  simp [World.setCell, Array.getElem?_modify, hh]
theorem grown_put (W : World) (g j : Nat) (u : Value) : W.grownBy (W.setCell ⟨g, j, none⟩ u) (some g) :=
  ⟨rfl, rfl, rfl, by simp, fun k _ hk => Below.heap_setCell W ⟨g, j, none⟩ u k (fun he => hk (by rw [he]))⟩
theorem B_putg {o n cap : Nat} (h : B (int .u8) e W base ok (.slice (some ⟨g, o, none⟩) n cap) xs) (i : Int) (x : Int) :
    B (int .u8) e (W.setCell ⟨g, o + i.toNat, none⟩ (.int .u8 x)) base ok (.slice (some ⟨g, o, none⟩) n cap) (xs.set i.toNat x) ∧ W.grownBy (W.setCell ⟨g, o + i.toNat, none⟩ (.int .u8 x)) (some g) := by
  obtain ⟨hk, g', cap', cur, fz, he, hb, hh, hf, hl, hm, hc, ht⟩ := h
  injection he with h1 h2 h3
  injection h1 with h1
  injection h1 with h1 h1'
  subst h1; subst h2; subst h3; subst h1'
  refine ⟨⟨hk, g, cap, cur.setIfInBounds (0 + i.toNat) (.int .u8 x), fz, by rw [List.length_set], hb, heap_put hh _, by simpa using hf, by rw [List.length_set]; exact hl, hm, by simpa using hc, ?_⟩, grown_put _ _ _ _⟩
  rw [List.length_set, List.map_set, ← ht, Nat.zero_add, Array.toList_setIfInBounds, List.take_set]
theorem B_celln (z : Int) {n cap : Nat} (h : B (int .u8) e W base ok (.slice (some ⟨g, 0, none⟩) n cap) xs) (i : Int) (h0 : 0 ≤ i) (hi : i < n) : W.cell? ⟨g, i.toNat, none⟩ = some (.int .u8 (rd xs i)) ∧ W.frozen? ⟨g, i.toNat, none⟩ = false := by
  have := B_cell z h i h0 hi
  rwa [Nat.zero_add] at this
theorem B_putr {n cap : Nat} (h : B (int .u8) e W base ok (.slice (some ⟨g, 0, none⟩) n cap) xs) (i : Int) (x : Int) :
    B (int .u8) e (W.setCell ⟨g, i.toNat, none⟩ (.int .u8 x)) base ok (.slice (some ⟨g, 0, none⟩) n cap) (xs.set i.toNat x) ∧ W.grownBy (W.setCell ⟨g, i.toNat, none⟩ (.int .u8 x)) (some g) := by
  have := B_putg h i x
  rwa [Nat.zero_add] at this
theorem B_putn {n cap : Nat} (h : B (int .u8) e W base ok (.slice (some ⟨g, 0, none⟩) n cap) xs) (i : Int) (x : Int) :
    B (int .u8) e (W.setCell ⟨g, i.toNat, none⟩ (.int .u8 x)) base ok (.slice (some ⟨g, 0, none⟩) n cap) (xs.set i.toNat x) := (B_putr h i x).1
theorem B_made {s : ByteArray} (hb : base ≤ W.heap.size) (hs : s.size ≤ 9223372036854775807) (hok : ok W.heap.size) : B (int .u8) e (Lib.bytesWorld W e s) base ok (.slice (some ⟨W.heap.size, 0, none⟩) s.size (grownCap W s.size 0 e)) (bytesOf s) := by
  have hge := grownCap_ge W s.size 0 e
  have hle := grownCap_le_maxLen W s.size 0 e (by simpa [maxLen] using hs)
  have hsz : (Lib.bytesCells W e s).size = grownCap W s.size 0 e := by
    simp [Lib.bytesCells]; have : s.data.size = s.size := rfl; omega
  refine ⟨fun k hk => ?_, W.heap.size, grownCap W s.size 0 e, Lib.bytesCells W e s, _, by rw [bytesOf_length], hb, Lib.bytesWorld_at_new W e s, Nat.le_refl _, by rw [bytesOf_length]; exact hge, hle, hsz, ?_⟩
  · have e1 : W.heap.size = k := by simpa [Value.ownBlock] using hk
    subst e1; exact hok
  · rw [bytesOf_length]
    have e2 : s.data.toList.length = s.size := by rw [Array.length_toList]; rfl
    unfold Lib.bytesCells
    rw [Array.toList_append, Array.toList_map, List.take_append_of_le_length (by rw [List.length_map, e2]; exact Nat.le_refl _), List.take_of_length_le (by rw [List.length_map, e2]; exact Nat.le_refl _)]
    unfold bytesOf
    rw [List.map_map]
    rfl
theorem grown_bytes (W : World) (e : TypeId) (s : ByteArray) : W.grownBy (Lib.bytesWorld W e s) none := ⟨rfl, rfl, rfl, by rw [Lib.bytesWorld_size]; omega, fun k hk _ => Lib.bytesWorld_at_old W e s k hk⟩
end
section
variable {P : Program} {ops : Array Oper} {rest : List Oper} {o : Oper} {a : Act} {Q : Exit → Act → World → Prop} {Kc : Act → World → Prop}
theorem B_conv {w0 W : World} (base e : Nat) (hgd : o.guard = none) {N : Tmp} (_hd : o.dst = some N) (src dst : TypeId) {u : TypeDesc} (x : Operand) (ho : o.op = .convert src dst x) (s : ByteArray) (hx : a.eval x = .string s)
    (hsrc : P.underlying src = some u) (hdst : P.underlying dst = some (.slice e)) (he : P.underlying e = some (.int .u8)) {ok : Nat → Prop} (hfresh : ok W.heap.size) (hs : s.size ≤ 9223372036854775807) (HB : Below base w0 W) (hbase : base ≤ W.heap.size)
    (h : ∀ v1 w1, B (int .u8) e w1 base ok v1 (bytesOf s) → Below base w0 w1 → W.grownBy w1 none → (∃ b, v1.ownBlock = some b ∧ W.heap.size ≤ b) → wpList P ops Q rest (a.put o.dst v1) w1) : wpList P ops Q (o :: rest) a W := by
  have hr := Lib.run_convert_string_bytes (P := P) W src dst e s hsrc hdst he
  refine event_run hgd ?_ (h _ _ (B_made hbase hs hfresh) (bytes_below HB hbase e s) (grown_bytes W e s) ⟨W.heap.size, by simp [Value.ownBlock], Nat.le_refl _⟩)
  simp [execOp, ho, hx, hr]
theorem B_conv_step {w0 W : World} (base e : Nat) (hw : Region.wanted o (yielded ops a.tmps) = true) {N : Tmp} (_hd : o.dst = some N) (src dst : TypeId) {u : TypeDesc} (x : Operand) (ho : o.op = .convert src dst x) (s : ByteArray) (hx : a.eval x = .string s)
    (hsrc : P.underlying src = some u) (hdst : P.underlying dst = some (.slice e)) (he : P.underlying e = some (.int .u8)) {ok : Nat → Prop} (hfresh : ok W.heap.size) (hs : s.size ≤ 9223372036854775807) (HB : Below base w0 W) (hbase : base ≤ W.heap.size)
    (h : ∀ v1 w1, B (int .u8) e w1 base ok v1 (bytesOf s) → Below base w0 w1 → W.grownBy w1 none → (∃ b, v1.ownBlock = some b ∧ W.heap.size ≤ b) → Kc (a.put o.dst v1) w1) : if Region.wanted o (yielded ops a.tmps) = true then Oper.wp P o a W Kc Q else Kc (a.put o.dst undef) W := by
  have hr := Lib.run_convert_string_bytes (P := P) W src dst e s hsrc hdst he
  refine event_step hw ?_ (h _ _ (B_made hbase hs hfresh) (bytes_below HB hbase e s) (grown_bytes W e s) ⟨W.heap.size, by simp [Value.ownBlock], Nat.le_refl _⟩)
  simp [execOp, ho, hx, hr]
end
section
variable {α : Type} {d : Kd α} {e e' base : Nat} {w1 W : World} {ok : Nat → Prop} {u v : Value} {xs : List α}
theorem R_overB' (h : d.R e W base ok u xs) (hty : ∀ k, v.ownBlock = some k → ∃ cells fz, W.heap[k]? = some (.cells cells e' fz)) (ht : ∀ q, q ∈ e :: d.E → q ≠ e') (hg : W.grownBy w1 v.ownBlock) : d.R e w1 base ok u xs := by
  refine R_mono (R_move (R_bound h) (fun k hk => hg.block k hk.2.2.1 (fun he => ?_))) (fun _ hk => hk.1)
  obtain ⟨_, _, _, q, hq, cells, hc⟩ := hk
  obtain ⟨cells', fz, hc'⟩ := hty k he.symm
  rw [hc] at hc'
  injection hc' with hc'
  injection hc' with _ hc'
  exact ht q hq hc'
theorem R_apartB' (h : d.R e W base ok u xs) (hty : ∀ k, v.ownBlock = some k → ∃ cells fz, W.heap[k]? = some (.cells cells e' fz)) (ht : ∀ q, q ∈ e :: d.E → q ≠ e') : d.R e W base (fun k => ok k ∧ some k ≠ v.ownBlock) u xs := by
  refine R_mono (R_bound h) (fun k hk => ⟨hk.1, fun he => ?_⟩)
  obtain ⟨_, _, _, q, hq, cells, hc⟩ := hk
  obtain ⟨cells', fz, hc'⟩ := hty k he.symm
  rw [hc] at hc'
  injection hc' with hc'
  injection hc' with _ hc'
  exact ht q hq hc'
theorem R_typesB (h : d.R e W base ok v xs) {g t : Nat} {cells : Array Value} (hb : ∃ fz, W.heap[g]? = some (.cells cells t fz)) (ht : ∀ q, q ∈ e :: d.E → q ≠ t) : d.R e W base (fun k => ok k ∧ k ≠ g) v xs :=
  R_mono (R_bound h) (fun k hk => ⟨hk.1, by
    obtain ⟨_, _, _, q, hq, cells', hc⟩ := hk
    obtain ⟨fz, hb⟩ := hb
    rintro rfl
    rw [hc] at hb
    injection hb with hb
    injection hb with _ hb
    exact ht q hq hb⟩)
theorem S_overB' (h : S d e W base ok u xs) (hty : ∀ k, v.ownBlock = some k → ∃ cells fz, W.heap[k]? = some (.cells cells e' fz)) (ht : ∀ q, q ∈ e :: d.E → q ≠ e') (hg : W.grownBy w1 v.ownBlock) : S d e w1 base ok u xs := by
  obtain ⟨f, h⟩ := h
  exact ⟨f, R_overB' h hty ht hg⟩
theorem S_apartB' (h : S d e W base ok u xs) (hty : ∀ k, v.ownBlock = some k → ∃ cells fz, W.heap[k]? = some (.cells cells e' fz)) (ht : ∀ q, q ∈ e :: d.E → q ≠ e') : S d e W base (fun k => ok k ∧ some k ≠ v.ownBlock) u xs := by
  obtain ⟨f, h⟩ := h
  exact ⟨f, R_apartB' h hty ht⟩
end
end Kd
end Go.Proofs.YtffjlpphcjfdgaaDoorW.PrintWords
