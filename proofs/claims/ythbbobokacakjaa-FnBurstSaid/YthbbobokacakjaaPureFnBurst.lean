/-
  The plain statement of the law FnBurst, proved: over numbers and lists alone. No condition beyond the given ones.
-/
import Derived.Test.YthbbobokacakjaaMFnBurstx2
import Derived.Laws.BitsAllLaws
namespace Go.Proofs.Ythbbobokacakjaa.Pure
open Go Go.RowKit Go.Proofs.Ythbbobokacakjaa.MFnBurst Go.Proofs.YthbbobokacakjaaW.PrintWords Go.Proofs.YthbbobokacakjaaW.PrintLast Go.Proofs.YthbbobokacakjaaW.PrintMore
set_option linter.unusedVariables false
set_option linter.unusedSimpArgs false

-- part base: plain facts on Go's numbers and on rounds
theorem lt_mn {i a b : Int} : i < mn a b ↔ i < a ∧ i < b := by unfold mn; split <;> omega
theorem mn_le {a b : Int} : mn a b ≤ a ∧ mn a b ≤ b := by unfold mn; split <;> omega
theorem w64 {n : Int} (h0 : -9223372036854775808 ≤ n) (h1 : n ≤ 9223372036854775807) : wrap64 n = n := by unfold wrap64; omega
theorem wrap_u64 (n : Int) : IntKind.u64.wrap n = n % 18446744073709551616 := by simp [IntKind.wrap, IntKind.bits, IntKind.signed]
theorem wu64 {n : Int} (h0 : 0 ≤ n) (h1 : n ≤ 18446744073709551615) : IntKind.u64.wrap n = n := by rw [wrap_u64]; omega
theorem wu32 {n : Int} (h0 : 0 ≤ n) (h1 : n ≤ 4294967295) : IntKind.u32.wrap n = n := by rw [IntKind.wrap_u32]; omega
theorem wraps_u32 (n : Int) (h₀ : 0 ≤ n) (h₁ : n < 2 ^ 32) : IntKind.u32.wrap n = n := by rw [IntKind.wrap_u32]; omega
theorem wraps_i64 (n : Int) (h₀ : 0 ≤ n) (h₁ : n < 2 ^ 63) : IntKind.i64.wrap n = n := by rw [IntKind.wrap_i64]; omega
theorem and127 {b : Int} (h0 : 0 ≤ b) (h1 : b ≤ 255) : Go.bits .and .u8 b 127 = b % 128 := bits_mask .u8 8 (by decide) wraps_u8 7 (by decide) b h0 (by omega)
theorem wf_i64 {n : Int} (h : (Lit.int .i64 n).wf = true) : -9223372036854775808 ≤ n ∧ n ≤ 9223372036854775807 := by
  simp only [Lit.wf, Bool.and_eq_true, decide_eq_true_eq] at h
  exact h
theorem wf_u32 {n : Int} (h : (Lit.int .u32 n).wf = true) : 0 ≤ n ∧ n ≤ 4294967295 := by
  simp only [Lit.wf, Bool.and_eq_true, decide_eq_true_eq] at h
  exact h
theorem bits_or_comm (k : IntKind) (x y : Int) : Go.bits .or k x y = Go.bits .or k y x := by
  simp only [Go.bits, BitVec.or_comm]
theorem and127i {b : Int} (h0 : 0 ≤ b) (h1 : b ≤ 9223372036854775807) : Go.bits .and .i64 b 127 = b % 128 := bits_mask .i64 63 (by decide) wraps_i64 7 (by decide) b h0 (by omega)
theorem or128i {b : Int} (h0 : 0 ≤ b) (h1 : b < 128) : Go.bits .or .i64 b 128 = b + 128 := by
  rw [bits_or_comm, bits_join .i64 63 (by decide) wraps_i64 7 128 b (by omega) (by omega) (by omega) h0 (by omega) (by omega)]; omega
theorem Ev.ite_ {α : Type} {c : Prop} [Decidable c] {g f : Nat → Option α} {r : α} (h : c → Ev g r) (k : ¬c → Ev f r) : Ev (fun n => if c then g n else f n) r := by
  by_cases hc : c
  · simp only [if_pos hc]; exact h hc
  · simp only [if_neg hc]; exact k hc
theorem Ev.pos_ {α : Type} {c : Prop} [Decidable c] {g f : Nat → Option α} {r : α} (hc : c) (h : Ev g r) : Ev (fun n => if c then g n else f n) r := by simp only [if_pos hc]; exact h
theorem Ev.neg_ {α : Type} {c : Prop} [Decidable c] {g f : Nat → Option α} {r : α} (hc : ¬c) (h : Ev f r) : Ev (fun n => if c then g n else f n) r := by simp only [if_neg hc]; exact h
theorem Ev.some_ {α β : Type} {f : Nat → α → Option β} {x : α} {r : β} (h : Ev (fun n => f n x) r) : Ev (fun n => (some x).bind (f n)) r := by simpa only [Option.bind_some] using h
theorem bo_and (b c : Bool) : (if b = true then some c else some false) = some (b && c) := by cases b <;> rfl
theorem bo_andP (p : Prop) [Decidable p] (c : Bool) : (if p then some c else some false) = some (decide p && c) := by by_cases h : p <;> simp [h]
theorem bo_orP (p : Prop) [Decidable p] (c : Bool) : (if p then some true else some c) = some (decide p || c) := by by_cases h : p <;> simp [h]
theorem bo_or (b c : Bool) : (if b = true then some true else some c) = some (b || c) := by cases b <;> rfl
def inB (a lo hi : Int) : Bool := decide (lo ≤ a) && decide (a ≤ hi)
theorem inB_iff {a lo hi : Int} : inB a lo hi = true ↔ lo ≤ a ∧ a ≤ hi := by simp [inB]

-- part sumM: the table of sums and the sum of a text
def crcStep (n : Int) : Int := if Go.bits .and .u32 n 1 = 1 then Go.bits .xor .u32 (n / 2) 2197175160 else n / 2
def crcIt : Nat → Int → Int
  | 0, n => n
  | d + 1, n => crcIt d (crcStep n)
def crcE (i : Nat) : Int := crcIt 8 (i : Int)
def crcT : List Int := (List.range 256).map crcE
theorem crcT_len : crcT.length = 256 := by simp [crcT]
theorem xor_comm_ (k : IntKind) (x y : Int) : Go.bits .xor k x y = Go.bits .xor k y x := by simp only [Go.bits, BitVec.xor_comm]
theorem bits_u8 (op : BinOp) (x y : Int) : 0 ≤ Go.bits op .u8 x y ∧ Go.bits op .u8 x y < 256 := by
  unfold Go.bits; rw [IntKind.wrap_u8]; exact ⟨Int.emod_nonneg _ (by decide), Int.emod_lt_of_pos _ (by decide)⟩
theorem bits_u32 (op : BinOp) (x y : Int) : 0 ≤ Go.bits op .u32 x y ∧ Go.bits op .u32 x y < 4294967296 := by
  unfold Go.bits; rw [IntKind.wrap_u32]; exact ⟨Int.emod_nonneg _ (by decide), Int.emod_lt_of_pos _ (by decide)⟩
def sumR (s : ByteArray) : Nat → Nat → Int → Int
  | 0, _, x => x
  | d + 1, i, x => sumR s d (i + 1) (Go.bits .xor .u32 (x / 256) (rd crcT (Go.bits .xor .u8 (x % 256) (bt s i))))
def sumOnV (x : Int) (s : ByteArray) : Int := sumR s s.size 0 x
def sumV (s : ByteArray) : Int := Go.bits .xor .u32 4294967295 (sumOnV 4294967295 s)
theorem sumV_range (s : ByteArray) : 0 ≤ sumV s ∧ sumV s < 4294967296 := bits_u32 _ _ _

-- part specTable needs spec_l2Table.f
theorem spec_table_in (d : Nat) : ∀ (T : List Int) (i x j y z : Int) (r : List Int), 0 ≤ j → j + d = 8 → 0 ≤ i → i < T.length →
    Ev (fun k => spec_l2Table.l0 k (T.set i.toNat (crcIt d x)) y (wrap64 (z + 1))) r → Ev (fun k => spec_l2Table.l1 k T i x j y z) r := by
  induction d with
  | zero =>
    intro T i x j y z r h0 hd hi hi' h
    refine Ev.step (fun k => ?_) h
    simp only [spec_l2Table.l1]
    rw [if_neg (by omega), if_pos hi, if_pos hi']; rfl
  | succ d ih =>
    intro T i x j y z r h0 hd hi hi' h
    refine Ev.step (fun k => ?_) (ih T i (crcStep x) (j + 1) y z r (by omega) (by omega) hi hi' h)
    simp only [spec_l2Table.l1]
    rw [if_pos (by omega), w64 (by omega) (by omega)]
    unfold crcStep
    split <;> rfl
theorem spec_table_l (d : Nat) : ∀ (i : Nat), i + d = 256 → Ev (fun k => spec_l2Table.l0 k ((List.range i).map crcE ++ List.replicate d 0) 256 i) crcT := by
  induction d with
  | zero =>
    intro i hi
    obtain rfl : i = 256 := by omega
    refine Ev.step (f := fun _ => some crcT) (fun k => ?_) (Ev.now _)
    simp only [spec_l2Table.l0]; rw [if_neg (by omega)]; simp [crcT]
  | succ d ih =>
    intro i hi
    have e : ((List.range i).map crcE ++ List.replicate (d + 1) 0).set (i : Int).toNat (crcE i) = (List.range (i + 1)).map crcE ++ List.replicate d 0 := by
      rw [Int.toNat_natCast, List.range_succ, List.map_append, List.set_append_right _ _ (by simp)]
      simp [List.replicate_succ]
    refine Ev.step (f := fun k => spec_l2Table.l1 k ((List.range i).map crcE ++ List.replicate (d + 1) 0) i i 0 256 i) (fun k => ?_) ?_
    · simp only [spec_l2Table.l0]; rw [if_pos (by omega), Int.emod_eq_of_lt (by omega) (by omega)]
    · refine spec_table_in 8 _ _ _ _ _ _ _ (by omega) rfl (by omega) (by simp; omega) ?_
      have := ih (i + 1) (by omega)
      rw [show crcIt 8 (i : Int) = crcE i from rfl, e, w64 (by omega) (by omega)]
      exact this
theorem spec_table : Ev (fun k => spec_l2Table.f k) crcT := by
  unfold spec_l2Table.f
  refine Ev.pos_ (by decide) ?_
  show Ev (fun k => spec_l2Table.l0 k (List.replicate 256 0) ((List.replicate 256 (0 : Int)).length : Int) 0) crcT
  rw [List.length_replicate]
  exact spec_table_l 256 0 rfl

-- part implTable needs impl_SumTable.f
theorem impl_table_in (d : Nat) : ∀ (T : List Int) (x z j : Int) (r : List Int), 0 ≤ j → j + d = 8 → T.length < 35184372088832 →
    Ev (fun k => impl_SumTable.l0 k (T ++ [crcIt d x]) ((z + 1) % 4294967296)) r → Ev (fun k => impl_SumTable.l1 k T x z j) r := by
  induction d with
  | zero =>
    intro T x z j r h0 hd hi h
    refine Ev.step (fun k => ?_) h
    simp only [impl_SumTable.l1]
    rw [if_neg (by omega), if_pos hi]; rfl
  | succ d ih =>
    intro T x z j r h0 hd hi h
    refine Ev.step (fun k => ?_) (ih T (crcStep x) z (j + 1) r (by omega) (by omega) hi h)
    simp only [impl_SumTable.l1]
    rw [if_pos (by omega), w64 (by omega) (by omega)]
    unfold crcStep
    split <;> rfl
theorem impl_table_l (d : Nat) : ∀ (i : Nat), i + d = 256 → Ev (fun k => impl_SumTable.l0 k ((List.range i).map crcE) i) crcT := by
  induction d with
  | zero =>
    intro i hi
    obtain rfl : i = 256 := by omega
    refine Ev.step (f := fun _ => some crcT) (fun k => ?_) (Ev.now _)
    simp only [impl_SumTable.l0]; rw [if_neg (by omega)]; rfl
  | succ d ih =>
    intro i hi
    refine Ev.step (f := fun k => impl_SumTable.l1 k ((List.range i).map crcE) i i 0) (fun k => ?_) ?_
    · simp only [impl_SumTable.l0]; rw [if_pos (by omega)]
    · refine impl_table_in 8 _ _ _ _ _ (by omega) rfl (by simp; omega) ?_
      have := ih (i + 1) (by omega)
      rw [Int.emod_eq_of_lt (by omega) (by omega)]
      rw [List.range_succ, List.map_append] at this
      exact this
theorem impl_table : Ev (fun k => impl_SumTable.f k) crcT := impl_table_l 256 0 rfl

-- part specOn needs spec_l2On.f
theorem spec_on_l (s : ByteArray) (hs : s.size ≤ 140737488351232) (d : Nat) : ∀ (i : Nat) (x : Int), i + d = s.size → Ev (fun k => spec_l2On.l0 k crcT x s i) (sumR s d i x) := by
  induction d with
  | zero =>
    intro i x hi
    refine Ev.step (f := fun _ => some x) (fun k => ?_) (Ev.now _)
    simp only [spec_l2On.l0]; rw [if_neg (by omega)]
  | succ d ih =>
    intro i x hi
    have hr := bits_u8 .xor (x % 256) (bt s i)
    refine Ev.step (fun k => ?_) (ih (i + 1) _ (by omega))
    simp only [spec_l2On.l0]
    rw [if_pos (by omega), if_pos (by omega), if_pos hr.1, if_pos (by rw [crcT_len]; exact hr.2), xor_comm_ .u32, w64 (by omega) (by omega)]; rfl
theorem spec_on (x : Int) (s : ByteArray) (hs : s.size ≤ 140737488351232) : Ev (fun k => spec_l2On.f k crcT x s) (sumOnV x s) := spec_on_l s hs _ 0 x (by omega)

-- part implOn needs impl_SumOn.f
theorem impl_on_l (s : ByteArray) (hs : s.size ≤ 140737488351232) (d : Nat) : ∀ (i : Nat) (x : Int), i + d = s.size → Ev (fun k => impl_SumOn.l0 k x s crcT (s.size : Int) i) (sumR s d i x) := by
  induction d with
  | zero =>
    intro i x hi
    refine Ev.step (f := fun _ => some x) (fun k => ?_) (Ev.now _)
    simp only [impl_SumOn.l0]; rw [if_neg (by omega)]
  | succ d ih =>
    intro i x hi
    have hr := bits_u8 .xor (x % 256) (bt s i)
    refine Ev.step (fun k => ?_) (ih (i + 1) _ (by omega))
    simp only [impl_SumOn.l0]
    rw [if_pos (by omega), if_pos (by omega), if_pos (by omega), if_pos hr.1, if_pos (by rw [crcT_len]; exact hr.2), w64 (by omega) (by omega)]; rfl
theorem impl_on (x : Int) (s : ByteArray) (hs : s.size ≤ 140737488351232) : Ev (fun k => impl_SumOn.f k x s) (sumOnV x s) :=
  Ev.bind impl_table (impl_on_l s hs _ 0 x (by omega))

-- part specSum needs spec_l2Sum.f
theorem spec_sum (s : ByteArray) (hs : s.size ≤ 140737488351232) : Ev (fun k => spec_l2Sum.f k s) (sumV s) :=
  Ev.bind spec_table (Ev.bind (spec_on 4294967295 s hs) (Ev.now _))

-- part implSum needs impl_SumOf.f
theorem impl_sum (s : ByteArray) (hs : s.size ≤ 140737488351232) : Ev (fun k => impl_SumOf.f k s) (sumV s) :=
  Ev.bind (impl_on 4294967295 s hs) (Ev.now _)

-- part byL: rows of bytes
def ByL (l : List Int) : Prop := ∀ x ∈ l, 0 ≤ x ∧ x ≤ 255
theorem byL {l : List Int} (h : ∀ x ∈ l, (Lit.int .u8 x).wf = true) : ByL l := fun x hx => by
  have := h x hx
  simp only [Lit.wf, Bool.and_eq_true, decide_eq_true_eq] at this
  exact this
theorem ByL.rd_ {l : List Int} (h : ByL l) (i : Int) : 0 ≤ rd l i ∧ rd l i ≤ 255 := by
  unfold rd
  rw [List.getD_eq_getElem?_getD]
  cases e : l[i.toNat]? with
  | none => simp
  | some x => exact h x (List.mem_of_getElem? e)

-- part drawNext needs spec_l1Cur_next.f
theorem and255_ {b : Int} (h0 : 0 ≤ b) (h1 : b < 18446744073709551616) : Go.bits .and .u64 b 255 = b % 256 := bits_mask .u64 64 (by decide) (fun n a b => by rw [wrap_u64]; omega) 8 (by decide) b h0 (by omega)
theorem mix_range (x : Int) : 0 ≤ wrap64 (Go.bits .and .u64 (IntKind.u64.wrap x / 1099511627776) 255) ∧ wrap64 (Go.bits .and .u64 (IntKind.u64.wrap x / 1099511627776) 255) ≤ 255 := by
  rw [wrap_u64, and255_ (by omega) (by omega), w64 (by omega) (by omega)]
  omega
theorem draw_next {l : List Int} (hl : ByL l) (a s : Int) (h0 : 0 ≤ a) (h1 : a ≤ 4611686018427387904) : ∃ b s', spec_l1Cur_next.f l a s = some (b, a + 1, s') ∧ 0 ≤ b ∧ b ≤ 255 := by
  have hw : wrap64 (a + 1) = a + 1 := w64 (by omega) (by omega)
  have hr := hl.rd_ a
  have hwr : wrap64 (rd l a) = rd l a := w64 (by omega) (by omega)
  unfold spec_l1Cur_next.f
  rw [hw, if_pos h0]
  split
  · split
    · exact ⟨_, _, rfl, by rw [hwr]; exact hr⟩
    · exact ⟨_, _, rfl, mix_range _⟩
  · split
    · exact ⟨_, _, rfl, by omega, by omega⟩
    · exact ⟨_, _, rfl, mix_range _⟩

-- part drawPick needs spec_l1Cur_pick.f
theorem tmod_range {x n : Int} (hx : 0 ≤ x) (hn : 1 ≤ n) : 0 ≤ Int.tmod x n ∧ Int.tmod x n < n ∧ Int.tmod x n ≤ x := by
  rw [Int.tmod_eq_emod_of_nonneg hx]
  have h1 := Int.emod_add_mul_ediv x n
  have h2 : 0 ≤ x / n := Int.ediv_nonneg hx (by omega)
  have h3 := Int.mul_nonneg (show (0 : Int) ≤ n by omega) h2
  exact ⟨Int.emod_nonneg _ (by omega), Int.emod_lt_of_pos _ (by omega), by omega⟩
theorem draw_pick {l : List Int} (hl : ByL l) (a s n : Int) (h0 : 0 ≤ a) (h1 : a ≤ 4611686018427387000) : ∃ v a' s', spec_l1Cur_pick.f l a s n = some (v, a', s') ∧ a ≤ a' ∧ a' ≤ a + 2 ∧ 0 ≤ v ∧ (1 ≤ n → v < n) ∧ v ≤ 65535 := by
  unfold spec_l1Cur_pick.f
  by_cases hn : n ≤ 1
  · rw [if_pos hn]; exact ⟨_, _, _, rfl, by omega, by omega, by omega, fun h => by omega, by omega⟩
  · rw [if_neg hn]
    obtain ⟨b, s1, e1, hb0, hb1⟩ := draw_next hl a s h0 (by omega)
    rw [e1, Option.bind_some]
    simp only
    by_cases h2 : n > 200
    · obtain ⟨c, s2, e2, hc0, hc1⟩ := draw_next hl (a + 1) s1 (by omega) (by omega)
      rw [if_pos h2, e2, Option.bind_some, if_neg (by omega), w64 (n := b * 256) (by omega) (by omega), w64 (n := b * 256 + c) (by omega) (by omega)]
      have := tmod_range (x := b * 256 + c) (n := n) (by omega) (by omega)
      exact ⟨_, _, _, rfl, by simp only; omega, by simp only; omega, this.1, fun _ => this.2.1, by omega⟩
    · rw [if_neg h2, if_neg (by omega)]
      have := tmod_range (x := b) (n := n) (by omega) (by omega)
      exact ⟨_, _, _, rfl, by omega, by omega, this.1, fun _ => this.2.1, by omega⟩

-- part drawWide needs spec_l1Cur_wide.f
theorem bits_i64 (op : BinOp) (x y : Int) : -9223372036854775808 ≤ Go.bits op .i64 x y ∧ Go.bits op .i64 x y ≤ 9223372036854775807 := by
  unfold Go.bits; rw [IntKind.wrap_i64]; omega
theorem draw_wide_l {l : List Int} (hl : ByL l) (d : Nat) : ∀ (x j a s : Int), 0 ≤ j → j + d = 8 → 0 ≤ a → a ≤ 4611686018427380000 - d → (-9223372036854775808 ≤ x ∧ x ≤ 9223372036854775807) →
    ∃ v a' s', Ev (fun k => spec_l1Cur_wide.l0 k x j l a s) (v, a', s') ∧ a ≤ a' ∧ a' ≤ a + d ∧ (-9223372036854775808 ≤ v ∧ v ≤ 9223372036854775807) := by
  induction d with
  | zero =>
    intro x j a s h0 hj ha ha' hx
    refine ⟨x, a, s, Ev.step (f := fun _ => some (x, a, s)) (fun k => ?_) (Ev.now _), by omega, by omega, hx⟩
    simp only [spec_l1Cur_wide.l0]; rw [if_neg (by omega)]
  | succ d ih =>
    intro x j a s h0 hj ha ha' hx
    obtain ⟨b, s1, e1, hb0, hb1⟩ := draw_next hl a s ha (by omega)
    obtain ⟨v, a', s', h1, h2, h3, h4⟩ := ih (Go.bits .or .i64 (wrap64 (x * 256)) b) (j + 1) (a + 1) s1 (by omega) (by omega) (by omega) (by omega) (bits_i64 _ _ _)
    refine ⟨v, a', s', Ev.step (fun k => ?_) h1, by omega, by omega, h4⟩
    simp only [spec_l1Cur_wide.l0]
    rw [if_pos (by omega), e1, w64 (n := j + 1) (by omega) (by omega)]; rfl
theorem draw_wide {l : List Int} (hl : ByL l) (a s : Int) (h0 : 0 ≤ a) (h1 : a ≤ 4611686018427370000) : ∃ v a' s', Ev (fun k => spec_l1Cur_wide.f k l a s) (v, a', s') ∧ a ≤ a' ∧ a' ≤ a + 8 ∧ (-9223372036854775808 ≤ v ∧ v ≤ 9223372036854775807) :=
  draw_wide_l hl 8 0 0 a s (by omega) (by omega) h0 (by omega) (by omega)

-- part drawText needs spec_l1Cur_text.f
theorem draw_text_l {l : List Int} (hl : ByL l) (d : Nat) : ∀ (xs : List Int) (i : Nat) (a s : Int), i + d = xs.length → xs.length ≤ 140737488351232 → 0 ≤ a → a + 2 * d ≤ 4611686018427380000 →
    ∃ t a' s', Ev (fun k => spec_l1Cur_text.l0 k xs (xs.length : Int) i l a s) (t, a', s') ∧ a ≤ a' ∧ a' ≤ a + 2 * d ∧ t.size = xs.length := by
  induction d with
  | zero =>
    intro xs i a s hi hx ha ha'
    refine ⟨strOfNums xs, a, s, Ev.step (f := fun _ => some (strOfNums xs, a, s)) (fun k => ?_) (Ev.now _), by omega, by omega, strOfNums_size _⟩
    simp only [spec_l1Cur_text.l0]; rw [if_neg (by omega)]
  | succ d ih =>
    intro xs i a s hi hx ha ha'
    obtain ⟨b, a1, s1, e1, h2, h3, h4, h5, h6⟩ := draw_pick hl a s 256 ha (by omega)
    obtain ⟨t, a', s', e, h7, h8, h9⟩ := ih (xs.set i (b % 256)) (i + 1) a1 s1 (by simp; omega) (by simpa using hx) (by omega) (by omega)
    rw [List.length_set] at e h9
    refine ⟨t, a', s', Ev.step (fun k => ?_) e, by omega, by omega, h9⟩
    simp only [spec_l1Cur_text.l0]
    rw [if_pos (by omega), e1, w64 (by omega) (by omega), Option.bind_some, if_pos (by omega), if_pos (by omega)]; rfl
theorem draw_text {l : List Int} (hl : ByL l) (a s n : Int) (h0 : 0 ≤ a) (h1 : a ≤ 4611686018427370000 - 140737488351232 * 2) (hn : 0 ≤ n) (hn' : n ≤ 140737488351232) : ∃ t a' s', Ev (fun k => spec_l1Cur_text.f k l a s n) (t, a', s') ∧ a ≤ a' ∧ a' ≤ a + 2 * n ∧ (t.size : Int) = n := by
  obtain ⟨t, a', s', e, h2, h3, h4⟩ := draw_text_l hl n.toNat (List.replicate n.toNat 0) 0 a s (by simp) (by simp; omega) h0 (by omega)
  refine ⟨t, a', s', ?_, h2, by omega, by rw [h4]; simp; omega⟩
  unfold spec_l1Cur_text.f
  exact Ev.pos_ hn (Ev.pos_ (by omega) e)

-- part drawSum needs spec_DrawSumOf.f
theorem draw_sumof {l : List Int} (hl : ByL l) : ∃ t, Ev (fun k => spec_DrawSumOf.f k l) t ∧ t.size ≤ 40 := by
  obtain ⟨n, a, s, e, h1, h2, h3, h4, h5⟩ := draw_pick hl 0 0 40 (by omega) (by omega)
  have := h4 (by omega)
  obtain ⟨t, a', s', e', h6, h7, h8⟩ := draw_text hl a s n (by omega) (by omega) (by omega) (by omega)
  refine ⟨t, ?_, by omega⟩
  unfold spec_DrawSumOf.f
  rw [e]
  exact Ev.some_ (Ev.bind e' (Ev.now _))

-- part drawSumOn needs spec_DrawSumOn.f
theorem draw_sumon {l : List Int} (hl : ByL l) : ∃ x t, Ev (fun k => spec_DrawSumOn.f k l) (x, t) ∧ t.size ≤ 20 ∧ 0 ≤ x ∧ x < 4294967296 := by
  obtain ⟨v, a0, s0, e0, g1, g2, g3⟩ := draw_wide hl 0 0 (by omega) (by omega)
  obtain ⟨n, a, s, e, h1, h2, h3, h4, h5⟩ := draw_pick hl a0 s0 20 (by omega) (by omega)
  have := h4 (by omega)
  obtain ⟨t, a', s', e', h6, h7, h8⟩ := draw_text hl a s n (by omega) (by omega) (by omega) (by omega)
  refine ⟨v % 4294967296, t, ?_, by omega, by omega, by omega⟩
  unfold spec_DrawSumOn.f
  refine Ev.bind e0 ?_
  simp only
  rw [e]
  exact Ev.some_ (Ev.bind e' (Ev.now _))

-- part bytesM: bytes of a row
theorem bt_strOfNums {xs : List Int} (h : ByL xs) (i : Nat) : bt (strOfNums xs) (i : Int) = rd xs (i : Int) := by
  unfold bt rd
  rw [List.getD_eq_getElem?_getD]
  by_cases hi : i < xs.length
  · rw [dif_pos (by rw [strOfNums_size]; simpa using hi), List.getElem?_eq_getElem (by simpa using hi)]
    have := h _ (List.getElem_mem hi)
    have e : ((strOfNums xs)[(i : Int).toNat]'(by rw [strOfNums_size]; simpa using hi)) = UInt8.ofNat (xs[i]).toNat := by
      unfold strOfNums
      rw [ByteArray.getElem_eq_getElem_data]
      simp
    rw [e]
    simp only [UInt8.toNat_ofNat', Int.toNat_natCast, Option.getD_some]
    omega
  · rw [dif_neg (by rw [strOfNums_size]; simpa using hi), List.getElem?_eq_none (by simpa using hi)]; rfl
theorem rd_set (xs : List Int) (i j : Nat) (v : Int) (hi : i < xs.length) : rd (xs.set i v) (j : Int) = if j = i then v else rd xs (j : Int) := by
  unfold rd
  rw [List.getD_eq_getElem?_getD, List.getD_eq_getElem?_getD, Int.toNat_natCast]
  by_cases e : j = i
  · subst e; rw [if_pos rfl, List.getElem?_set_self hi]; rfl
  · rw [if_neg e, List.getElem?_set_ne (by omega)]
theorem ByL.set_ {xs : List Int} (h : ByL xs) (i : Nat) {v : Int} (hv : 0 ≤ v ∧ v ≤ 255) : ByL (xs.set i v) := fun x hx => by
  rcases List.mem_or_eq_of_mem_set hx with hx | rfl
  · exact h x hx
  · exact hv
theorem ByL.zeros (n : Nat) : ByL (List.replicate n 0) := fun x hx => by
  have := List.eq_of_mem_replicate hx; omega

-- part linM: sums are linear; sums over plain numbers
-- imports Derived.Laws.BitsAllLaws
def stepN (n : Nat) : Nat := if n % 2 = 1 then (n / 2) ^^^ 2197175160 else n / 2
def itN : Nat → Nat → Nat
  | 0, n => n
  | d + 1, n => itN d (stepN n)
def eN (n : Nat) : Nat := itN 8 n
def sumN (f : Nat → Nat) : Nat → Nat → Nat → Nat
  | 0, _, x => x
  | d + 1, i, x => sumN f d (i + 1) ((x / 256) ^^^ eN ((x % 256) ^^^ f i))
theorem xor_lt32 {a b : Nat} (ha : a < 4294967296) (hb : b < 4294967296) : a ^^^ b < 4294967296 := Nat.xor_lt_two_pow (n := 32) ha hb
theorem xor_lt8 {a b : Nat} (ha : a < 256) (hb : b < 256) : a ^^^ b < 256 := Nat.xor_lt_two_pow (n := 8) ha hb
theorem stepN_lt {n : Nat} (h : n < 4294967296) : stepN n < 4294967296 := by
  unfold stepN; split
  · exact xor_lt32 (by omega) (by omega)
  · omega
theorem itN_lt (d : Nat) : ∀ {n : Nat}, n < 4294967296 → itN d n < 4294967296 := by
  induction d with
  | zero => intro n h; exact h
  | succ d ih => intro n h; exact ih (stepN_lt h)
theorem crcStep_nat {n : Nat} (h : n < 4294967296) : crcStep (n : Int) = (stepN n : Int) := by
  unfold crcStep stepN
  have e : Go.bits .and .u32 (n : Int) 1 = (n : Int) % 2 := bits_mask .u32 32 (by decide) wraps_u32 1 (by decide) _ (by omega) (by omega)
  rw [e]
  by_cases hn : n % 2 = 1
  · rw [if_pos (by omega), if_pos hn]
    have := u32_xor_nat (n / 2) 2197175160 (by omega) (by omega)
    simpa using this
  · rw [if_neg (by omega), if_neg hn]; omega
theorem crcIt_nat (d : Nat) : ∀ {n : Nat}, n < 4294967296 → crcIt d (n : Int) = (itN d n : Int) := by
  induction d with
  | zero => intro n h; rfl
  | succ d ih => intro n h; simp only [crcIt, itN]; rw [crcStep_nat h, ih (stepN_lt h)]
theorem rd_crcT {i : Nat} (h : i < 256) : rd crcT (i : Int) = (eN i : Int) := by
  unfold rd crcT
  rw [List.getD_eq_getElem?_getD, List.getElem?_eq_getElem (by simp; omega)]
  simp only [Int.toNat_natCast, List.getElem_map, List.getElem_range, Option.getD_some]
  exact crcIt_nat 8 (by omega)
def byN (s : ByteArray) (i : Nat) : Nat := (bt s (i : Int)).toNat
theorem byN_lt (s : ByteArray) (i : Nat) : byN s i < 256 := by have := bt_range s (i : Int); unfold byN; omega
theorem sumR_nat (s : ByteArray) (d : Nat) : ∀ (i : Nat) {x : Nat}, x < 4294967296 → sumR s d i (x : Int) = (sumN (byN s) d i x : Int) := by
  induction d with
  | zero => intro i x h; rfl
  | succ d ih =>
    intro i x h
    have hb := byN_lt s i
    have e1 : bt s (i : Int) = (byN s i : Int) := by have := bt_range s (i : Int); unfold byN; omega
    have e2 : Go.bits .xor .u8 ((x : Int) % 256) (bt s (i : Int)) = (((x % 256) ^^^ byN s i : Nat) : Int) := by
      rw [e1]; exact u8_xor_nat (x % 256) _ (by omega) hb
    have hl : (x % 256) ^^^ byN s i < 256 := xor_lt8 (by omega) hb
    have hE : eN ((x % 256) ^^^ byN s i) < 4294967296 := itN_lt 8 (by omega)
    simp only [sumR, sumN]
    rw [e2, rd_crcT hl]
    have e3 := u32_xor_nat (x / 256) (eN ((x % 256) ^^^ byN s i)) (by omega) hE
    rw [show ((x : Int) / 256) = ((x / 256 : Nat) : Int) by omega, e3]
    exact ih (i + 1) (xor_lt32 (by omega) hE)
theorem sumN_lt (f : Nat → Nat) (hf : ∀ i, f i < 256) (d : Nat) : ∀ (i x : Nat), x < 4294967296 → sumN f d i x < 4294967296 := by
  induction d with
  | zero => intro i x h; exact h
  | succ d ih =>
    intro i x h
    have hl : (x % 256) ^^^ f i < 256 := xor_lt8 (by omega) (hf i)
    exact ih (i + 1) _ (xor_lt32 (by omega) (itN_lt 8 (by omega)))
theorem xor_half (a b : Nat) : (a ^^^ b) / 2 = (a / 2) ^^^ (b / 2) := by
  have := Nat.shiftRight_xor_distrib (a := a) (b := b) (i := 1)
  simpa [Nat.shiftRight_eq_div_pow] using this
theorem xor_div256 (a b : Nat) : (a ^^^ b) / 256 = (a / 256) ^^^ (b / 256) := by
  have := Nat.shiftRight_xor_distrib (a := a) (b := b) (i := 8)
  simpa [Nat.shiftRight_eq_div_pow] using this
theorem xor_mod256 (a b : Nat) : (a ^^^ b) % 256 = (a % 256) ^^^ (b % 256) := Nat.xor_mod_two_pow (n := 8)
theorem xor_mod2 (a b : Nat) : (a ^^^ b) % 2 = (a % 2) ^^^ (b % 2) := Nat.xor_mod_two_pow (n := 1)
theorem stepN_lin (a b : Nat) : stepN (a ^^^ b) = stepN a ^^^ stepN b := by
  unfold stepN
  rw [xor_mod2, xor_half]
  have ha : a % 2 = 0 ∨ a % 2 = 1 := by omega
  have hb : b % 2 = 0 ∨ b % 2 = 1 := by omega
  rcases ha with ha | ha <;> rcases hb with hb | hb <;> rw [ha, hb] <;> simp
  · rw [Nat.xor_assoc]
  · rw [Nat.xor_assoc, Nat.xor_comm (b / 2), Nat.xor_assoc]
  · rw [show (a / 2 ^^^ 2197175160) ^^^ (b / 2 ^^^ 2197175160) = (a / 2 ^^^ b / 2) ^^^ (2197175160 ^^^ 2197175160) by ac_rfl, Nat.xor_self, Nat.xor_zero]
theorem itN_lin (d : Nat) : ∀ a b : Nat, itN d (a ^^^ b) = itN d a ^^^ itN d b := by
  induction d with
  | zero => intro a b; rfl
  | succ d ih => intro a b; simp only [itN]; rw [stepN_lin, ih]
theorem sumN_lin (f g h : Nat → Nat) (hh : ∀ i, h i = f i ^^^ g i) (d : Nat) : ∀ i a b : Nat, sumN h d i (a ^^^ b) = sumN f d i a ^^^ sumN g d i b := by
  induction d with
  | zero => intro i a b; rfl
  | succ d ih =>
    intro i a b
    simp only [sumN]
    rw [← ih, hh i, xor_div256, xor_mod256]
    congr 1
    rw [show (a % 256 ^^^ b % 256) ^^^ (f i ^^^ g i) = (a % 256 ^^^ f i) ^^^ (b % 256 ^^^ g i) by ac_rfl]
    rw [show eN ((a % 256 ^^^ f i) ^^^ (b % 256 ^^^ g i)) = eN (a % 256 ^^^ f i) ^^^ eN (b % 256 ^^^ g i) from itN_lin 8 _ _]
    ac_rfl
theorem sumN_congr (f g : Nat → Nat) (d : Nat) : ∀ i x : Nat, (∀ j, i ≤ j → j < i + d → f j = g j) → sumN f d i x = sumN g d i x := by
  induction d with
  | zero => intro i x h; rfl
  | succ d ih =>
    intro i x h
    simp only [sumN]
    rw [h i (by omega) (by omega)]
    exact ih (i + 1) _ (fun j h1 h2 => h j (by omega) (by omega))
theorem sumN_shift (f : Nat → Nat) (c d : Nat) : ∀ i x : Nat, sumN (fun j => f (c + j)) d i x = sumN f d (c + i) x := by
  induction d with
  | zero => intro i x; rfl
  | succ d ih => intro i x; simp only [sumN]; rw [ih (i + 1)]; rfl
theorem sumN_add (f : Nat → Nat) (d e : Nat) : ∀ i x : Nat, sumN f (d + e) i x = sumN f e (i + d) (sumN f d i x) := by
  induction d with
  | zero => intro i x; simp [sumN]
  | succ d ih => intro i x; rw [show d + 1 + e = (d + e) + 1 by omega]; simp only [sumN]; rw [ih (i + 1), show i + 1 + d = i + (d + 1) by omega]
theorem sumOnV_nat (s : ByteArray) {x : Nat} (h : x < 4294967296) : sumOnV (x : Int) s = (sumN (byN s) s.size 0 x : Int) := sumR_nat s s.size 0 h
theorem byN_extract (s : ByteArray) (a b i : Nat) (h : i < b - a) (hb : b ≤ s.size) : byN (s.extract a b) i = byN s (a + i) := by
  unfold byN bt
  rw [dif_pos (by rw [ByteArray.size_extract]; simp; omega), dif_pos (by simp; omega)]
  congr 3
  exact ByteArray.getElem_extract ..
theorem sumOnV_cut (s : ByteArray) (m : Nat) (hm : m ≤ s.size) {x : Nat} (h : x < 4294967296) : sumOnV (sumOnV (x : Int) (s.extract 0 m)) (s.extract m s.size) = sumOnV (x : Int) s := by
  have e1 : (s.extract 0 m).size = m := by rw [ByteArray.size_extract]; omega
  have e2 : (s.extract m s.size).size = s.size - m := by rw [ByteArray.size_extract]; omega
  have hl := sumN_lt (byN (s.extract 0 m)) (byN_lt _) m 0 x h
  rw [sumOnV_nat _ h, sumOnV_nat s h, e1, sumOnV_nat _ hl, e2]
  have h1 : sumN (byN (s.extract 0 m)) m 0 x = sumN (byN s) m 0 x := sumN_congr _ _ _ _ _ (fun j _ h2 => by
    have := byN_extract s 0 m j (by omega) hm; rwa [Nat.zero_add] at this)
  have h2 : ∀ y, sumN (byN (s.extract m s.size)) (s.size - m) 0 y = sumN (byN s) (s.size - m) m y := fun y => by
    rw [show sumN (byN s) (s.size - m) m y = sumN (byN s) (s.size - m) (m + 0) y from rfl, ← sumN_shift]
    exact sumN_congr _ _ _ _ _ (fun j _ h3 => byN_extract s m s.size j (by omega) (by omega))
  rw [h1, h2]
  have := sumN_add (byN s) m (s.size - m) 0 x
  rw [show m + (s.size - m) = s.size by omega, Nat.zero_add] at this
  rw [this]
theorem sumV_nat (s : ByteArray) : sumV s = ((4294967295 ^^^ sumN (byN s) s.size 0 4294967295 : Nat) : Int) := by
  unfold sumV
  rw [show (4294967295 : Int) = ((4294967295 : Nat) : Int) from rfl, sumOnV_nat s (by omega)]
  exact u32_xor_nat _ _ (by omega) (sumN_lt _ (byN_lt s) _ _ _ (by omega))
theorem sumV_lin (a b c x : ByteArray) (hb : b.size = a.size) (hc : c.size = a.size) (hx : x.size = a.size)
    (h : ∀ j, j < a.size → byN x j = (byN a j ^^^ byN b j) ^^^ byN c j) : sumV x = Go.bits .xor .u32 (Go.bits .xor .u32 (sumV a) (sumV b)) (sumV c) := by
  rw [sumV_nat, sumV_nat, sumV_nat, sumV_nat, hb, hc, hx]
  have L : ∀ s : ByteArray, ∀ n, sumN (byN s) n 0 4294967295 < 4294967296 := fun s n => sumN_lt _ (byN_lt s) _ _ _ (by omega)
  have hA := L a a.size; have hB := L b a.size; have hC := L c a.size
  have F : ∀ {n : Nat}, n < 4294967296 → 4294967295 ^^^ n < 4294967296 := fun h => xor_lt32 (by omega) h
  rw [u32_xor_nat _ _ (F hA) (F hB), u32_xor_nat _ _ (xor_lt32 (F hA) (F hB)) (F hC)]
  have e1 : sumN (byN x) a.size 0 4294967295 = sumN (fun j => (byN a j ^^^ byN b j) ^^^ byN c j) a.size 0 4294967295 := sumN_congr _ _ _ _ _ (fun j _ h2 => h j (by omega))
  have e2 := sumN_lin (fun j => byN a j ^^^ byN b j) (byN c) (fun j => (byN a j ^^^ byN b j) ^^^ byN c j) (fun _ => rfl) a.size 0 (4294967295 ^^^ 4294967295) 4294967295
  have e3 := sumN_lin (byN a) (byN b) (fun j => byN a j ^^^ byN b j) (fun _ => rfl) a.size 0 4294967295 4294967295
  rw [e1]
  rw [Nat.xor_self, Nat.zero_xor] at e2
  rw [Nat.xor_self] at e3
  rw [e2, e3]
  generalize sumN (byN a) a.size 0 4294967295 = A
  generalize sumN (byN b) a.size 0 4294967295 = B
  generalize sumN (byN c) a.size 0 4294967295 = C
  congr 1
  rw [show ((4294967295 ^^^ A) ^^^ (4294967295 ^^^ B)) ^^^ (4294967295 ^^^ C) = (4294967295 ^^^ ((A ^^^ B) ^^^ C)) ^^^ (4294967295 ^^^ 4294967295) by ac_rfl, Nat.xor_self, Nat.xor_zero]

-- part burstM: a sum sees every burst of at most 32 bits
theorem stepN_two (x : Nat) : stepN (2 * x) = x := by unfold stepN; rw [if_neg (by omega)]; omega
theorem itN_mul (d n : Nat) : itN d (2 ^ d * n) = n := by
  induction d with
  | zero => simp [itN]
  | succ d ih => rw [show 2 ^ (d + 1) * n = 2 * (2 ^ d * n) by rw [Nat.pow_succ, Nat.mul_comm (2 ^ d) 2, Nat.mul_assoc]]; simp only [itN]; rw [stepN_two, ih]
theorem itN_add (a b : Nat) : ∀ n : Nat, itN (a + b) n = itN b (itN a n) := by
  induction a with
  | zero => intro n; rw [Nat.zero_add]; rfl
  | succ a ih => intro n; rw [show a + 1 + b = (a + b) + 1 by omega]; simp only [itN]; exact ih _
theorem itN_zero (d : Nat) : itN d 0 = 0 := by have := itN_mul d 0; rwa [Nat.mul_zero] at this
theorem xor_self_eq {a b : Nat} (h : a ^^^ b = 0) : a = b := by
  have := congrArg (fun z => z ^^^ b) h
  simp only [Nat.xor_assoc, Nat.xor_self, Nat.xor_zero, Nat.zero_xor] at this
  exact this
theorem stepN_ne {n : Nat} (h : n < 4294967296) (hn : n ≠ 0) : stepN n ≠ 0 := by
  unfold stepN
  split
  · intro e; have := xor_self_eq e; omega
  · omega
theorem itN_ne (d : Nat) : ∀ {n : Nat}, n < 4294967296 → n ≠ 0 → itN d n ≠ 0 := by
  induction d with
  | zero => intro n h hn; exact hn
  | succ d ih => intro n h hn; exact ih (stepN_lt h) (stepN_ne h hn)
theorem split256 (r : Nat) : (256 * (r / 256)) ^^^ (r % 256) = r := by
  have h1 := xor_div256 (256 * (r / 256)) (r % 256)
  have h2 := xor_mod256 (256 * (r / 256)) (r % 256)
  rw [show 256 * (r / 256) / 256 = r / 256 by omega, show r % 256 / 256 = 0 by omega, Nat.xor_zero] at h1
  rw [show 256 * (r / 256) % 256 = 0 by omega, show r % 256 % 256 = r % 256 by omega, Nat.zero_xor] at h2
  omega
def polyN (f : Nat → Nat) : Nat → Nat → Nat
  | 0, _ => 0
  | d + 1, i => f i ^^^ (256 * polyN f d (i + 1))
theorem sumN_poly (f : Nat → Nat) (d : Nat) : ∀ i r : Nat, sumN f d i r = itN (8 * d) (r ^^^ polyN f d i) := by
  induction d with
  | zero => intro i r; simp [sumN, polyN, itN]
  | succ d ih =>
    intro i r
    simp only [sumN, polyN]
    rw [ih, show 8 * (d + 1) = 8 + 8 * d by omega, itN_add]
    congr 1
    have e1 : itN 8 r = (r / 256) ^^^ eN (r % 256) := by
      have h := itN_lin 8 (256 * (r / 256)) (r % 256)
      rw [split256, show itN 8 (256 * (r / 256)) = r / 256 from itN_mul 8 _] at h
      exact h
    have e2 : itN 8 (256 * polyN f d (i + 1)) = polyN f d (i + 1) := itN_mul 8 _
    have e3 : eN ((r % 256) ^^^ f i) = eN (r % 256) ^^^ itN 8 (f i) := itN_lin 8 _ _
    rw [itN_lin, itN_lin, e1, e2, e3]
    ac_rfl
def updN (f : Nat → Nat) (q v : Nat) : Nat → Nat := fun j => if j = q then f j ^^^ v else f j
theorem polyN_congr (f g : Nat → Nat) (d : Nat) : ∀ i : Nat, (∀ j, i ≤ j → j < i + d → f j = g j) → polyN f d i = polyN g d i := by
  induction d with
  | zero => intro i h; rfl
  | succ d ih => intro i h; simp only [polyN]; rw [h i (by omega) (by omega), ih (i + 1) (fun j h1 h2 => h j (by omega) (by omega))]
theorem mul_xor (k a b : Nat) : 2 ^ k * (a ^^^ b) = (2 ^ k * a) ^^^ (2 ^ k * b) := by
  have := Nat.shiftLeft_xor_distrib (a := a) (b := b) (i := k)
  simpa [Nat.shiftLeft_eq, Nat.mul_comm] using this
theorem polyN_upd (f : Nat → Nat) (q v : Nat) (d : Nat) : ∀ i : Nat, i ≤ q → q < i + d → polyN (updN f q v) d i = polyN f d i ^^^ (256 ^ (q - i) * v) := by
  induction d with
  | zero => intro i h1 h2; omega
  | succ d ih =>
    intro i h1 h2
    simp only [polyN]
    by_cases e : i = q
    · subst e
      rw [polyN_congr (updN f i v) f d (i + 1) (fun j h3 h4 => by unfold updN; rw [if_neg (by omega)])]
      unfold updN
      rw [if_pos rfl, Nat.sub_self, Nat.pow_zero, Nat.one_mul]
      ac_rfl
    · rw [ih (i + 1) (by omega) (by omega)]
      have e1 : updN f q v i = f i := by unfold updN; rw [if_neg e]
      have e2 : 256 * (polyN f d (i + 1) ^^^ 256 ^ (q - (i + 1)) * v) = (256 * polyN f d (i + 1)) ^^^ (256 ^ (q - i) * v) := by
        have := mul_xor 8 (polyN f d (i + 1)) (256 ^ (q - (i + 1)) * v)
        rw [show 2 ^ 8 = 256 from rfl] at this
        rw [this, show q - i = (q - (i + 1)) + 1 by omega, Nat.pow_succ, ← Nat.mul_assoc, Nat.mul_comm 256 (256 ^ (q - (i + 1)))]
      rw [e1, e2]
      ac_rfl
theorem bit_at (p : Nat) : 256 ^ (p / 8) * 2 ^ (p % 8) = 2 ^ p := by
  rw [show 256 = 2 ^ 8 from rfl, ← Nat.pow_mul, ← Nat.pow_add]; congr 1; omega
theorem sumV_eq_iff (a x : ByteArray) (e : Nat → Nat) (hx : x.size = a.size) (h : ∀ j, j < a.size → byN x j = byN a j ^^^ e j) : sumV x = sumV a ↔ sumN e a.size 0 0 = 0 := by
  rw [sumV_nat, sumV_nat, hx]
  have e1 : sumN (byN x) a.size 0 4294967295 = sumN (fun j => byN a j ^^^ e j) a.size 0 4294967295 := sumN_congr _ _ _ _ _ (fun j _ h2 => h j (by omega))
  have e2 := sumN_lin (byN a) e (fun j => byN a j ^^^ e j) (fun _ => rfl) a.size 0 4294967295 0
  rw [Nat.xor_zero] at e2
  rw [e1, e2]
  generalize sumN (byN a) a.size 0 4294967295 = A
  generalize sumN e a.size 0 0 = Z
  constructor
  · intro hh
    have h3 : 4294967295 ^^^ (A ^^^ Z) = 4294967295 ^^^ A := by exact_mod_cast hh
    have h4 := congrArg (fun z => (4294967295 ^^^ A) ^^^ z) h3
    simp only [Nat.xor_self] at h4
    rw [show (4294967295 ^^^ A) ^^^ (4294967295 ^^^ (A ^^^ Z)) = (4294967295 ^^^ 4294967295) ^^^ (A ^^^ A) ^^^ Z by ac_rfl, Nat.xor_self, Nat.xor_self, Nat.xor_self, Nat.zero_xor] at h4
    exact h4
  · intro hh; rw [hh, Nat.xor_zero]
theorem burst_zero (e : Nat → Nat) (d at_ m : Nat) (hE : polyN e d 0 = 2 ^ at_ * m) (ha : at_ ≤ 8 * d) (hm : m < 4294967296) : sumN e d 0 0 = 0 ↔ m = 0 := by
  rw [sumN_poly, Nat.zero_xor, hE, show 8 * d = at_ + (8 * d - at_) by omega, itN_add, itN_mul]
  constructor
  · intro h
    by_cases h0 : m = 0
    · exact h0
    · exact absurd h (itN_ne _ hm h0)
  · intro h; rw [h]; exact itN_zero _

-- part numberM needs laws_numberOf.f
theorem numberOf_l {l : List Int} (hl : ByL l) (hn : l.length ≤ 140737488351232) (d : Nat) : ∀ (x : Int) (i : Nat), i + d = l.length → 0 ≤ x → x < 1000003 → ∃ n, Ev (fun k => laws_numberOf.l0 k x l (l.length : Int) i) n ∧ 0 ≤ n ∧ n < 1000003 := by
  induction d with
  | zero =>
    intro x i hi h0 h1
    refine ⟨x, Ev.step (fun k => by rw [laws_numberOf.l0]) ?_, h0, h1⟩
    exact Ev.neg_ (by omega) (Ev.now _)
  | succ d ih =>
    intro x i hi h0 h1
    have hr := hl.rd_ i
    have ht := tmod_range (x := 31 * x + rd l i) (n := 1000003) (by omega) (by omega)
    obtain ⟨n, e, h2⟩ := ih _ (i + 1) (by omega) ht.1 ht.2.1
    refine ⟨n, Ev.step (fun k => by rw [laws_numberOf.l0]) ?_, h2⟩
    refine Ev.pos_ (by omega) (Ev.pos_ (by omega) (Ev.pos_ (by omega) ?_))
    rw [w64 (n := 31 * x) (by omega) (by omega), w64 (n := rd l i) (by omega) (by omega), w64 (n := 31 * x + rd l i) (by omega) (by omega), w64 (n := (i : Int) + 1) (by omega) (by omega)]
    exact e
theorem numberOf_ {l : List Int} (hl : ByL l) (hn : l.length ≤ 140737488351232) : ∃ n, Ev (fun k => laws_numberOf.f k l) n ∧ 0 ≤ n ∧ n < 1000003 :=
  numberOf_l hl hn l.length 0 0 (by omega) (by omega) (by omega)

theorem rd_bytesOf (s : ByteArray) (j : Nat) : rd (bytesOf s) (j : Int) = bt s (j : Int) := by
  unfold rd bt
  rw [List.getD_eq_getElem?_getD, Int.toNat_natCast]
  by_cases h : j < s.size
  · rw [List.getElem?_eq_getElem (by rw [bytesOf_length]; exact h), dif_pos h]
    simp [bytesOf]; rfl
  · rw [List.getElem?_eq_none (by rw [bytesOf_length]; omega), dif_neg h]; rfl
theorem ByL.bytes (s : ByteArray) : ByL (bytesOf s) := fun x hx => by
  obtain ⟨j, hj, rfl⟩ := List.getElem_of_mem hx
  have := rd_bytesOf s j
  unfold rd at this
  rw [List.getD_eq_getElem?_getD, Int.toNat_natCast, List.getElem?_eq_getElem hj] at this
  have h2 := bt_range s (j : Int)
  simp only [Option.getD_some] at this
  omega
theorem shl_one : ∀ r : Nat, r < 8 → shl .u8 1 (r : Int) = ((2 ^ r : Nat) : Int) := by
  intro r hr
  have h : ∀ r : Fin 8, shl .u8 1 (r.val : Int) = ((2 ^ r.val : Nat) : Int) := by decide
  exact h ⟨r, hr⟩
/-- What has been changed so far: e the bits, as bytes; m the same within the window that begins at bit p0. -/
def BurInv (a : ByteArray) (p0 : Nat) (xs : List Int) (c : Bool) (i : Nat) : Prop :=
  ByL xs ∧ xs.length = a.size ∧ ∃ (e : Nat → Nat) (m : Nat), (∀ j, j < a.size → (rd xs (j : Int)).toNat = byN a j ^^^ e j) ∧ polyN e a.size 0 = 2 ^ p0 * m ∧ m < 2 ^ i ∧ c = decide (m ≠ 0)
theorem xor_bit_ne {m i : Nat} (h : m < 2 ^ i) : m ^^^ 2 ^ i ≠ 0 := fun e => by have := xor_self_eq e; omega
theorem BurInv.hit {a : ByteArray} {p0 : Nat} {xs : List Int} {c : Bool} {i : Nat} (h : BurInv a p0 xs c i) (hp : (p0 + i) / 8 < a.size) :
    BurInv a p0 (xs.set ((p0 + i) / 8) (Go.bits .xor .u8 (rd xs (((p0 + i) / 8 : Nat) : Int)) ((2 ^ ((p0 + i) % 8) : Nat) : Int))) true (i + 1) := by
  obtain ⟨h1, h2, e, m, h3, h4, h5, h6⟩ := h
  have hr := h1.rd_ (((p0 + i) / 8 : Nat) : Int)
  have h8 : 2 ^ ((p0 + i) % 8) < 256 := by
    have : 2 ^ ((p0 + i) % 8) ≤ 2 ^ 7 := Nat.pow_le_pow_right (by omega) (by omega)
    omega
  have hx := u8_xor (rd xs (((p0 + i) / 8 : Nat) : Int)) ((2 ^ ((p0 + i) % 8) : Nat) : Int) hr.1 (by omega) (Int.natCast_nonneg _) (by omega)
  have hb := bits_u8 .xor (rd xs (((p0 + i) / 8 : Nat) : Int)) ((2 ^ ((p0 + i) % 8) : Nat) : Int)
  refine ⟨h1.set_ _ (by omega), by simpa using h2, updN e ((p0 + i) / 8) (2 ^ ((p0 + i) % 8)), m ^^^ 2 ^ i, fun j hj => ?_, ?_, ?_, ?_⟩
  · rw [rd_set _ _ _ _ (by omega)]
    unfold updN
    by_cases hj' : j = (p0 + i) / 8
    · rw [if_pos hj', if_pos hj', hx, Int.toNat_natCast, Int.toNat_natCast, ← hj', h3 j hj, Nat.xor_assoc]
    · rw [if_neg hj', if_neg hj']; exact h3 j hj
  · rw [polyN_upd _ _ _ _ _ (by omega) (by omega), h4, Nat.sub_zero, bit_at, mul_xor, Nat.pow_add]
  · exact Nat.xor_lt_two_pow (by rw [Nat.pow_succ]; omega) (by rw [Nat.pow_succ]; have := Nat.two_pow_pos i; omega)
  · have := xor_bit_ne h5
    simp [this]
theorem BurInv.miss {a : ByteArray} {p0 : Nat} {xs : List Int} {c : Bool} {i : Nat} (h : BurInv a p0 xs c i) : BurInv a p0 xs c (i + 1) := by
  obtain ⟨h1, h2, e, m, h3, h4, h5, h6⟩ := h
  exact ⟨h1, h2, e, m, h3, h4, by rw [Nat.pow_succ]; omega, h6⟩
theorem burst_loop (a : ByteArray) (x : Int) (ha : a.size ≤ 1000) (p0 : Nat) (hp0 : p0 < 8 * a.size) (d : Nat) : ∀ (i : Nat) (xs : List Int) (c : Bool), i + d = 32 → BurInv a p0 xs c i →
    Ev (fun k => laws_FnBurst.l0 k a x (p0 : Int) xs c (i : Int)) true := by
  induction d with
  | zero =>
    intro i xs c hi h
    obtain ⟨h1, h2, e, m, h3, h4, h5, h6⟩ := h
    obtain rfl : i = 32 := by omega
    have hs : (strOfNums xs).size = a.size := by rw [strOfNums_size, h2]
    refine Ev.step (fun k => by rw [laws_FnBurst.l0]) ?_
    refine Ev.neg_ (by omega) (Ev.bind (impl_sum _ (by omega)) (Ev.bind (impl_sum a (by omega)) ?_))
    have hq := sumV_eq_iff a (strOfNums xs) e hs (fun j hj => by rw [← h3 j hj]; unfold byN; rw [bt_strOfNums h1])
    rw [burst_zero e a.size p0 m h4 (by omega) (by simpa using h5)] at hq
    have : ((sumV (strOfNums xs) == sumV a) == !c) = true := by
      rw [h6]
      by_cases hm : m = 0
      · rw [hq.2 hm, hm]; simp
      · have hne : sumV (strOfNums xs) ≠ sumV a := fun he => hm (hq.1 he)
        simp [hm, hne]
    rw [this]
    exact Ev.now _
  | succ d ih =>
    intro i xs c hi h
    have h2 := h.2.1
    have e1 : wrap64 ((i : Int) + 1) = ((i + 1 : Nat) : Int) := by rw [w64 (by omega) (by omega)]; omega
    have e2 : wrap64 ((p0 : Int) + i) = ((p0 + i : Nat) : Int) := by rw [w64 (by omega) (by omega)]; omega
    refine Ev.step (fun k => by rw [laws_FnBurst.l0]) ?_
    rw [e1, e2, wu64 (n := (i : Int)) (by omega) (by omega), w64 (n := 8 * (xs.length : Int)) (by omega) (by omega), Int.tdiv_eq_ediv_of_nonneg (by omega), Int.tmod_eq_emod_of_nonneg (by omega), w64 (n := ((p0 + i : Nat) : Int) / 8) (by omega) (by omega), wu64 (n := ((p0 + i : Nat) : Int) % 8) (by omega) (by omega)]
    refine Ev.pos_ (by omega) (Ev.pos_ (by omega) (Ev.ite_ (fun _ => Ev.ite_ (fun hp => ?_) (fun _ => ih (i + 1) xs c (by omega) h.miss)) (fun _ => ih (i + 1) xs c (by omega) h.miss)))
    refine Ev.pos_ (by omega) (Ev.pos_ (by omega) (Ev.pos_ (by omega) ?_))
    have e3 : ((p0 + i : Nat) : Int) / 8 = (((p0 + i) / 8 : Nat) : Int) := by omega
    have e4 : ((p0 + i : Nat) : Int) % 8 = (((p0 + i) % 8 : Nat) : Int) := by omega
    rw [e3, e4, shl_one _ (by omega), Int.toNat_natCast]
    exact ih (i + 1) _ true (by omega) (h.hit (by omega))
theorem FnBurst : laws_FnBurst.Pure := by
  intro l0 l1 _ _ h0 _ hl1 h1
  apply Ev.rounds (r := true)
  unfold laws_FnBurst.f
  refine Ev.ite_ (fun _ => Ev.now _) (fun _ => ?_)
  obtain ⟨a, ea, ha⟩ := draw_sumof (byL h0)
  obtain ⟨x, s, es, hs, hx0, hx1⟩ := draw_sumon (byL h1)
  have eS : Ev (fun k => spec_SumOf.f k a) (sumV a) := by unfold spec_SumOf.f; exact Ev.bind (spec_sum a (by omega)) (Ev.now _)
  refine Ev.bind ea (Ev.bind es (Ev.bind (impl_sum a (by omega)) (Ev.bind eS (Ev.pos_ rfl ?_))))
  refine Ev.ite_ (fun _ => ?_) (fun _ => ?_)
  · refine Ev.step (fun k => by rw [laws_FnBurst.j0]) ?_
    exact Ev.pos_ rfl (Ev.now _)
  · refine Ev.step (fun k => by rw [laws_FnBurst.j0]) ?_
    refine Ev.ite_ (fun _ => Ev.now _) (fun hz => ?_)
    have hz' : a.size ≠ 0 := fun e => hz (by rw [e]; rfl)
    obtain ⟨n, en, hn0, hn1⟩ := numberOf_ (byL h1) (by omega)
    refine Ev.bind en ?_
    rw [w64 (n := 8 * (a.size : Int)) (by omega) (by omega)]
    have ht := tmod_range (x := n) (n := 8 * (a.size : Int)) hn0 (by omega)
    refine Ev.neg_ (by omega) (Ev.pos_ (by omega) ?_)
    have := burst_loop a x (by omega) (Int.tmod n (8 * (a.size : Int))).toNat (by omega) 32 0 (bytesOf a) false (by omega)
      ⟨ByL.bytes a, bytesOf_length a, fun _ => 0, 0, fun j _ => by rw [rd_bytesOf, Nat.xor_zero]; rfl, ?_, by omega, by simp⟩
    · rw [Int.toNat_of_nonneg ht.1] at this
      exact this
    · rw [Nat.mul_zero]
      have hz0 : ∀ d i, polyN (fun _ => 0) d i = 0 := by
        intro d; induction d with
        | zero => intro i; rfl
        | succ d ih => intro i; simp only [polyN]; rw [ih]; rfl
      exact hz0 _ _

end Go.Proofs.Ythbbobokacakjaa.Pure
