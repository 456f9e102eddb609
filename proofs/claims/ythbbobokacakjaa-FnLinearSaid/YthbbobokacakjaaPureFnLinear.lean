/-
  The plain statement of the law FnLinear, proved: over numbers and lists alone. No condition beyond the given ones.
-/
import Derived.Test.YthbbobokacakjaaMFnLinearx3
import Derived.Laws.BitsAllLaws
namespace Go.Proofs.Ythbbobokacakjaa.Pure
open Go Go.RowKit Go.Proofs.Ythbbobokacakjaa.MFnLinear Go.Proofs.YthbbobokacakjaaW.PrintWords Go.Proofs.YthbbobokacakjaaW.PrintLast Go.Proofs.YthbbobokacakjaaW.PrintMore
set_option linter.unusedVariables false
set_option linter.unusedSimpArgs false

-- part base: plain facts on Go's numbers and on rounds
theorem lt_mn {i a b : Int} : i < mn a b ↔ i < a ∧ i < b := by unfold mn; split <;> omega
theorem mn_le {a b : Int} : mn a b ≤ a ∧ mn a b ≤ b := by unfold mn; split <;> omega
theorem w64 {n : Int} (h0 : -9223372036854775808 ≤ n) (h1 : n ≤ 9223372036854775807) : wrap64 n = n := by unfold wrap64; omega
theorem wrap_u64 (n : Int) : IntKind.u64.wrap n = n % 18446744073709551616 := by simp [IntKind.wrap, IntKind.bits, IntKind.signed]
theorem wu64 {n : Int} (h0 : 0 ≤ n) (h1 : n ≤ 18446744073709551615) : IntKind.u64.wrap n = n := by rw [wrap_u64]; omega
theorem wu32 {n : Int} (h0 : 0 ≤ n) (h1 : n ≤ 4294967295) : IntKind.u32.wrap n = n := by rw [IntKind.wrap_u32]; omega
theorem wraps_u32 (n : Int) (h₀ : 0 ≤ n) (h₁ : n < 2 ^ 32) : IntKind.u32.wrap n = n := by rw [IntKind.wrap_u32]; omega
theorem wraps_i64 (n : Int) (h₀ : 0 ≤ n) (h₁ : n < 2 ^ 63) : IntKind.i64.wrap n = n := by rw [IntKind.wrap_i64]; omega
theorem and127 {b : Int} (h0 : 0 ≤ b) (h1 : b ≤ 255) : Go.bits .and .u8 b 127 = b % 128 := bits_mask .u8 8 (by decide) wraps_u8 7 (by decide) b h0 (by omega)
theorem wf_i64 {n : Int} (h : (Lit.int .i64 n).wf = true) : -9223372036854775808 ≤ n ∧ n ≤ 9223372036854775807 := by
  simp only [Lit.wf, Bool.and_eq_true, decide_eq_true_eq] at h
  exact h
theorem wf_u32 {n : Int} (h : (Lit.int .u32 n).wf = true) : 0 ≤ n ∧ n ≤ 4294967295 := by
  simp only [Lit.wf, Bool.and_eq_true, decide_eq_true_eq] at h
  exact h
theorem bits_or_comm (k : IntKind) (x y : Int) : Go.bits .or k x y = Go.bits .or k y x := by
  simp only [Go.bits, BitVec.or_comm]
theorem and127i {b : Int} (h0 : 0 ≤ b) (h1 : b ≤ 9223372036854775807) : Go.bits .and .i64 b 127 = b % 128 := bits_mask .i64 63 (by decide) wraps_i64 7 (by decide) b h0 (by omega)
theorem or128i {b : Int} (h0 : 0 ≤ b) (h1 : b < 128) : Go.bits .or .i64 b 128 = b + 128 := by
  rw [bits_or_comm, bits_join .i64 63 (by decide) wraps_i64 7 128 b (by omega) (by omega) (by omega) h0 (by omega) (by omega)]; omega
theorem Ev.ite_ {α : Type} {c : Prop} [Decidable c] {g f : Nat → Option α} {r : α} (h : c → Ev g r) (k : ¬c → Ev f r) : Ev (fun n => if c then g n else f n) r := by
  by_cases hc : c
  · simp only [if_pos hc]; exact h hc
  · simp only [if_neg hc]; exact k hc
theorem Ev.pos_ {α : Type} {c : Prop} [Decidable c] {g f : Nat → Option α} {r : α} (hc : c) (h : Ev g r) : Ev (fun n => if c then g n else f n) r := by simp only [if_pos hc]; exact h
theorem Ev.neg_ {α : Type} {c : Prop} [Decidable c] {g f : Nat → Option α} {r : α} (hc : ¬c) (h : Ev f r) : Ev (fun n => if c then g n else f n) r := by simp only [if_neg hc]; exact h
theorem Ev.some_ {α β : Type} {f : Nat → α → Option β} {x : α} {r : β} (h : Ev (fun n => f n x) r) : Ev (fun n => (some x).bind (f n)) r := by simpa only [Option.bind_some] using h
theorem bo_and (b c : Bool) : (if b = true then some c else some false) = some (b && c) := by cases b <;> rfl
theorem bo_andP (p : Prop) [Decidable p] (c : Bool) : (if p then some c else some false) = some (decide p && c) := by by_cases h : p <;> simp [h]
theorem bo_orP (p : Prop) [Decidable p] (c : Bool) : (if p then some true else some c) = some (decide p || c) := by by_cases h : p <;> simp [h]
theorem bo_or (b c : Bool) : (if b = true then some true else some c) = some (b || c) := by cases b <;> rfl
def inB (a lo hi : Int) : Bool := decide (lo ≤ a) && decide (a ≤ hi)
theorem inB_iff {a lo hi : Int} : inB a lo hi = true ↔ lo ≤ a ∧ a ≤ hi := by simp [inB]

-- part sumM: the table of sums and the sum of a text
def crcStep (n : Int) : Int := if Go.bits .and .u32 n 1 = 1 then Go.bits .xor .u32 (n / 2) 2197175160 else n / 2
def crcIt : Nat → Int → Int
  | 0, n => n
  | d + 1, n => crcIt d (crcStep n)
def crcE (i : Nat) : Int := crcIt 8 (i : Int)
def crcT : List Int := (List.range 256).map crcE
theorem crcT_len : crcT.length = 256 := by simp [crcT]
theorem xor_comm_ (k : IntKind) (x y : Int) : Go.bits .xor k x y = Go.bits .xor k y x := by simp only [Go.bits, BitVec.xor_comm]
theorem bits_u8 (op : BinOp) (x y : Int) : 0 ≤ Go.bits op .u8 x y ∧ Go.bits op .u8 x y < 256 := by
  unfold Go.bits; rw [IntKind.wrap_u8]; exact ⟨Int.emod_nonneg _ (by decide), Int.emod_lt_of_pos _ (by decide)⟩
theorem bits_u32 (op : BinOp) (x y : Int) : 0 ≤ Go.bits op .u32 x y ∧ Go.bits op .u32 x y < 4294967296 := by
  unfold Go.bits; rw [IntKind.wrap_u32]; exact ⟨Int.emod_nonneg _ (by decide), Int.emod_lt_of_pos _ (by decide)⟩
def sumR (s : ByteArray) : Nat → Nat → Int → Int
  | 0, _, x => x
  | d + 1, i, x => sumR s d (i + 1) (Go.bits .xor .u32 (x / 256) (rd crcT (Go.bits .xor .u8 (x % 256) (bt s i))))
def sumOnV (x : Int) (s : ByteArray) : Int := sumR s s.size 0 x
def sumV (s : ByteArray) : Int := Go.bits .xor .u32 4294967295 (sumOnV 4294967295 s)
theorem sumV_range (s : ByteArray) : 0 ≤ sumV s ∧ sumV s < 4294967296 := bits_u32 _ _ _

-- part specTable needs spec_l2Table.f
theorem spec_table_in (d : Nat) : ∀ (T : List Int) (i x j y z : Int) (r : List Int), 0 ≤ j → j + d = 8 → 0 ≤ i → i < T.length →
    Ev (fun k => spec_l2Table.l0 k (T.set i.toNat (crcIt d x)) y (wrap64 (z + 1))) r → Ev (fun k => spec_l2Table.l1 k T i x j y z) r := by
  induction d with
  | zero =>
    intro T i x j y z r h0 hd hi hi' h
    refine Ev.step (fun k => ?_) h
    simp only [spec_l2Table.l1]
    rw [if_neg (by omega), if_pos hi, if_pos hi']; rfl
  | succ d ih =>
    intro T i x j y z r h0 hd hi hi' h
    refine Ev.step (fun k => ?_) (ih T i (crcStep x) (j + 1) y z r (by omega) (by omega) hi hi' h)
    simp only [spec_l2Table.l1]
    rw [if_pos (by omega), w64 (by omega) (by omega)]
    unfold crcStep
    split <;> rfl
theorem spec_table_l (d : Nat) : ∀ (i : Nat), i + d = 256 → Ev (fun k => spec_l2Table.l0 k ((List.range i).map crcE ++ List.replicate d 0) 256 i) crcT := by
  induction d with
  | zero =>
    intro i hi
    obtain rfl : i = 256 := by omega
    refine Ev.step (f := fun _ => some crcT) (fun k => ?_) (Ev.now _)
    simp only [spec_l2Table.l0]; rw [if_neg (by omega)]; simp [crcT]
  | succ d ih =>
    intro i hi
    have e : ((List.range i).map crcE ++ List.replicate (d + 1) 0).set (i : Int).toNat (crcE i) = (List.range (i + 1)).map crcE ++ List.replicate d 0 := by
      rw [Int.toNat_natCast, List.range_succ, List.map_append, List.set_append_right _ _ (by simp)]
      simp [List.replicate_succ]
    refine Ev.step (f := fun k => spec_l2Table.l1 k ((List.range i).map crcE ++ List.replicate (d + 1) 0) i i 0 256 i) (fun k => ?_) ?_
    · simp only [spec_l2Table.l0]; rw [if_pos (by omega), Int.emod_eq_of_lt (by omega) (by omega)]
    · refine spec_table_in 8 _ _ _ _ _ _ _ (by omega) rfl (by omega) (by simp; omega) ?_
      have := ih (i + 1) (by omega)
      rw [show crcIt 8 (i : Int) = crcE i from rfl, e, w64 (by omega) (by omega)]
      exact this
theorem spec_table : Ev (fun k => spec_l2Table.f k) crcT := by
  unfold spec_l2Table.f
  refine Ev.pos_ (by decide) ?_
  show Ev (fun k => spec_l2Table.l0 k (List.replicate 256 0) ((List.replicate 256 (0 : Int)).length : Int) 0) crcT
  rw [List.length_replicate]
  exact spec_table_l 256 0 rfl

-- part implTable needs impl_SumTable.f
theorem impl_table_in (d : Nat) : ∀ (T : List Int) (x z j : Int) (r : List Int), 0 ≤ j → j + d = 8 → T.length < 35184372088832 →
    Ev (fun k => impl_SumTable.l0 k (T ++ [crcIt d x]) ((z + 1) % 4294967296)) r → Ev (fun k => impl_SumTable.l1 k T x z j) r := by
  induction d with
  | zero =>
    intro T x z j r h0 hd hi h
    refine Ev.step (fun k => ?_) h
    simp only [impl_SumTable.l1]
    rw [if_neg (by omega), if_pos hi]; rfl
  | succ d ih =>
    intro T x z j r h0 hd hi h
    refine Ev.step (fun k => ?_) (ih T (crcStep x) z (j + 1) r (by omega) (by omega) hi h)
    simp only [impl_SumTable.l1]
    rw [if_pos (by omega), w64 (by omega) (by omega)]
    unfold crcStep
    split <;> rfl
theorem impl_table_l (d : Nat) : ∀ (i : Nat), i + d = 256 → Ev (fun k => impl_SumTable.l0 k ((List.range i).map crcE) i) crcT := by
  induction d with
  | zero =>
    intro i hi
    obtain rfl : i = 256 := by omega
    refine Ev.step (f := fun _ => some crcT) (fun k => ?_) (Ev.now _)
    simp only [impl_SumTable.l0]; rw [if_neg (by omega)]; rfl
  | succ d ih =>
    intro i hi
    refine Ev.step (f := fun k => impl_SumTable.l1 k ((List.range i).map crcE) i i 0) (fun k => ?_) ?_
    · simp only [impl_SumTable.l0]; rw [if_pos (by omega)]
    · refine impl_table_in 8 _ _ _ _ _ (by omega) rfl (by simp; omega) ?_
      have := ih (i + 1) (by omega)
      rw [Int.emod_eq_of_lt (by omega) (by omega)]
      rw [List.range_succ, List.map_append] at this
      exact this
theorem impl_table : Ev (fun k => impl_SumTable.f k) crcT := impl_table_l 256 0 rfl

-- part specOn needs spec_l2On.f
theorem spec_on_l (s : ByteArray) (hs : s.size ≤ 140737488351232) (d : Nat) : ∀ (i : Nat) (x : Int), i + d = s.size → Ev (fun k => spec_l2On.l0 k crcT x s i) (sumR s d i x) := by
  induction d with
  | zero =>
    intro i x hi
    refine Ev.step (f := fun _ => some x) (fun k => ?_) (Ev.now _)
    simp only [spec_l2On.l0]; rw [if_neg (by omega)]
  | succ d ih =>
    intro i x hi
    have hr := bits_u8 .xor (x % 256) (bt s i)
    refine Ev.step (fun k => ?_) (ih (i + 1) _ (by omega))
    simp only [spec_l2On.l0]
    rw [if_pos (by omega), if_pos (by omega), if_pos hr.1, if_pos (by rw [crcT_len]; exact hr.2), xor_comm_ .u32, w64 (by omega) (by omega)]; rfl
theorem spec_on (x : Int) (s : ByteArray) (hs : s.size ≤ 140737488351232) : Ev (fun k => spec_l2On.f k crcT x s) (sumOnV x s) := spec_on_l s hs _ 0 x (by omega)

-- part implOn needs impl_SumOn.f
theorem impl_on_l (s : ByteArray) (hs : s.size ≤ 140737488351232) (d : Nat) : ∀ (i : Nat) (x : Int), i + d = s.size → Ev (fun k => impl_SumOn.l0 k x s crcT (s.size : Int) i) (sumR s d i x) := by
  induction d with
  | zero =>
    intro i x hi
    refine Ev.step (f := fun _ => some x) (fun k => ?_) (Ev.now _)
    simp only [impl_SumOn.l0]; rw [if_neg (by omega)]
  | succ d ih =>
    intro i x hi
    have hr := bits_u8 .xor (x % 256) (bt s i)
    refine Ev.step (fun k => ?_) (ih (i + 1) _ (by omega))
    simp only [impl_SumOn.l0]
    rw [if_pos (by omega), if_pos (by omega), if_pos (by omega), if_pos hr.1, if_pos (by rw [crcT_len]; exact hr.2), w64 (by omega) (by omega)]; rfl
theorem impl_on (x : Int) (s : ByteArray) (hs : s.size ≤ 140737488351232) : Ev (fun k => impl_SumOn.f k x s) (sumOnV x s) :=
  Ev.bind impl_table (impl_on_l s hs _ 0 x (by omega))

-- part specSum needs spec_l2Sum.f
theorem spec_sum (s : ByteArray) (hs : s.size ≤ 140737488351232) : Ev (fun k => spec_l2Sum.f k s) (sumV s) :=
  Ev.bind spec_table (Ev.bind (spec_on 4294967295 s hs) (Ev.now _))

-- part implSum needs impl_SumOf.f
theorem impl_sum (s : ByteArray) (hs : s.size ≤ 140737488351232) : Ev (fun k => impl_SumOf.f k s) (sumV s) :=
  Ev.bind (impl_on 4294967295 s hs) (Ev.now _)

-- part byL: rows of bytes
def ByL (l : List Int) : Prop := ∀ x ∈ l, 0 ≤ x ∧ x ≤ 255
theorem byL {l : List Int} (h : ∀ x ∈ l, (Lit.int .u8 x).wf = true) : ByL l := fun x hx => by
  have := h x hx
  simp only [Lit.wf, Bool.and_eq_true, decide_eq_true_eq] at this
  exact this
theorem ByL.rd_ {l : List Int} (h : ByL l) (i : Int) : 0 ≤ rd l i ∧ rd l i ≤ 255 := by
  unfold rd
  rw [List.getD_eq_getElem?_getD]
  cases e : l[i.toNat]? with
  | none => simp
  | some x => exact h x (List.mem_of_getElem? e)

-- part drawNext needs spec_l1Cur_next.f
theorem and255_ {b : Int} (h0 : 0 ≤ b) (h1 : b < 18446744073709551616) : Go.bits .and .u64 b 255 = b % 256 := bits_mask .u64 64 (by decide) (fun n a b => by rw [wrap_u64]; omega) 8 (by decide) b h0 (by omega)
theorem mix_range (x : Int) : 0 ≤ wrap64 (Go.bits .and .u64 (IntKind.u64.wrap x / 1099511627776) 255) ∧ wrap64 (Go.bits .and .u64 (IntKind.u64.wrap x / 1099511627776) 255) ≤ 255 := by
  rw [wrap_u64, and255_ (by omega) (by omega), w64 (by omega) (by omega)]
  omega
theorem draw_next {l : List Int} (hl : ByL l) (a s : Int) (h0 : 0 ≤ a) (h1 : a ≤ 4611686018427387904) : ∃ b s', spec_l1Cur_next.f l a s = some (b, a + 1, s') ∧ 0 ≤ b ∧ b ≤ 255 := by
  have hw : wrap64 (a + 1) = a + 1 := w64 (by omega) (by omega)
  have hr := hl.rd_ a
  have hwr : wrap64 (rd l a) = rd l a := w64 (by omega) (by omega)
  unfold spec_l1Cur_next.f
  rw [hw, if_pos h0]
  split
  · split
    · exact ⟨_, _, rfl, by rw [hwr]; exact hr⟩
    · exact ⟨_, _, rfl, mix_range _⟩
  · split
    · exact ⟨_, _, rfl, by omega, by omega⟩
    · exact ⟨_, _, rfl, mix_range _⟩

-- part drawPick needs spec_l1Cur_pick.f
theorem tmod_range {x n : Int} (hx : 0 ≤ x) (hn : 1 ≤ n) : 0 ≤ Int.tmod x n ∧ Int.tmod x n < n ∧ Int.tmod x n ≤ x := by
  rw [Int.tmod_eq_emod_of_nonneg hx]
  have h1 := Int.emod_add_mul_ediv x n
  have h2 : 0 ≤ x / n := Int.ediv_nonneg hx (by omega)
  have h3 := Int.mul_nonneg (show (0 : Int) ≤ n by omega) h2
  exact ⟨Int.emod_nonneg _ (by omega), Int.emod_lt_of_pos _ (by omega), by omega⟩
theorem draw_pick {l : List Int} (hl : ByL l) (a s n : Int) (h0 : 0 ≤ a) (h1 : a ≤ 4611686018427387000) : ∃ v a' s', spec_l1Cur_pick.f l a s n = some (v, a', s') ∧ a ≤ a' ∧ a' ≤ a + 2 ∧ 0 ≤ v ∧ (1 ≤ n → v < n) ∧ v ≤ 65535 := by
  unfold spec_l1Cur_pick.f
  by_cases hn : n ≤ 1
  · rw [if_pos hn]; exact ⟨_, _, _, rfl, by omega, by omega, by omega, fun h => by omega, by omega⟩
  · rw [if_neg hn]
    obtain ⟨b, s1, e1, hb0, hb1⟩ := draw_next hl a s h0 (by omega)
    rw [e1, Option.bind_some]
    simp only
    by_cases h2 : n > 200
    · obtain ⟨c, s2, e2, hc0, hc1⟩ := draw_next hl (a + 1) s1 (by omega) (by omega)
      rw [if_pos h2, e2, Option.bind_some, if_neg (by omega), w64 (n := b * 256) (by omega) (by omega), w64 (n := b * 256 + c) (by omega) (by omega)]
      have := tmod_range (x := b * 256 + c) (n := n) (by omega) (by omega)
      exact ⟨_, _, _, rfl, by simp only; omega, by simp only; omega, this.1, fun _ => this.2.1, by omega⟩
    · rw [if_neg h2, if_neg (by omega)]
      have := tmod_range (x := b) (n := n) (by omega) (by omega)
      exact ⟨_, _, _, rfl, by omega, by omega, this.1, fun _ => this.2.1, by omega⟩

-- part drawWide needs spec_l1Cur_wide.f
theorem bits_i64 (op : BinOp) (x y : Int) : -9223372036854775808 ≤ Go.bits op .i64 x y ∧ Go.bits op .i64 x y ≤ 9223372036854775807 := by
  unfold Go.bits; rw [IntKind.wrap_i64]; omega
theorem draw_wide_l {l : List Int} (hl : ByL l) (d : Nat) : ∀ (x j a s : Int), 0 ≤ j → j + d = 8 → 0 ≤ a → a ≤ 4611686018427380000 - d → (-9223372036854775808 ≤ x ∧ x ≤ 9223372036854775807) →
    ∃ v a' s', Ev (fun k => spec_l1Cur_wide.l0 k x j l a s) (v, a', s') ∧ a ≤ a' ∧ a' ≤ a + d ∧ (-9223372036854775808 ≤ v ∧ v ≤ 9223372036854775807) := by
  induction d with
  | zero =>
    intro x j a s h0 hj ha ha' hx
    refine ⟨x, a, s, Ev.step (f := fun _ => some (x, a, s)) (fun k => ?_) (Ev.now _), by omega, by omega, hx⟩
    simp only [spec_l1Cur_wide.l0]; rw [if_neg (by omega)]
  | succ d ih =>
    intro x j a s h0 hj ha ha' hx
    obtain ⟨b, s1, e1, hb0, hb1⟩ := draw_next hl a s ha (by omega)
    obtain ⟨v, a', s', h1, h2, h3, h4⟩ := ih (Go.bits .or .i64 (wrap64 (x * 256)) b) (j + 1) (a + 1) s1 (by omega) (by omega) (by omega) (by omega) (bits_i64 _ _ _)
    refine ⟨v, a', s', Ev.step (fun k => ?_) h1, by omega, by omega, h4⟩
    simp only [spec_l1Cur_wide.l0]
    rw [if_pos (by omega), e1, w64 (n := j + 1) (by omega) (by omega)]; rfl
theorem draw_wide {l : List Int} (hl : ByL l) (a s : Int) (h0 : 0 ≤ a) (h1 : a ≤ 4611686018427370000) : ∃ v a' s', Ev (fun k => spec_l1Cur_wide.f k l a s) (v, a', s') ∧ a ≤ a' ∧ a' ≤ a + 8 ∧ (-9223372036854775808 ≤ v ∧ v ≤ 9223372036854775807) :=
  draw_wide_l hl 8 0 0 a s (by omega) (by omega) h0 (by omega) (by omega)

-- part drawText needs spec_l1Cur_text.f
theorem draw_text_l {l : List Int} (hl : ByL l) (d : Nat) : ∀ (xs : List Int) (i : Nat) (a s : Int), i + d = xs.length → xs.length ≤ 140737488351232 → 0 ≤ a → a + 2 * d ≤ 4611686018427380000 →
    ∃ t a' s', Ev (fun k => spec_l1Cur_text.l0 k xs (xs.length : Int) i l a s) (t, a', s') ∧ a ≤ a' ∧ a' ≤ a + 2 * d ∧ t.size = xs.length := by
  induction d with
  | zero =>
    intro xs i a s hi hx ha ha'
    refine ⟨strOfNums xs, a, s, Ev.step (f := fun _ => some (strOfNums xs, a, s)) (fun k => ?_) (Ev.now _), by omega, by omega, strOfNums_size _⟩
    simp only [spec_l1Cur_text.l0]; rw [if_neg (by omega)]
  | succ d ih =>
    intro xs i a s hi hx ha ha'
    obtain ⟨b, a1, s1, e1, h2, h3, h4, h5, h6⟩ := draw_pick hl a s 256 ha (by omega)
    obtain ⟨t, a', s', e, h7, h8, h9⟩ := ih (xs.set i (b % 256)) (i + 1) a1 s1 (by simp; omega) (by simpa using hx) (by omega) (by omega)
    rw [List.length_set] at e h9
    refine ⟨t, a', s', Ev.step (fun k => ?_) e, by omega, by omega, h9⟩
    simp only [spec_l1Cur_text.l0]
    rw [if_pos (by omega), e1, w64 (by omega) (by omega), Option.bind_some, if_pos (by omega), if_pos (by omega)]; rfl
theorem draw_text {l : List Int} (hl : ByL l) (a s n : Int) (h0 : 0 ≤ a) (h1 : a ≤ 4611686018427370000 - 140737488351232 * 2) (hn : 0 ≤ n) (hn' : n ≤ 140737488351232) : ∃ t a' s', Ev (fun k => spec_l1Cur_text.f k l a s n) (t, a', s') ∧ a ≤ a' ∧ a' ≤ a + 2 * n ∧ (t.size : Int) = n := by
  obtain ⟨t, a', s', e, h2, h3, h4⟩ := draw_text_l hl n.toNat (List.replicate n.toNat 0) 0 a s (by simp) (by simp; omega) h0 (by omega)
  refine ⟨t, a', s', ?_, h2, by omega, by rw [h4]; simp; omega⟩
  unfold spec_l1Cur_text.f
  exact Ev.pos_ hn (Ev.pos_ (by omega) e)

-- part drawSum needs spec_DrawSumOf.f
theorem draw_sumof {l : List Int} (hl : ByL l) : ∃ t, Ev (fun k => spec_DrawSumOf.f k l) t ∧ t.size ≤ 40 := by
  obtain ⟨n, a, s, e, h1, h2, h3, h4, h5⟩ := draw_pick hl 0 0 40 (by omega) (by omega)
  have := h4 (by omega)
  obtain ⟨t, a', s', e', h6, h7, h8⟩ := draw_text hl a s n (by omega) (by omega) (by omega) (by omega)
  refine ⟨t, ?_, by omega⟩
  unfold spec_DrawSumOf.f
  rw [e]
  exact Ev.some_ (Ev.bind e' (Ev.now _))

-- part drawSumOn needs spec_DrawSumOn.f
theorem draw_sumon {l : List Int} (hl : ByL l) : ∃ x t, Ev (fun k => spec_DrawSumOn.f k l) (x, t) ∧ t.size ≤ 20 ∧ 0 ≤ x ∧ x < 4294967296 := by
  obtain ⟨v, a0, s0, e0, g1, g2, g3⟩ := draw_wide hl 0 0 (by omega) (by omega)
  obtain ⟨n, a, s, e, h1, h2, h3, h4, h5⟩ := draw_pick hl a0 s0 20 (by omega) (by omega)
  have := h4 (by omega)
  obtain ⟨t, a', s', e', h6, h7, h8⟩ := draw_text hl a s n (by omega) (by omega) (by omega) (by omega)
  refine ⟨v % 4294967296, t, ?_, by omega, by omega, by omega⟩
  unfold spec_DrawSumOn.f
  refine Ev.bind e0 ?_
  simp only
  rw [e]
  exact Ev.some_ (Ev.bind e' (Ev.now _))

-- part bytesM: bytes of a row
theorem bt_strOfNums {xs : List Int} (h : ByL xs) (i : Nat) : bt (strOfNums xs) (i : Int) = rd xs (i : Int) := by
  unfold bt rd
  rw [List.getD_eq_getElem?_getD]
  by_cases hi : i < xs.length
  · rw [dif_pos (by rw [strOfNums_size]; simpa using hi), List.getElem?_eq_getElem (by simpa using hi)]
    have := h _ (List.getElem_mem hi)
    have e : ((strOfNums xs)[(i : Int).toNat]'(by rw [strOfNums_size]; simpa using hi)) = UInt8.ofNat (xs[i]).toNat := by
      unfold strOfNums
      rw [ByteArray.getElem_eq_getElem_data]
      simp
    rw [e]
    simp only [UInt8.toNat_ofNat', Int.toNat_natCast, Option.getD_some]
    omega
  · rw [dif_neg (by rw [strOfNums_size]; simpa using hi), List.getElem?_eq_none (by simpa using hi)]; rfl
theorem rd_set (xs : List Int) (i j : Nat) (v : Int) (hi : i < xs.length) : rd (xs.set i v) (j : Int) = if j = i then v else rd xs (j : Int) := by
  unfold rd
  rw [List.getD_eq_getElem?_getD, List.getD_eq_getElem?_getD, Int.toNat_natCast]
  by_cases e : j = i
  · subst e; rw [if_pos rfl, List.getElem?_set_self hi]; rfl
  · rw [if_neg e, List.getElem?_set_ne (by omega)]
theorem ByL.set_ {xs : List Int} (h : ByL xs) (i : Nat) {v : Int} (hv : 0 ≤ v ∧ v ≤ 255) : ByL (xs.set i v) := fun x hx => by
  rcases List.mem_or_eq_of_mem_set hx with hx | rfl
  · exact h x hx
  · exact hv
theorem ByL.zeros (n : Nat) : ByL (List.replicate n 0) := fun x hx => by
  have := List.eq_of_mem_replicate hx; omega

-- part linM: sums are linear; sums over plain numbers
-- imports Derived.Laws.BitsAllLaws
def stepN (n : Nat) : Nat := if n % 2 = 1 then (n / 2) ^^^ 2197175160 else n / 2
def itN : Nat → Nat → Nat
  | 0, n => n
  | d + 1, n => itN d (stepN n)
def eN (n : Nat) : Nat := itN 8 n
def sumN (f : Nat → Nat) : Nat → Nat → Nat → Nat
  | 0, _, x => x
  | d + 1, i, x => sumN f d (i + 1) ((x / 256) ^^^ eN ((x % 256) ^^^ f i))
theorem xor_lt32 {a b : Nat} (ha : a < 4294967296) (hb : b < 4294967296) : a ^^^ b < 4294967296 := Nat.xor_lt_two_pow (n := 32) ha hb
theorem xor_lt8 {a b : Nat} (ha : a < 256) (hb : b < 256) : a ^^^ b < 256 := Nat.xor_lt_two_pow (n := 8) ha hb
theorem stepN_lt {n : Nat} (h : n < 4294967296) : stepN n < 4294967296 := by
  unfold stepN; split
  · exact xor_lt32 (by omega) (by omega)
  · omega
theorem itN_lt (d : Nat) : ∀ {n : Nat}, n < 4294967296 → itN d n < 4294967296 := by
  induction d with
  | zero => intro n h; exact h
  | succ d ih => intro n h; exact ih (stepN_lt h)
theorem crcStep_nat {n : Nat} (h : n < 4294967296) : crcStep (n : Int) = (stepN n : Int) := by
  unfold crcStep stepN
  have e : Go.bits .and .u32 (n : Int) 1 = (n : Int) % 2 := bits_mask .u32 32 (by decide) wraps_u32 1 (by decide) _ (by omega) (by omega)
  rw [e]
  by_cases hn : n % 2 = 1
  · rw [if_pos (by omega), if_pos hn]
    have := u32_xor_nat (n / 2) 2197175160 (by omega) (by omega)
    simpa using this
  · rw [if_neg (by omega), if_neg hn]; omega
theorem crcIt_nat (d : Nat) : ∀ {n : Nat}, n < 4294967296 → crcIt d (n : Int) = (itN d n : Int) := by
  induction d with
  | zero => intro n h; rfl
  | succ d ih => intro n h; simp only [crcIt, itN]; rw [crcStep_nat h, ih (stepN_lt h)]
theorem rd_crcT {i : Nat} (h : i < 256) : rd crcT (i : Int) = (eN i : Int) := by
  unfold rd crcT
  rw [List.getD_eq_getElem?_getD, List.getElem?_eq_getElem (by simp; omega)]
  simp only [Int.toNat_natCast, List.getElem_map, List.getElem_range, Option.getD_some]
  exact crcIt_nat 8 (by omega)
def byN (s : ByteArray) (i : Nat) : Nat := (bt s (i : Int)).toNat
theorem byN_lt (s : ByteArray) (i : Nat) : byN s i < 256 := by have := bt_range s (i : Int); unfold byN; omega
theorem sumR_nat (s : ByteArray) (d : Nat) : ∀ (i : Nat) {x : Nat}, x < 4294967296 → sumR s d i (x : Int) = (sumN (byN s) d i x : Int) := by
  induction d with
  | zero => intro i x h; rfl
  | succ d ih =>
    intro i x h
    have hb := byN_lt s i
    have e1 : bt s (i : Int) = (byN s i : Int) := by have := bt_range s (i : Int); unfold byN; omega
    have e2 : Go.bits .xor .u8 ((x : Int) % 256) (bt s (i : Int)) = (((x % 256) ^^^ byN s i : Nat) : Int) := by
      rw [e1]; exact u8_xor_nat (x % 256) _ (by omega) hb
    have hl : (x % 256) ^^^ byN s i < 256 := xor_lt8 (by omega) hb
    have hE : eN ((x % 256) ^^^ byN s i) < 4294967296 := itN_lt 8 (by omega)
    simp only [sumR, sumN]
    rw [e2, rd_crcT hl]
    have e3 := u32_xor_nat (x / 256) (eN ((x % 256) ^^^ byN s i)) (by omega) hE
    rw [show ((x : Int) / 256) = ((x / 256 : Nat) : Int) by omega, e3]
    exact ih (i + 1) (xor_lt32 (by omega) hE)
theorem sumN_lt (f : Nat → Nat) (hf : ∀ i, f i < 256) (d : Nat) : ∀ (i x : Nat), x < 4294967296 → sumN f d i x < 4294967296 := by
  induction d with
  | zero => intro i x h; exact h
  | succ d ih =>
    intro i x h
    have hl : (x % 256) ^^^ f i < 256 := xor_lt8 (by omega) (hf i)
    exact ih (i + 1) _ (xor_lt32 (by omega) (itN_lt 8 (by omega)))
theorem xor_half (a b : Nat) : (a ^^^ b) / 2 = (a / 2) ^^^ (b / 2) := by
  have := Nat.shiftRight_xor_distrib (a := a) (b := b) (i := 1)
  simpa [Nat.shiftRight_eq_div_pow] using this
theorem xor_div256 (a b : Nat) : (a ^^^ b) / 256 = (a / 256) ^^^ (b / 256) := by
  have := Nat.shiftRight_xor_distrib (a := a) (b := b) (i := 8)
  simpa [Nat.shiftRight_eq_div_pow] using this
theorem xor_mod256 (a b : Nat) : (a ^^^ b) % 256 = (a % 256) ^^^ (b % 256) := Nat.xor_mod_two_pow (n := 8)
theorem xor_mod2 (a b : Nat) : (a ^^^ b) % 2 = (a % 2) ^^^ (b % 2) := Nat.xor_mod_two_pow (n := 1)
theorem stepN_lin (a b : Nat) : stepN (a ^^^ b) = stepN a ^^^ stepN b := by
  unfold stepN
  rw [xor_mod2, xor_half]
  have ha : a % 2 = 0 ∨ a % 2 = 1 := by omega
  have hb : b % 2 = 0 ∨ b % 2 = 1 := by omega
  rcases ha with ha | ha <;> rcases hb with hb | hb <;> rw [ha, hb] <;> simp
  · rw [Nat.xor_assoc]
  · rw [Nat.xor_assoc, Nat.xor_comm (b / 2), Nat.xor_assoc]
  · rw [show (a / 2 ^^^ 2197175160) ^^^ (b / 2 ^^^ 2197175160) = (a / 2 ^^^ b / 2) ^^^ (2197175160 ^^^ 2197175160) by ac_rfl, Nat.xor_self, Nat.xor_zero]
theorem itN_lin (d : Nat) : ∀ a b : Nat, itN d (a ^^^ b) = itN d a ^^^ itN d b := by
  induction d with
  | zero => intro a b; rfl
  | succ d ih => intro a b; simp only [itN]; rw [stepN_lin, ih]
theorem sumN_lin (f g h : Nat → Nat) (hh : ∀ i, h i = f i ^^^ g i) (d : Nat) : ∀ i a b : Nat, sumN h d i (a ^^^ b) = sumN f d i a ^^^ sumN g d i b := by
  induction d with
  | zero => intro i a b; rfl
  | succ d ih =>
    intro i a b
    simp only [sumN]
    rw [← ih, hh i, xor_div256, xor_mod256]
    congr 1
    rw [show (a % 256 ^^^ b % 256) ^^^ (f i ^^^ g i) = (a % 256 ^^^ f i) ^^^ (b % 256 ^^^ g i) by ac_rfl]
    rw [show eN ((a % 256 ^^^ f i) ^^^ (b % 256 ^^^ g i)) = eN (a % 256 ^^^ f i) ^^^ eN (b % 256 ^^^ g i) from itN_lin 8 _ _]
    ac_rfl
theorem sumN_congr (f g : Nat → Nat) (d : Nat) : ∀ i x : Nat, (∀ j, i ≤ j → j < i + d → f j = g j) → sumN f d i x = sumN g d i x := by
  induction d with
  | zero => intro i x h; rfl
  | succ d ih =>
    intro i x h
    simp only [sumN]
    rw [h i (by omega) (by omega)]
    exact ih (i + 1) _ (fun j h1 h2 => h j (by omega) (by omega))
theorem sumN_shift (f : Nat → Nat) (c d : Nat) : ∀ i x : Nat, sumN (fun j => f (c + j)) d i x = sumN f d (c + i) x := by
  induction d with
  | zero => intro i x; rfl
  | succ d ih => intro i x; simp only [sumN]; rw [ih (i + 1)]; rfl
theorem sumN_add (f : Nat → Nat) (d e : Nat) : ∀ i x : Nat, sumN f (d + e) i x = sumN f e (i + d) (sumN f d i x) := by
  induction d with
  | zero => intro i x; simp [sumN]
  | succ d ih => intro i x; rw [show d + 1 + e = (d + e) + 1 by omega]; simp only [sumN]; rw [ih (i + 1), show i + 1 + d = i + (d + 1) by omega]
theorem sumOnV_nat (s : ByteArray) {x : Nat} (h : x < 4294967296) : sumOnV (x : Int) s = (sumN (byN s) s.size 0 x : Int) := sumR_nat s s.size 0 h
theorem byN_extract (s : ByteArray) (a b i : Nat) (h : i < b - a) (hb : b ≤ s.size) : byN (s.extract a b) i = byN s (a + i) := by
  unfold byN bt
  rw [dif_pos (by rw [ByteArray.size_extract]; simp; omega), dif_pos (by simp; omega)]
  congr 3
  exact ByteArray.getElem_extract ..
theorem sumOnV_cut (s : ByteArray) (m : Nat) (hm : m ≤ s.size) {x : Nat} (h : x < 4294967296) : sumOnV (sumOnV (x : Int) (s.extract 0 m)) (s.extract m s.size) = sumOnV (x : Int) s := by
  have e1 : (s.extract 0 m).size = m := by rw [ByteArray.size_extract]; omega
  have e2 : (s.extract m s.size).size = s.size - m := by rw [ByteArray.size_extract]; omega
  have hl := sumN_lt (byN (s.extract 0 m)) (byN_lt _) m 0 x h
  rw [sumOnV_nat _ h, sumOnV_nat s h, e1, sumOnV_nat _ hl, e2]
  have h1 : sumN (byN (s.extract 0 m)) m 0 x = sumN (byN s) m 0 x := sumN_congr _ _ _ _ _ (fun j _ h2 => by
    have := byN_extract s 0 m j (by omega) hm; rwa [Nat.zero_add] at this)
  have h2 : ∀ y, sumN (byN (s.extract m s.size)) (s.size - m) 0 y = sumN (byN s) (s.size - m) m y := fun y => by
    rw [show sumN (byN s) (s.size - m) m y = sumN (byN s) (s.size - m) (m + 0) y from rfl, ← sumN_shift]
    exact sumN_congr _ _ _ _ _ (fun j _ h3 => byN_extract s m s.size j (by omega) (by omega))
  rw [h1, h2]
  have := sumN_add (byN s) m (s.size - m) 0 x
  rw [show m + (s.size - m) = s.size by omega, Nat.zero_add] at this
  rw [this]
theorem sumV_nat (s : ByteArray) : sumV s = ((4294967295 ^^^ sumN (byN s) s.size 0 4294967295 : Nat) : Int) := by
  unfold sumV
  rw [show (4294967295 : Int) = ((4294967295 : Nat) : Int) from rfl, sumOnV_nat s (by omega)]
  exact u32_xor_nat _ _ (by omega) (sumN_lt _ (byN_lt s) _ _ _ (by omega))
theorem sumV_lin (a b c x : ByteArray) (hb : b.size = a.size) (hc : c.size = a.size) (hx : x.size = a.size)
    (h : ∀ j, j < a.size → byN x j = (byN a j ^^^ byN b j) ^^^ byN c j) : sumV x = Go.bits .xor .u32 (Go.bits .xor .u32 (sumV a) (sumV b)) (sumV c) := by
  rw [sumV_nat, sumV_nat, sumV_nat, sumV_nat, hb, hc, hx]
  have L : ∀ s : ByteArray, ∀ n, sumN (byN s) n 0 4294967295 < 4294967296 := fun s n => sumN_lt _ (byN_lt s) _ _ _ (by omega)
  have hA := L a a.size; have hB := L b a.size; have hC := L c a.size
  have F : ∀ {n : Nat}, n < 4294967296 → 4294967295 ^^^ n < 4294967296 := fun h => xor_lt32 (by omega) h
  rw [u32_xor_nat _ _ (F hA) (F hB), u32_xor_nat _ _ (xor_lt32 (F hA) (F hB)) (F hC)]
  have e1 : sumN (byN x) a.size 0 4294967295 = sumN (fun j => (byN a j ^^^ byN b j) ^^^ byN c j) a.size 0 4294967295 := sumN_congr _ _ _ _ _ (fun j _ h2 => h j (by omega))
  have e2 := sumN_lin (fun j => byN a j ^^^ byN b j) (byN c) (fun j => (byN a j ^^^ byN b j) ^^^ byN c j) (fun _ => rfl) a.size 0 (4294967295 ^^^ 4294967295) 4294967295
  have e3 := sumN_lin (byN a) (byN b) (fun j => byN a j ^^^ byN b j) (fun _ => rfl) a.size 0 4294967295 4294967295
  rw [e1]
  rw [Nat.xor_self, Nat.zero_xor] at e2
  rw [Nat.xor_self] at e3
  rw [e2, e3]
  generalize sumN (byN a) a.size 0 4294967295 = A
  generalize sumN (byN b) a.size 0 4294967295 = B
  generalize sumN (byN c) a.size 0 4294967295 = C
  congr 1
  rw [show ((4294967295 ^^^ A) ^^^ (4294967295 ^^^ B)) ^^^ (4294967295 ^^^ C) = (4294967295 ^^^ ((A ^^^ B) ^^^ C)) ^^^ (4294967295 ^^^ 4294967295) by ac_rfl, Nat.xor_self, Nat.xor_zero]

theorem x8 {a b : Int} (ha : 0 ≤ a ∧ a ≤ 255) (hb : 0 ≤ b ∧ b ≤ 255) : (Go.bits .xor .u8 a b).toNat = a.toNat ^^^ b.toNat := by
  rw [u8_xor a b ha.1 (by omega) hb.1 (by omega)]; rfl
theorem x8r (a b : Int) : 0 ≤ Go.bits .xor .u8 a b ∧ Go.bits .xor .u8 a b ≤ 255 := by have := bits_u8 .xor a b; omega
def LinInv (a : ByteArray) (bs cs xs : List Int) (i : Nat) : Prop :=
  ByL bs ∧ ByL cs ∧ ByL xs ∧ bs.length = a.size ∧ cs.length = a.size ∧ xs.length = a.size ∧ ∀ j : Nat, j < i → rd xs (j : Int) = Go.bits .xor .u8 (Go.bits .xor .u8 (bt a (j : Int)) (rd bs (j : Int))) (rd cs (j : Int))
theorem LinInv.step {a : ByteArray} {bs cs xs : List Int} {i : Nat} (h : LinInv a bs cs xs i) (hi : i < a.size) {v w : Int} (hv : 0 ≤ v ∧ v ≤ 255) (hw : 0 ≤ w ∧ w ≤ 255) (z : Int)
    (hz : z = Go.bits .xor .u8 (Go.bits .xor .u8 (bt a (i : Int)) v) w) : LinInv a (bs.set i v) (cs.set i w) (xs.set i z) (i + 1) := by
  obtain ⟨h1, h2, h3, h4, h5, h6, h7⟩ := h
  refine ⟨h1.set_ i hv, h2.set_ i hw, h3.set_ i (by subst hz; exact x8r _ _), by simpa using h4, by simpa using h5, by simpa using h6, fun j hj => ?_⟩
  rw [rd_set _ _ _ _ (by omega), rd_set _ _ _ _ (by omega), rd_set _ _ _ _ (by omega)]
  by_cases e : j = i
  · subst e; simp only [if_true]; exact hz
  · simp only [if_neg e]; exact h7 j (by omega)
theorem lin_loop (a s : ByteArray) (x6 : Int) (ha : a.size ≤ 140737488351232) (d : Nat) : ∀ (i : Nat) (bs cs xs : List Int), i + d = a.size → LinInv a bs cs xs i →
    ∃ bs' cs' xs', LinInv a bs' cs' xs' a.size ∧ ∀ r, Ev (fun k => laws_FnLinear.l0 k a x6 s bs' cs' xs' (a.size : Int) (a.size : Int)) r → Ev (fun k => laws_FnLinear.l0 k a x6 s bs cs xs (a.size : Int) i) r := by
  induction d with
  | zero =>
    intro i bs cs xs hi h
    obtain rfl : i = a.size := by omega
    exact ⟨bs, cs, xs, h, fun r hr => hr⟩
  | succ d ih =>
    intro i bs cs xs hi h
    have hl := h.2.2.2
    by_cases hs : (i : Int) < (s.size : Int)
    · obtain ⟨bs', cs', xs', g1, g2⟩ := ih (i + 1) _ _ _ (by omega) (h.step (by omega) (v := Go.bits .xor .u8 ((wrap64 ((wrap64 (31 * (i : Int))) + (s.size : Int))) % 256) (bt s i)) (w := (wrap64 ((wrap64 ((i : Int) * i)) + (wrap64 (x6)))) % 256) (x8r _ _) (by omega) _ rfl)
      refine ⟨bs', cs', xs', g1, fun r hr => Ev.step (fun k => ?_) (g2 r hr)⟩
      simp only [laws_FnLinear.l0]
      have e1 : rd (bs.set i (wrap64 (wrap64 (31 * (i : Int)) + (s.size : Int)) % 256)) (i : Int) = wrap64 (wrap64 (31 * (i : Int)) + (s.size : Int)) % 256 := by
        rw [rd_set _ _ _ _ (by omega), if_pos rfl]
      rw [if_pos (by omega), if_pos (by omega), if_pos (by omega), Option.bind_some, if_pos hs, Option.bind_some, if_pos (by omega), Option.bind_some, if_pos (by omega), if_pos (by omega), w64 (n := (i : Int) + 1) (by omega) (by omega)]
      rw [Int.toNat_natCast, e1, List.set_set, rd_set _ _ _ _ (by omega), if_pos rfl, rd_set _ _ _ _ (by omega), if_pos rfl]
      rfl
    · obtain ⟨bs', cs', xs', g1, g2⟩ := ih (i + 1) _ _ _ (by omega) (h.step (by omega) (v := (wrap64 ((wrap64 (31 * (i : Int))) + (s.size : Int))) % 256) (w := (wrap64 ((wrap64 ((i : Int) * i)) + (wrap64 (x6)))) % 256) (by omega) (by omega) _ rfl)
      refine ⟨bs', cs', xs', g1, fun r hr => Ev.step (fun k => ?_) (g2 r hr)⟩
      simp only [laws_FnLinear.l0]
      rw [if_pos (by omega), if_pos (by omega), if_pos (by omega), Option.bind_some, if_neg hs, if_pos (by omega), Option.bind_some, if_pos (by omega), if_pos (by omega), w64 (n := (i : Int) + 1) (by omega) (by omega)]
      rw [Int.toNat_natCast, rd_set _ _ _ _ (by omega), if_pos rfl, rd_set _ _ _ _ (by omega), if_pos rfl]
      rfl
theorem lin_end (a : ByteArray) (ha : a.size ≤ 140737488351232) (x : Int) (h0 : 0 ≤ x) (h1 : x < 4294967296) (m : Int) (hm : 0 ≤ m) (hm' : m ≤ a.size) : Ev (fun k => laws_FnLinear.j2 k a x m) true := by
  have e128 : rd crcT 128 = 2197175160 := by
    have := rd_crcT (i := 128) (by omega)
    rw [show ((128 : Nat) : Int) = 128 from rfl] at this
    rw [this, show eN 128 = 2197175160 from by decide]; rfl
  refine Ev.step (fun k => by rw [laws_FnLinear.j2]) ?_
  refine Ev.bind impl_table ?_
  refine Ev.pos_ (by rw [crcT_len]; rfl) (Ev.pos_ (by rw [crcT_len]; decide) ?_)
  rw [e128, show ((2197175160 : Int) != 2197175160) = false by decide]
  refine Ev.step (fun k => by rw [laws_FnLinear.j3]) ?_
  refine Ev.neg_ (by decide) (Ev.pos_ hm (Ev.pos_ hm' ?_))
  have g := sumOnV_cut a m.toNat (by omega) (x := x.toNat) (by omega)
  rw [Int.toNat_of_nonneg h0] at g
  refine Ev.bind (impl_on x _ (by rw [ByteArray.size_extract]; omega)) ?_
  refine Ev.bind (impl_on _ _ (by rw [ByteArray.size_extract]; omega)) ?_
  refine Ev.bind (impl_on x a ha) ?_
  rw [g]
  simp only [beq_self_eq_true]
  exact Ev.now _
theorem FnLinear : laws_FnLinear.Pure := by
  intro l0 l1 _ _ h0 _ _ h1
  apply Ev.rounds (r := true)
  unfold laws_FnLinear.f
  refine Ev.ite_ (fun _ => Ev.now _) (fun _ => ?_)
  obtain ⟨a, ea, ha⟩ := draw_sumof (byL h0)
  obtain ⟨x, s, es, hs, hx0, hx1⟩ := draw_sumon (byL h1)
  refine Ev.bind ea (Ev.bind es ?_)
  have eS : Ev (fun k => spec_SumOf.f k a) (sumV a) := by unfold spec_SumOf.f; exact Ev.bind (spec_sum a (by omega)) (Ev.now _)
  have eN : Ev (fun k => spec_SumOn.f k x s) (sumOnV x s) := by unfold spec_SumOn.f; exact Ev.bind spec_table (Ev.bind (spec_on x s (by omega)) (Ev.now _))
  refine Ev.bind (impl_sum a (by omega)) (Ev.bind eS ?_)
  refine Ev.pos_ rfl ?_
  refine Ev.bind (impl_on x s (by omega)) (Ev.bind eN ?_)
  simp only [bne_self_eq_false]
  refine Ev.step (fun k => by rw [laws_FnLinear.j0]) ?_
  refine Ev.neg_ (by decide) (Ev.pos_ (by omega) (Ev.pos_ (by omega) ?_))
  refine Ev.some_ ?_
  rw [List.length_replicate, Int.toNat_natCast]
  obtain ⟨bs, cs, xs, hI, hg⟩ := lin_loop a s x (by omega) a.size 0 (List.replicate a.size 0) (List.replicate a.size 0) (List.replicate a.size 0) (by omega)
    ⟨ByL.zeros _, ByL.zeros _, ByL.zeros _, by simp, by simp, by simp, fun j hj => by omega⟩
  refine hg true ?_
  obtain ⟨b1, b2, b3, b4, b5, b6, b7⟩ := hI
  refine Ev.step (fun k => by rw [laws_FnLinear.l0]) ?_
  refine Ev.neg_ (by omega) ?_
  have z : ∀ {l : List Int}, l.length = a.size → (strOfNums l).size ≤ 140737488351232 := fun h => by rw [strOfNums_size]; omega
  refine Ev.bind (impl_sum _ (z b6)) (Ev.bind (impl_sum a (by omega)) (Ev.bind (impl_sum _ (z b4)) (Ev.bind (impl_sum _ (z b5)) ?_)))
  have hlin := sumV_lin a (strOfNums bs) (strOfNums cs) (strOfNums xs) (by rw [strOfNums_size, b4]) (by rw [strOfNums_size, b5]) (by rw [strOfNums_size, b6]) (fun j hj => by
    unfold byN
    rw [bt_strOfNums b1, bt_strOfNums b2, bt_strOfNums b3, b7 j hj, x8 (x8r _ _) (b2.rd_ _), x8 (bt_range _ _) (b1.rd_ _)])
  refine Ev.pos_ hlin ?_
  refine Ev.ite_ (fun hp => ?_) (fun _ => lin_end a (by omega) x hx0 hx1 0 (by omega) (by omega))
  rw [w64 (n := (a.size : Int) + 1) (by omega) (by omega), w64 (n := x) (by omega) (by omega)]
  refine Ev.neg_ (by omega) ?_
  have ht := tmod_range (x := x) (n := (a.size : Int) + 1) hx0 (by omega)
  exact lin_end a (by omega) x hx0 hx1 _ ht.1 (by omega)

end Go.Proofs.Ythbbobokacakjaa.Pure
