/-
  The plain statement of the law FnVars, proved: over numbers and lists alone. No condition beyond the given ones.
-/
import Derived.Test.YthbbobokacakjaaMFnVarsx3
namespace Go.Proofs.Ythbbobokacakjaa.Pure
open Go Go.RowKit Go.Proofs.Ythbbobokacakjaa.MFnVars Go.Proofs.YthbbobokacakjaaW.PrintWords Go.Proofs.YthbbobokacakjaaW.PrintLast Go.Proofs.YthbbobokacakjaaW.PrintMore
set_option linter.unusedVariables false
set_option linter.unusedSimpArgs false

-- part base: plain facts on Go's numbers and on rounds
theorem lt_mn {i a b : Int} : i < mn a b ↔ i < a ∧ i < b := by unfold mn; split <;> omega
theorem mn_le {a b : Int} : mn a b ≤ a ∧ mn a b ≤ b := by unfold mn; split <;> omega
theorem w64 {n : Int} (h0 : -9223372036854775808 ≤ n) (h1 : n ≤ 9223372036854775807) : wrap64 n = n := by unfold wrap64; omega
theorem wrap_u64 (n : Int) : IntKind.u64.wrap n = n % 18446744073709551616 := by simp [IntKind.wrap, IntKind.bits, IntKind.signed]
theorem wu64 {n : Int} (h0 : 0 ≤ n) (h1 : n ≤ 18446744073709551615) : IntKind.u64.wrap n = n := by rw [wrap_u64]; omega
theorem wu32 {n : Int} (h0 : 0 ≤ n) (h1 : n ≤ 4294967295) : IntKind.u32.wrap n = n := by rw [IntKind.wrap_u32]; omega
theorem wraps_u32 (n : Int) (h₀ : 0 ≤ n) (h₁ : n < 2 ^ 32) : IntKind.u32.wrap n = n := by rw [IntKind.wrap_u32]; omega
theorem wraps_i64 (n : Int) (h₀ : 0 ≤ n) (h₁ : n < 2 ^ 63) : IntKind.i64.wrap n = n := by rw [IntKind.wrap_i64]; omega
theorem and127 {b : Int} (h0 : 0 ≤ b) (h1 : b ≤ 255) : Go.bits .and .u8 b 127 = b % 128 := bits_mask .u8 8 (by decide) wraps_u8 7 (by decide) b h0 (by omega)
theorem wf_i64 {n : Int} (h : (Lit.int .i64 n).wf = true) : -9223372036854775808 ≤ n ∧ n ≤ 9223372036854775807 := by
  simp only [Lit.wf, Bool.and_eq_true, decide_eq_true_eq] at h
  exact h
theorem wf_u32 {n : Int} (h : (Lit.int .u32 n).wf = true) : 0 ≤ n ∧ n ≤ 4294967295 := by
  simp only [Lit.wf, Bool.and_eq_true, decide_eq_true_eq] at h
  exact h
theorem bits_or_comm (k : IntKind) (x y : Int) : Go.bits .or k x y = Go.bits .or k y x := by
  simp only [Go.bits, BitVec.or_comm]
theorem and127i {b : Int} (h0 : 0 ≤ b) (h1 : b ≤ 9223372036854775807) : Go.bits .and .i64 b 127 = b % 128 := bits_mask .i64 63 (by decide) wraps_i64 7 (by decide) b h0 (by omega)
theorem or128i {b : Int} (h0 : 0 ≤ b) (h1 : b < 128) : Go.bits .or .i64 b 128 = b + 128 := by
  rw [bits_or_comm, bits_join .i64 63 (by decide) wraps_i64 7 128 b (by omega) (by omega) (by omega) h0 (by omega) (by omega)]; omega
theorem Ev.ite_ {α : Type} {c : Prop} [Decidable c] {g f : Nat → Option α} {r : α} (h : c → Ev g r) (k : ¬c → Ev f r) : Ev (fun n => if c then g n else f n) r := by
  by_cases hc : c
  · simp only [if_pos hc]; exact h hc
  · simp only [if_neg hc]; exact k hc
theorem Ev.pos_ {α : Type} {c : Prop} [Decidable c] {g f : Nat → Option α} {r : α} (hc : c) (h : Ev g r) : Ev (fun n => if c then g n else f n) r := by simp only [if_pos hc]; exact h
theorem Ev.neg_ {α : Type} {c : Prop} [Decidable c] {g f : Nat → Option α} {r : α} (hc : ¬c) (h : Ev f r) : Ev (fun n => if c then g n else f n) r := by simp only [if_neg hc]; exact h
theorem Ev.some_ {α β : Type} {f : Nat → α → Option β} {x : α} {r : β} (h : Ev (fun n => f n x) r) : Ev (fun n => (some x).bind (f n)) r := by simpa only [Option.bind_some] using h
theorem bo_and (b c : Bool) : (if b = true then some c else some false) = some (b && c) := by cases b <;> rfl
theorem bo_andP (p : Prop) [Decidable p] (c : Bool) : (if p then some c else some false) = some (decide p && c) := by by_cases h : p <;> simp [h]
theorem bo_orP (p : Prop) [Decidable p] (c : Bool) : (if p then some true else some c) = some (decide p || c) := by by_cases h : p <;> simp [h]
theorem bo_or (b c : Bool) : (if b = true then some true else some c) = some (b || c) := by cases b <;> rfl
def inB (a lo hi : Int) : Bool := decide (lo ≤ a) && decide (a ≤ hi)
theorem inB_iff {a lo hi : Int} : inB a lo hi = true ↔ lo ≤ a ∧ a ≤ hi := by simp [inB]

-- part varM: a number's bytes, as a list of numbers
def varL : Nat → Int → List Int
  | 0, x => [x]
  | d + 1, x => if x ≥ 128 then (x % 128 + 128) :: varL d (x / 128) else [x]
def varB (x : Int) : ByteArray := strOfNums (varL 8 x)
theorem varL_len (d : Nat) : ∀ x : Int, 1 ≤ (varL d x).length ∧ (varL d x).length ≤ d + 1 := by
  induction d with
  | zero => intro x; simp [varL]
  | succ d ih =>
    intro x
    unfold varL
    split
    · have := ih (x / 128); simp only [List.length_cons]; omega
    · simp
theorem varB_size (x : Int) : 1 ≤ (varB x).size ∧ (varB x).size ≤ 9 := by
  have := varL_len 8 x; unfold varB; rw [strOfNums_size]; exact this

-- part specVar needs spec_l2Var.f
theorem spec_var_l (d : Nat) : ∀ (x : Int) (acc : List Int), 0 ≤ x → x < 128 ^ (d + 1) → x ≤ 9223372036854775807 → acc.length + d < 1000 →
    Ev (fun k => spec_l2Var.l0 k x acc) (strOfNums (acc ++ varL d x)) := by
  induction d with
  | zero =>
    intro x acc h0 h1 hx ha
    refine Ev.step (f := fun _ => some (strOfNums (acc ++ varL 0 x))) (fun k => ?_) (Ev.now _)
    simp only [spec_l2Var.l0]
    rw [if_neg (by omega), if_pos (by omega), Int.emod_eq_of_lt h0 (by omega)]; rfl
  | succ d ih =>
    intro x acc h0 h1 hx ha
    by_cases hb : x ≥ 128
    · have := ih (x / 128) (acc ++ [x % 128 + 128]) (by omega) (by rw [Int.pow_succ] at h1; omega) (by omega) (by simp; omega)
      have e : acc ++ varL (d + 1) x = acc ++ [x % 128 + 128] ++ varL d (x / 128) := by simp [varL, hb]
      rw [e]
      refine Ev.step (fun k => ?_) this
      simp only [spec_l2Var.l0]
      rw [if_pos (by omega), if_pos (by omega), and127i h0 hx, or128i (by omega) (by omega), Int.emod_eq_of_lt (by omega) (by omega)]
    · refine Ev.step (f := fun _ => some (strOfNums (acc ++ varL (d + 1) x))) (fun k => ?_) (Ev.now _)
      simp only [spec_l2Var.l0, varL]
      rw [if_neg (by omega), if_pos (by omega), if_neg (by omega), Int.emod_eq_of_lt h0 (by omega)]
theorem spec_var {x : Int} (h0 : 0 ≤ x) (hx : x ≤ 9223372036854775807) : Ev (fun k => spec_l2Var.f k x) (varB x) :=
  spec_var_l 8 x [] h0 (by omega) hx (by simp)

-- part implVar needs impl_varBytes.f
theorem impl_var_l (d : Nat) : ∀ (x : Int) (acc : List Int), 0 ≤ x → x < 128 ^ (d + 1) → x ≤ 9223372036854775807 → acc.length + d < 1000 →
    Ev (fun k => impl_varBytes.l0 k x acc) (strOfNums (acc ++ varL d x)) := by
  induction d with
  | zero =>
    intro x acc h0 h1 hx ha
    refine Ev.step (f := fun _ => some (strOfNums (acc ++ varL 0 x))) (fun k => ?_) (Ev.now _)
    simp only [impl_varBytes.l0]
    rw [if_neg (by omega), if_pos (by omega), Int.emod_eq_of_lt h0 (by omega)]; rfl
  | succ d ih =>
    intro x acc h0 h1 hx ha
    by_cases hb : x ≥ 128
    · have := ih (x / 128) (acc ++ [x % 128 + 128]) (by omega) (by rw [Int.pow_succ] at h1; omega) (by omega) (by simp; omega)
      have e : acc ++ varL (d + 1) x = acc ++ [x % 128 + 128] ++ varL d (x / 128) := by simp [varL, hb]
      rw [e]
      refine Ev.step (fun k => ?_) this
      simp only [impl_varBytes.l0]
      rw [if_pos (by omega), if_pos (by omega), Int.tdiv_eq_ediv_of_nonneg h0, Int.tmod_eq_emod_of_nonneg h0, w64 (by omega) (by omega)]
      rw [show (x % 128 + 128) % 256 = x % 128 + 128 by omega]
    · refine Ev.step (f := fun _ => some (strOfNums (acc ++ varL (d + 1) x))) (fun k => ?_) (Ev.now _)
      simp only [impl_varBytes.l0, varL]
      rw [if_neg (by omega), if_pos (by omega), if_neg (by omega), Int.emod_eq_of_lt h0 (by omega)]
theorem impl_var {x : Int} (h0 : 0 ≤ x) (hx : x ≤ 9223372036854775807) : Ev (fun k => impl_varBytes.f k x) (varB x) :=
  impl_var_l 8 x [] h0 (by omega) hx (by simp)

-- part takeM: the number at a text's front
def takeR (s : ByteArray) : Nat → Int → Nat → Int × Int
  | 0, _, _ => (0, 0)
  | d + 1, n, i => if (i : Int) < (s.size : Int) then
      (if bt s i < 128 then (if i > 0 ∧ bt s i = 0 then (0, 0) else (n + bt s i * 128 ^ i, (i : Int) + 1))
        else takeR s d (n + (bt s i % 128) * 128 ^ i) (i + 1))
      else (0, 0)
def takeV (s : ByteArray) : Int × Int := takeR s 9 0 0
theorem pow128 (i : Nat) : (128 : Int) ^ i = 2 ^ (7 * i) := by rw [Int.pow_mul]; rfl
theorem pow128_pos (i : Nat) : (0 : Int) < 128 ^ i := Int.pow_pos (by decide)
theorem pow128_le {i : Nat} (h : i ≤ 9) : (128 : Int) ^ i ≤ 9223372036854775808 := by
  have : ∀ j : Nat, j < 10 → (128 : Int) ^ j ≤ 9223372036854775808 := by decide
  exact this i (by omega)
theorem or_shl {n c : Int} {i : Nat} (hn : 0 ≤ n) (hn' : n < 128 ^ i) (hc : 0 ≤ c) (hc' : c < 128) (hi : i ≤ 8) : Go.bits .or .i64 n (shl .i64 c (7 * (i : Int))) = n + c * 128 ^ i := by
  have hp := pow128_pos i
  have h9 := pow128_le (i := i + 1) (by omega)
  rw [Int.pow_succ] at h9
  have hlt : c * 128 ^ i < 9223372036854775808 := by
    have : c * 128 ^ i ≤ 127 * 128 ^ i := Int.mul_le_mul_of_nonneg_right (by omega) (by omega)
    omega
  have h0 : 0 ≤ c * 128 ^ i := Int.mul_nonneg hc (by omega)
  have e : shl .i64 c (7 * (i : Int)) = c * 128 ^ i := by
    unfold shl
    rw [show min (7 * (i : Int)).toNat IntKind.i64.bits = 7 * i by simp only [IntKind.bits]; omega, ← pow128]
    exact wraps_i64 _ h0 hlt
  have h8 := pow128_le (i := i) (by omega)
  rw [e, bits_or_comm, bits_join .i64 63 (by decide) wraps_i64 (7 * i) (c * 128 ^ i) n h0 (by rw [pow128]; exact Int.mul_emod_left _ _) hlt hn (by rw [← pow128]; exact hn') (by have : (2 : Int) ^ 63 = 9223372036854775808 := rfl; omega)]
  omega
theorem acc_lt {n c : Int} {i : Nat} (hn' : n < 128 ^ i) (hc' : c < 128) (hc : 0 ≤ c) : n + c * 128 ^ i < 128 ^ (i + 1) := by
  have hp := pow128_pos i
  have : c * 128 ^ i ≤ 127 * 128 ^ i := Int.mul_le_mul_of_nonneg_right (by omega) (by omega)
  rw [Int.pow_succ]; omega
theorem takeR_range (s : ByteArray) (d : Nat) : ∀ (n : Int) (i : Nat), 0 ≤ n → n < 128 ^ i → i + d = 9 →
    0 ≤ (takeR s d n i).1 ∧ (takeR s d n i).1 ≤ 9223372036854775807 ∧ 0 ≤ (takeR s d n i).2 ∧ (takeR s d n i).2 ≤ 9 ∧ (takeR s d n i).2 ≤ s.size ∧ ((takeR s d n i).2 = 0 → (takeR s d n i).1 = 0) := by
  induction d with
  | zero => intro n i h0 h1 hd; simp [takeR]
  | succ d ih =>
    intro n i h0 h1 hd
    obtain ⟨b0, b1⟩ := bt_range s i
    have hp := pow128_pos i
    unfold takeR
    split
    · split
      · split
        · simp
        · have h2 : 0 ≤ bt s i * 128 ^ i := Int.mul_nonneg b0 (by omega)
          have h3 := acc_lt h1 (c := bt s i) (by omega) b0
          have h4 := pow128_le (i := i + 1) (by omega)
          refine ⟨by simp only; omega, by simp only; omega, by simp only; omega, by simp only; omega, by simp only; omega, by simp only; omega⟩
      · exact ih _ _ (by have : 0 ≤ bt s i % 128 * 128 ^ i := Int.mul_nonneg (by omega) (by omega); omega) (acc_lt h1 (by omega) (by omega)) (by omega)
    · simp
theorem takeV_range (s : ByteArray) : 0 ≤ (takeV s).1 ∧ (takeV s).1 ≤ 9223372036854775807 ∧ 0 ≤ (takeV s).2 ∧ (takeV s).2 ≤ 9 ∧ (takeV s).2 ≤ s.size ∧ ((takeV s).2 = 0 → (takeV s).1 = 0) :=
  takeR_range s 9 0 0 (by omega) (by decide) rfl

-- part specTake needs spec_l2Take.f
theorem spec_take_l (s : ByteArray) (d : Nat) : ∀ (n : Int) (i : Nat), 0 ≤ n → n < 128 ^ i → i + d = 9 → Ev (fun k => spec_l2Take.l0 k s n i) (takeR s d n i) := by
  induction d with
  | zero =>
    intro n i hn hn' hd
    refine Ev.step (f := fun k => spec_l2Take.j1 k s n i false) (fun k => ?_) (Ev.step (f := fun _ => some (0, 0)) (fun k => ?_) (Ev.now _))
    · simp only [spec_l2Take.l0]; rw [if_neg (by omega)]
    · simp only [spec_l2Take.j1]; rfl
  | succ d ih =>
    intro n i hn hn' hd
    have e7 : wrap64 (7 * (i : Int)) = 7 * i := w64 (by omega) (by omega)
    have e1 : wrap64 ((i : Int) + 1) = ((i + 1 : Nat) : Int) := by rw [w64 (by omega) (by omega)]; omega
    have u7 : IntKind.u64.wrap (7 * (i : Int)) = 7 * i := wu64 (by omega) (by omega)
    obtain ⟨b0, b1⟩ := bt_range s i
    have ea := and127 b0 b1
    have ea' : wrap64 (bt s i % 128) = bt s i % 128 := w64 (by omega) (by omega)
    have eo := or_shl hn hn' (c := bt s i % 128) (by omega) (by omega) (i := i) (by omega)
    refine Ev.step (f := fun k => spec_l2Take.j1 k s n i (decide ((i : Int) < (s.size : Int)))) (fun k => ?_) ?_
    · simp only [spec_l2Take.l0]; rw [if_pos (by omega)]
    · unfold takeR
      by_cases hl : (i : Int) < (s.size : Int)
      · rw [if_pos hl]
        refine Ev.step (fun k => ?_) (f := fun k => if bt s i < 128 then (if i > 0 ∧ bt s i = 0 then some (0, 0) else some (n + bt s i * 128 ^ i, (i : Int) + 1))
          else spec_l2Take.l0 k s (n + (bt s i % 128) * 128 ^ i) ((i + 1 : Nat) : Int)) ?_
        · simp only [spec_l2Take.j1]
          rw [if_pos (by simpa using hl), if_pos (by omega), if_pos hl, e7, u7, if_pos (by omega), ea, ea', eo, e1]
          by_cases hb : bt s i < 128
          · rw [if_pos hb, if_pos hb, show bt s i % 128 = bt s i by omega]
            by_cases hi : i > 0
            · rw [if_pos (by omega)]
              by_cases hz : bt s i = 0
              · rw [if_pos hz, if_pos ⟨hi, hz⟩]
              · rw [if_neg hz, if_neg (fun h => hz h.2)]; rfl
            · rw [if_neg (by omega), if_neg (fun h => hi h.1)]; rfl
          · rw [if_neg hb, if_neg hb]
        · by_cases hb : bt s i < 128
          · simp only [if_pos hb]
            split <;> exact Ev.now _
          · simp only [if_neg hb]
            exact ih _ _ (by have : 0 ≤ bt s i % 128 * 128 ^ i := Int.mul_nonneg (by omega) (by have := pow128_pos i; omega); omega) (acc_lt hn' (by omega) (by omega)) (by omega)
      · rw [if_neg hl]
        refine Ev.step (f := fun _ => some (0, 0)) (fun k => ?_) (Ev.now _)
        simp only [spec_l2Take.j1]
        rw [if_neg (by simpa using hl)]
theorem spec_take (s : ByteArray) : Ev (fun k => spec_l2Take.f k s) (takeV s) := spec_take_l s 9 0 0 (by omega) (by decide) rfl

-- part implTake needs impl_TakeVar.f
theorem impl_take_l (s : ByteArray) (d : Nat) : ∀ (n : Int) (i : Nat), 0 ≤ n → n < 128 ^ i → i + d = 9 → Ev (fun k => impl_TakeVar.l0 k s n i) (takeR s d n i) := by
  induction d with
  | zero =>
    intro n i hn hn' hd
    refine Ev.step (f := fun _ => some (0, 0)) (fun k => ?_) (Ev.now _)
    simp only [impl_TakeVar.l0]; rw [if_neg (by rw [lt_mn]; omega)]
  | succ d ih =>
    intro n i hn hn' hd
    have e7 : wrap64 (7 * (i : Int)) = 7 * i := w64 (by omega) (by omega)
    have e1 : wrap64 ((i : Int) + 1) = ((i + 1 : Nat) : Int) := by rw [w64 (by omega) (by omega)]; omega
    obtain ⟨b0, b1⟩ := bt_range s i
    have eb : wrap64 (bt s i) = bt s i := w64 (by omega) (by omega)
    have et : Int.tmod (bt s i) 128 = bt s i % 128 := Int.tmod_eq_emod_of_nonneg b0
    have eo := or_shl hn hn' (c := bt s i % 128) (by omega) (by omega) (i := i) (by omega)
    unfold takeR
    by_cases hl : (i : Int) < (s.size : Int)
    · rw [if_pos hl]
      refine Ev.step (fun k => ?_) (f := fun k => if bt s i < 128 then (if i > 0 ∧ bt s i = 0 then some (0, 0) else some (n + bt s i * 128 ^ i, (i : Int) + 1))
        else impl_TakeVar.l0 k s (n + (bt s i % 128) * 128 ^ i) ((i + 1 : Nat) : Int)) ?_
      · simp only [impl_TakeVar.l0]
        rw [if_pos (by rw [lt_mn]; omega), if_pos (by omega), if_pos hl, e7, if_pos (by omega), eb, et, eo, e1]
        by_cases hb : bt s i < 128
        · rw [if_pos hb, if_pos hb, show bt s i % 128 = bt s i by omega]
          by_cases hi : i > 0
          · rw [if_pos (by omega)]
            by_cases hz : bt s i = 0
            · rw [if_pos hz, if_pos ⟨hi, hz⟩]
            · rw [if_neg hz, if_neg (fun h => hz h.2)]; rfl
          · rw [if_neg (by omega), if_neg (fun h => hi h.1)]; rfl
        · rw [if_neg hb, if_neg hb]
      · by_cases hb : bt s i < 128
        · simp only [if_pos hb]
          split <;> exact Ev.now _
        · simp only [if_neg hb]
          exact ih _ _ (by have : 0 ≤ bt s i % 128 * 128 ^ i := Int.mul_nonneg (by omega) (by have := pow128_pos i; omega); omega) (acc_lt hn' (by omega) (by omega)) (by omega)
    · rw [if_neg hl]
      refine Ev.step (f := fun _ => some (0, 0)) (fun k => ?_) (Ev.now _)
      simp only [impl_TakeVar.l0]
      rw [if_neg (by rw [lt_mn]; omega)]
theorem impl_take (s : ByteArray) : Ev (fun k => impl_TakeVar.f k s) (takeV s) := impl_take_l s 9 0 0 (by omega) (by decide) rfl

-- part byL: rows of bytes
def ByL (l : List Int) : Prop := ∀ x ∈ l, 0 ≤ x ∧ x ≤ 255
theorem byL {l : List Int} (h : ∀ x ∈ l, (Lit.int .u8 x).wf = true) : ByL l := fun x hx => by
  have := h x hx
  simp only [Lit.wf, Bool.and_eq_true, decide_eq_true_eq] at this
  exact this
theorem ByL.rd_ {l : List Int} (h : ByL l) (i : Int) : 0 ≤ rd l i ∧ rd l i ≤ 255 := by
  unfold rd
  rw [List.getD_eq_getElem?_getD]
  cases e : l[i.toNat]? with
  | none => simp
  | some x => exact h x (List.mem_of_getElem? e)

-- part drawNext needs spec_l1Cur_next.f
theorem and255_ {b : Int} (h0 : 0 ≤ b) (h1 : b < 18446744073709551616) : Go.bits .and .u64 b 255 = b % 256 := bits_mask .u64 64 (by decide) (fun n a b => by rw [wrap_u64]; omega) 8 (by decide) b h0 (by omega)
theorem mix_range (x : Int) : 0 ≤ wrap64 (Go.bits .and .u64 (IntKind.u64.wrap x / 1099511627776) 255) ∧ wrap64 (Go.bits .and .u64 (IntKind.u64.wrap x / 1099511627776) 255) ≤ 255 := by
  rw [wrap_u64, and255_ (by omega) (by omega), w64 (by omega) (by omega)]
  omega
theorem draw_next {l : List Int} (hl : ByL l) (a s : Int) (h0 : 0 ≤ a) (h1 : a ≤ 4611686018427387904) : ∃ b s', spec_l1Cur_next.f l a s = some (b, a + 1, s') ∧ 0 ≤ b ∧ b ≤ 255 := by
  have hw : wrap64 (a + 1) = a + 1 := w64 (by omega) (by omega)
  have hr := hl.rd_ a
  have hwr : wrap64 (rd l a) = rd l a := w64 (by omega) (by omega)
  unfold spec_l1Cur_next.f
  rw [hw, if_pos h0]
  split
  · split
    · exact ⟨_, _, rfl, by rw [hwr]; exact hr⟩
    · exact ⟨_, _, rfl, mix_range _⟩
  · split
    · exact ⟨_, _, rfl, by omega, by omega⟩
    · exact ⟨_, _, rfl, mix_range _⟩

-- part drawPick needs spec_l1Cur_pick.f
theorem tmod_range {x n : Int} (hx : 0 ≤ x) (hn : 1 ≤ n) : 0 ≤ Int.tmod x n ∧ Int.tmod x n < n ∧ Int.tmod x n ≤ x := by
  rw [Int.tmod_eq_emod_of_nonneg hx]
  have h1 := Int.emod_add_mul_ediv x n
  have h2 : 0 ≤ x / n := Int.ediv_nonneg hx (by omega)
  have h3 := Int.mul_nonneg (show (0 : Int) ≤ n by omega) h2
  exact ⟨Int.emod_nonneg _ (by omega), Int.emod_lt_of_pos _ (by omega), by omega⟩
theorem draw_pick {l : List Int} (hl : ByL l) (a s n : Int) (h0 : 0 ≤ a) (h1 : a ≤ 4611686018427387000) : ∃ v a' s', spec_l1Cur_pick.f l a s n = some (v, a', s') ∧ a ≤ a' ∧ a' ≤ a + 2 ∧ 0 ≤ v ∧ (1 ≤ n → v < n) ∧ v ≤ 65535 := by
  unfold spec_l1Cur_pick.f
  by_cases hn : n ≤ 1
  · rw [if_pos hn]; exact ⟨_, _, _, rfl, by omega, by omega, by omega, fun h => by omega, by omega⟩
  · rw [if_neg hn]
    obtain ⟨b, s1, e1, hb0, hb1⟩ := draw_next hl a s h0 (by omega)
    rw [e1, Option.bind_some]
    simp only
    by_cases h2 : n > 200
    · obtain ⟨c, s2, e2, hc0, hc1⟩ := draw_next hl (a + 1) s1 (by omega) (by omega)
      rw [if_pos h2, e2, Option.bind_some, if_neg (by omega), w64 (n := b * 256) (by omega) (by omega), w64 (n := b * 256 + c) (by omega) (by omega)]
      have := tmod_range (x := b * 256 + c) (n := n) (by omega) (by omega)
      exact ⟨_, _, _, rfl, by simp only; omega, by simp only; omega, this.1, fun _ => this.2.1, by omega⟩
    · rw [if_neg h2, if_neg (by omega)]
      have := tmod_range (x := b) (n := n) (by omega) (by omega)
      exact ⟨_, _, _, rfl, by omega, by omega, this.1, fun _ => this.2.1, by omega⟩

-- part drawAmong needs spec_l1Cur_among.f
theorem draw_among {l : List Int} (hl : ByL l) (a s : Int) (h0 : 0 ≤ a) (h1 : a ≤ 4611686018427387000) (xs : List Int) (hx : 1 ≤ xs.length) : ∃ v a' s', spec_l1Cur_among.f l a s xs = some (v, a', s') ∧ a ≤ a' ∧ a' ≤ a + 2 ∧ v ∈ xs := by
  unfold spec_l1Cur_among.f
  obtain ⟨i, a', s', e, h2, h3, h4, h5, h6⟩ := draw_pick hl a s (xs.length : Int) h0 h1
  have := h5 (by omega)
  rw [e, Option.bind_some]
  simp only
  rw [if_pos h4, if_pos this]
  refine ⟨_, _, _, rfl, h2, h3, ?_⟩
  unfold rd
  rw [List.getD_eq_getElem?_getD, List.getElem?_eq_getElem (by omega)]
  exact List.getElem_mem _

-- part drawOf needs spec_l1Cur_of.f
theorem draw_of {l : List Int} (hl : ByL l) (a s : Int) (h0 : 0 ≤ a) (h1 : a ≤ 4611686018427387000) (xs : List ByteArray) (hx : 1 ≤ xs.length) : ∃ v a' s', spec_l1Cur_of.f l a s xs = some (v, a', s') ∧ a ≤ a' ∧ a' ≤ a + 2 ∧ v ∈ xs := by
  unfold spec_l1Cur_of.f
  obtain ⟨i, a', s', e, h2, h3, h4, h5, h6⟩ := draw_pick hl a s (xs.length : Int) h0 h1
  have := h5 (by omega)
  rw [e, Option.bind_some]
  simp only
  rw [if_pos h4, if_pos this]
  refine ⟨_, _, _, rfl, h2, h3, ?_⟩
  unfold rdOf
  rw [List.getD_eq_getElem?_getD, List.getElem?_eq_getElem (by omega)]
  exact List.getElem_mem _

-- part drawWide needs spec_l1Cur_wide.f
theorem bits_i64 (op : BinOp) (x y : Int) : -9223372036854775808 ≤ Go.bits op .i64 x y ∧ Go.bits op .i64 x y ≤ 9223372036854775807 := by
  unfold Go.bits; rw [IntKind.wrap_i64]; omega
theorem draw_wide_l {l : List Int} (hl : ByL l) (d : Nat) : ∀ (x j a s : Int), 0 ≤ j → j + d = 8 → 0 ≤ a → a ≤ 4611686018427380000 - d → (-9223372036854775808 ≤ x ∧ x ≤ 9223372036854775807) →
    ∃ v a' s', Ev (fun k => spec_l1Cur_wide.l0 k x j l a s) (v, a', s') ∧ a ≤ a' ∧ a' ≤ a + d ∧ (-9223372036854775808 ≤ v ∧ v ≤ 9223372036854775807) := by
  induction d with
  | zero =>
    intro x j a s h0 hj ha ha' hx
    refine ⟨x, a, s, Ev.step (f := fun _ => some (x, a, s)) (fun k => ?_) (Ev.now _), by omega, by omega, hx⟩
    simp only [spec_l1Cur_wide.l0]; rw [if_neg (by omega)]
  | succ d ih =>
    intro x j a s h0 hj ha ha' hx
    obtain ⟨b, s1, e1, hb0, hb1⟩ := draw_next hl a s ha (by omega)
    obtain ⟨v, a', s', h1, h2, h3, h4⟩ := ih (Go.bits .or .i64 (wrap64 (x * 256)) b) (j + 1) (a + 1) s1 (by omega) (by omega) (by omega) (by omega) (bits_i64 _ _ _)
    refine ⟨v, a', s', Ev.step (fun k => ?_) h1, by omega, by omega, h4⟩
    simp only [spec_l1Cur_wide.l0]
    rw [if_pos (by omega), e1, w64 (n := j + 1) (by omega) (by omega)]; rfl
theorem draw_wide {l : List Int} (hl : ByL l) (a s : Int) (h0 : 0 ≤ a) (h1 : a ≤ 4611686018427370000) : ∃ v a' s', Ev (fun k => spec_l1Cur_wide.f k l a s) (v, a', s') ∧ a ≤ a' ∧ a' ≤ a + 8 ∧ (-9223372036854775808 ≤ v ∧ v ≤ 9223372036854775807) :=
  draw_wide_l hl 8 0 0 a s (by omega) (by omega) h0 (by omega) (by omega)

-- part drawText needs spec_l1Cur_text.f
theorem draw_text_l {l : List Int} (hl : ByL l) (d : Nat) : ∀ (xs : List Int) (i : Nat) (a s : Int), i + d = xs.length → xs.length ≤ 140737488351232 → 0 ≤ a → a + 2 * d ≤ 4611686018427380000 →
    ∃ t a' s', Ev (fun k => spec_l1Cur_text.l0 k xs (xs.length : Int) i l a s) (t, a', s') ∧ a ≤ a' ∧ a' ≤ a + 2 * d ∧ t.size = xs.length := by
  induction d with
  | zero =>
    intro xs i a s hi hx ha ha'
    refine ⟨strOfNums xs, a, s, Ev.step (f := fun _ => some (strOfNums xs, a, s)) (fun k => ?_) (Ev.now _), by omega, by omega, strOfNums_size _⟩
    simp only [spec_l1Cur_text.l0]; rw [if_neg (by omega)]
  | succ d ih =>
    intro xs i a s hi hx ha ha'
    obtain ⟨b, a1, s1, e1, h2, h3, h4, h5, h6⟩ := draw_pick hl a s 256 ha (by omega)
    obtain ⟨t, a', s', e, h7, h8, h9⟩ := ih (xs.set i (b % 256)) (i + 1) a1 s1 (by simp; omega) (by simpa using hx) (by omega) (by omega)
    rw [List.length_set] at e h9
    refine ⟨t, a', s', Ev.step (fun k => ?_) e, by omega, by omega, h9⟩
    simp only [spec_l1Cur_text.l0]
    rw [if_pos (by omega), e1, w64 (by omega) (by omega), Option.bind_some, if_pos (by omega), if_pos (by omega)]; rfl
theorem draw_text {l : List Int} (hl : ByL l) (a s n : Int) (h0 : 0 ≤ a) (h1 : a ≤ 4611686018427370000 - 140737488351232 * 2) (hn : 0 ≤ n) (hn' : n ≤ 140737488351232) : ∃ t a' s', Ev (fun k => spec_l1Cur_text.f k l a s n) (t, a', s') ∧ a ≤ a' ∧ a' ≤ a + 2 * n ∧ (t.size : Int) = n := by
  obtain ⟨t, a', s', e, h2, h3, h4⟩ := draw_text_l hl n.toNat (List.replicate n.toNat 0) 0 a s (by simp) (by simp; omega) h0 (by omega)
  refine ⟨t, a', s', ?_, h2, by omega, by rw [h4]; simp; omega⟩
  unfold spec_l1Cur_text.f
  exact Ev.pos_ hn (Ev.pos_ (by omega) e)

-- part drawVar needs spec_DrawVarBytes.f
theorem draw_var {l : List Int} (hl : ByL l) : ∃ n, Ev (fun k => spec_DrawVarBytes.f k l) n ∧ -9223372036854775808 ≤ n ∧ n ≤ 9223372036854775807 := by
  obtain ⟨c, a, s, e, h1, h2, h3, h4, h5⟩ := draw_pick hl 0 0 4 (by omega) (by omega)
  by_cases hc : c = 0
  · obtain ⟨v, a1, s1, e1, h6, h7, h8⟩ := draw_among hl a s (by omega) (by omega) [(-1), 0, 127, 128, 16383, 16384, 9223372036854775807] (by decide)
    refine ⟨v, ?_, ?_⟩
    · unfold spec_DrawVarBytes.f
      rw [e]
      show Ev (fun k => if c = 0 then _ else _) v
      simp only [if_pos hc]
      rw [e1]; exact Ev.now _
    · simp only [List.mem_cons, List.not_mem_nil, or_false] at h8
      omega
  by_cases hc1 : c = 1
  · obtain ⟨v, a1, s1, e1, h6, h7, h8⟩ := draw_wide hl a s (by omega) (by omega)
    refine ⟨Go.bits .and .i64 v 9223372036854775807, ?_, bits_i64 _ _ _⟩
    unfold spec_DrawVarBytes.f
    rw [e]
    show Ev (fun k => if c = 0 then _ else _) _
    simp only [if_neg hc, if_pos hc1]
    exact Ev.bind e1 (Ev.now _)
  · obtain ⟨v, a1, s1, e1, h6, h7, h8, h9, h10⟩ := draw_pick hl a s 1000 (by omega) (by omega)
    refine ⟨v, ?_, by omega, by omega⟩
    unfold spec_DrawVarBytes.f
    rw [e]
    show Ev (fun k => if c = 0 then _ else _) _
    simp only [if_neg hc, if_neg hc1]
    rw [e1]; exact Ev.now _

-- part bytesM: bytes of a row
theorem bt_strOfNums {xs : List Int} (h : ByL xs) (i : Nat) : bt (strOfNums xs) (i : Int) = rd xs (i : Int) := by
  unfold bt rd
  rw [List.getD_eq_getElem?_getD]
  by_cases hi : i < xs.length
  · rw [dif_pos (by rw [strOfNums_size]; simpa using hi), List.getElem?_eq_getElem (by simpa using hi)]
    have := h _ (List.getElem_mem hi)
    have e : ((strOfNums xs)[(i : Int).toNat]'(by rw [strOfNums_size]; simpa using hi)) = UInt8.ofNat (xs[i]).toNat := by
      unfold strOfNums
      rw [ByteArray.getElem_eq_getElem_data]
      simp
    rw [e]
    simp only [UInt8.toNat_ofNat', Int.toNat_natCast, Option.getD_some]
    omega
  · rw [dif_neg (by rw [strOfNums_size]; simpa using hi), List.getElem?_eq_none (by simpa using hi)]; rfl
theorem rd_set (xs : List Int) (i j : Nat) (v : Int) (hi : i < xs.length) : rd (xs.set i v) (j : Int) = if j = i then v else rd xs (j : Int) := by
  unfold rd
  rw [List.getD_eq_getElem?_getD, List.getD_eq_getElem?_getD, Int.toNat_natCast]
  by_cases e : j = i
  · subst e; rw [if_pos rfl, List.getElem?_set_self hi]; rfl
  · rw [if_neg e, List.getElem?_set_ne (by omega)]
theorem ByL.set_ {xs : List Int} (h : ByL xs) (i : Nat) {v : Int} (hv : 0 ≤ v ∧ v ≤ 255) : ByL (xs.set i v) := fun x hx => by
  rcases List.mem_or_eq_of_mem_set hx with hx | rfl
  · exact h x hx
  · exact hv
theorem ByL.zeros (n : Nat) : ByL (List.replicate n 0) := fun x hx => by
  have := List.eq_of_mem_replicate hx; omega

-- part takeVarM: a number's bytes give the number, and back
theorem varL_by (d : Nat) : ∀ x : Int, 0 ≤ x → x < 128 ^ (d + 1) → ByL (varL d x) := by
  induction d with
  | zero => intro x h0 h1 y hy; simp only [varL, List.mem_singleton] at hy; omega
  | succ d ih =>
    intro x h0 h1 y hy
    unfold varL at hy
    split at hy
    · rcases List.mem_cons.1 hy with rfl | hy
      · omega
      · exact ih (x / 128) (by omega) (by rw [Int.pow_succ] at h1; omega) y hy
    · simp only [List.mem_singleton] at hy; omega
theorem take_of_var (s : ByteArray) (d : Nat) : ∀ (x n : Int) (i : Nat), 0 ≤ x → x < 128 ^ (d + 1) → (x = 0 → i = 0) → i + (varL d x).length ≤ s.size →
    (∀ j : Nat, ∀ h : j < (varL d x).length, bt s ((i + j : Nat) : Int) = (varL d x)[j]) → takeR s (d + 1) n i = (n + x * 128 ^ i, ((i + (varL d x).length : Nat) : Int)) := by
  induction d with
  | zero =>
    intro x n i h0 h1 hz hs hb
    have hl : (varL 0 x).length = 1 := rfl
    have e := hb 0 (by omega)
    simp only [varL, Nat.add_zero, List.getElem_cons_zero] at e
    unfold takeR
    rw [if_pos (by omega), if_pos (by omega), if_neg (fun h => by have := hz (by omega); omega), e, hl]
    simp
  | succ d ih =>
    intro x n i h0 h1 hz hs hb
    by_cases hx : x ≥ 128
    · have e : varL (d + 1) x = (x % 128 + 128) :: varL d (x / 128) := by simp [varL, hx]
      have hlen : (varL (d + 1) x).length = (varL d (x / 128)).length + 1 := by rw [e]; rfl
      have e0 := hb 0 (by omega)
      simp only [e, Nat.add_zero, List.getElem_cons_zero] at e0
      have := ih (x / 128) (n + (x % 128) * 128 ^ i) (i + 1) (by omega) (by rw [Int.pow_succ] at h1; omega) (by omega) (by omega) (fun j hj => by
        have := hb (j + 1) (by omega)
        simp only [e, List.getElem_cons_succ] at this
        rw [show i + 1 + j = i + (j + 1) by omega]; exact this)
      unfold takeR
      rw [if_pos (by omega), if_neg (by omega), e0, show (x % 128 + 128) % 128 = x % 128 by omega, this, hlen]
      have e2 : n + x % 128 * 128 ^ i + x / 128 * 128 ^ (i + 1) = n + x * 128 ^ i := by
        rw [Int.pow_succ, Int.add_assoc, Int.mul_comm ((128 : Int) ^ i) 128, ← Int.mul_assoc, ← Int.add_mul, show x % 128 + x / 128 * 128 = x by omega]
      rw [e2, show i + 1 + (varL d (x / 128)).length = i + ((varL d (x / 128)).length + 1) by omega]
    · have e : varL (d + 1) x = [x] := by simp [varL, hx]
      have hlen : (varL (d + 1) x).length = 1 := by rw [e]; rfl
      have e0 := hb 0 (by omega)
      simp only [e, Nat.add_zero, List.getElem_cons_zero] at e0
      unfold takeR
      rw [if_pos (by omega), if_pos (by omega), if_neg (fun h => by have := hz (by omega); omega), e0, hlen]
      simp
theorem var_of_take (s : ByteArray) (d : Nat) : ∀ (n : Int) (i : Nat), (takeR s (d + 1) n i).2 ≠ 0 →
    ∃ x : Int, 0 ≤ x ∧ (x = 0 → i = 0) ∧ x < 128 ^ (d + 1) ∧ (takeR s (d + 1) n i).1 = n + x * 128 ^ i ∧ (takeR s (d + 1) n i).2 = ((i + (varL d x).length : Nat) : Int) ∧ i + (varL d x).length ≤ s.size ∧
      ∀ j : Nat, ∀ h : j < (varL d x).length, bt s ((i + j : Nat) : Int) = (varL d x)[j] := by
  induction d with
  | zero =>
    intro n i hk
    obtain ⟨b0, b1⟩ := bt_range s i
    unfold takeR at hk ⊢
    by_cases hi : (i : Int) < (s.size : Int)
    · rw [if_pos hi] at hk ⊢
      by_cases hb : bt s i < 128
      · rw [if_pos hb] at hk ⊢
        by_cases hz : i > 0 ∧ bt s i = 0
        · rw [if_pos hz] at hk; exact absurd rfl hk
        · rw [if_neg hz]
          refine ⟨bt s i, b0, fun h => by by_cases g : i = 0; exact g; exact absurd ⟨by omega, h⟩ hz, by simpa using hb, rfl, rfl, by simp [varL]; omega, fun j hj => ?_⟩
          obtain rfl : j = 0 := by simp [varL] at hj; exact hj
          rfl
      · rw [if_neg hb] at hk; exact absurd rfl hk
    · rw [if_neg hi] at hk; exact absurd rfl hk
  | succ d ih =>
    intro n i hk
    obtain ⟨b0, b1⟩ := bt_range s i
    have hp : (128 : Int) ≤ 128 ^ (d + 1 + 1) := by have := pow128_pos (d + 1); rw [Int.pow_succ]; omega
    unfold takeR at hk ⊢
    by_cases hi : (i : Int) < (s.size : Int)
    · rw [if_pos hi] at hk ⊢
      by_cases hb : bt s i < 128
      · rw [if_pos hb] at hk ⊢
        have e : varL (d + 1) (bt s i) = [bt s i] := by simp [varL]; omega
        by_cases hz : i > 0 ∧ bt s i = 0
        · rw [if_pos hz] at hk; exact absurd rfl hk
        · rw [if_neg hz]
          refine ⟨bt s i, b0, fun h => by by_cases g : i = 0; exact g; exact absurd ⟨by omega, h⟩ hz, by omega, rfl, by rw [e]; rfl, by rw [e]; simp; omega, fun j hj => ?_⟩
          simp only [e] at hj ⊢
          obtain rfl : j = 0 := by simpa using hj
          rfl
      · rw [if_neg hb] at hk ⊢
        obtain ⟨x, h1, h2, h3, h4, h5, h6, h7⟩ := ih _ _ hk
        have hx : x ≠ 0 := fun h => by have := h2 h; omega
        have e : varL (d + 1) (bt s i % 128 + x * 128) = bt s i :: varL d x := by
          show (if bt s i % 128 + x * 128 ≥ 128 then ((bt s i % 128 + x * 128) % 128 + 128) :: varL d ((bt s i % 128 + x * 128) / 128) else [bt s i % 128 + x * 128]) = _
          rw [if_pos (by omega), show (bt s i % 128 + x * 128) % 128 + 128 = bt s i by omega, show (bt s i % 128 + x * 128) / 128 = x by omega]
        refine ⟨bt s i % 128 + x * 128, by omega, fun h => by omega, by rw [Int.pow_succ]; omega, ?_, ?_, ?_, ?_⟩
        · rw [h4, Int.pow_succ, Int.add_assoc, Int.mul_comm ((128 : Int) ^ i) 128, ← Int.mul_assoc, ← Int.add_mul]
        · rw [h5, e]; simp only [List.length_cons]; congr 1; omega
        · rw [e]; simp only [List.length_cons]; omega
        · intro j hj
          simp only [e] at hj ⊢
          cases j with
          | zero => rfl
          | succ j => simp only [List.getElem_cons_succ]; rw [show i + (j + 1) = i + 1 + j by omega]; exact h7 j (by simpa using hj)
    · rw [if_neg hi] at hk; exact absurd rfl hk
theorem ba_ext {s t : ByteArray} (hl : s.size = t.size) (h : ∀ i : Nat, i < s.size → bt s (i : Int) = bt t (i : Int)) : s = t := by
  apply ByteArray.ext_getElem hl
  intro i h1 h2
  have := h i h1
  unfold bt at this
  rw [dif_pos (by simpa using h1), dif_pos (by simpa using h2)] at this
  simp only [Int.toNat_natCast] at this
  exact UInt8.toNat_inj.1 (by omega)
theorem bt_left (s t : ByteArray) (i : Nat) (h : i < s.size) : bt (s ++ t) (i : Int) = bt s (i : Int) := by
  unfold bt
  rw [dif_pos (by rw [ByteArray.size_append]; simp; omega), dif_pos (by simpa using h)]
  congr 2
  exact ByteArray.getElem_append_left (by simpa using h)
theorem bt_ext0 (s : ByteArray) (b i : Nat) (h : i < b) (hb : b ≤ s.size) : bt (s.extract 0 b) (i : Int) = bt s (i : Int) := by
  unfold bt
  rw [dif_pos (by rw [ByteArray.size_extract]; simp; omega), dif_pos (by simp; omega)]
  congr 2
  rw [ByteArray.getElem_extract]
  congr 1; simp
theorem pow128_9 : (128 : Int) ^ 9 = 9223372036854775808 := rfl
theorem bt_varB {x : Int} (h0 : 0 ≤ x) (h1 : x ≤ 9223372036854775807) (j : Nat) (h : j < (varL 8 x).length) : bt (varB x) (j : Int) = (varL 8 x)[j] := by
  unfold varB
  rw [bt_strOfNums (varL_by 8 x h0 (by rw [pow128_9]; omega))]
  unfold rd
  rw [List.getD_eq_getElem?_getD, Int.toNat_natCast, List.getElem?_eq_getElem h]; rfl
theorem takeV_var {x : Int} (h0 : 0 ≤ x) (h1 : x ≤ 9223372036854775807) (t : ByteArray) : takeV (varB x ++ t) = (x, ((varB x).size : Int)) := by
  have hs : (varB x).size = (varL 8 x).length := by unfold varB; rw [strOfNums_size]
  have := take_of_var (varB x ++ t) 8 x 0 0 h0 (by rw [pow128_9]; omega) (fun _ => rfl) (by rw [ByteArray.size_append]; omega) (fun j hj => by
    rw [Nat.zero_add, bt_left _ _ _ (by omega), bt_varB h0 h1 j hj])
  unfold takeV
  rw [this, hs]; simp
theorem varB_take (t : ByteArray) (h : (takeV t).2 ≠ 0) : varB (takeV t).1 = t.extract 0 (takeV t).2.toNat := by
  obtain ⟨x, h1, h2, h3, h4, h5, h6, h7⟩ := var_of_take t 8 0 0 h
  rw [pow128_9] at h3
  have e1 : (takeV t).1 = x := by unfold takeV; rw [h4]; simp
  have e2 : (takeV t).2.toNat = (varL 8 x).length := by unfold takeV; rw [h5]; simp
  rw [e1, e2]
  rw [Nat.zero_add] at h6
  have hs : (varB x).size = (varL 8 x).length := by unfold varB; rw [strOfNums_size]
  refine ba_ext (by rw [hs, ByteArray.size_extract]; omega) (fun i hi => ?_)
  rw [bt_ext0 _ _ _ (by omega) h6, bt_varB h1 (by omega) i (by omega)]
  have := h7 i (by omega)
  rw [Nat.zero_add] at this
  exact this.symm

-- part drawTake needs spec_DrawTakeVar.f
theorem draw_take {l : List Int} (hl : ByL l) : ∃ t, Ev (fun k => spec_DrawTakeVar.f k l) t ∧ t.size ≤ 20 := by
  obtain ⟨n, en, hn0, hn1⟩ := draw_var hl
  have hv : ∃ v : ByteArray × Bool, Ev (fun k => spec_VarBytes.f k n) v ∧ v.1.size ≤ 9 := by
    unfold spec_VarBytes.f
    by_cases h : n < 0
    · exact ⟨_, by simp only [if_pos h]; exact Ev.now _, by simp; decide⟩
    · exact ⟨_, by simp only [if_neg h]; exact Ev.bind (spec_var (by omega) hn1) (Ev.now _), (varB_size n).2⟩
  obtain ⟨v, ev, hv⟩ := hv
  obtain ⟨c, a, s, e, h1, h2, h3, h4, h5⟩ := draw_pick hl 0 0 4 (by omega) (by omega)
  unfold spec_DrawTakeVar.f
  by_cases hc : c = 0
  · obtain ⟨t, a1, s1, e1, h6, h7, h8⟩ := draw_of hl a s (by omega) (by omega) [(⟨#[]⟩ : ByteArray), (⟨#[128]⟩ : ByteArray), (⟨#[128, 0]⟩ : ByteArray), (⟨#[255, 255, 255, 255, 255, 255, 255, 255, 255, 1]⟩ : ByteArray), (⟨#[255, 255, 255, 255, 255, 255, 255, 255, 127]⟩ : ByteArray)] (by decide)
    refine ⟨t, Ev.bind en (Ev.bind ev ?_), ?_⟩
    · rw [e]; refine Ev.some_ (Ev.pos_ hc ?_); rw [e1]; exact Ev.some_ (Ev.now _)
    · simp only [List.mem_cons, List.not_mem_nil, or_false] at h8
      rcases h8 with rfl | rfl | rfl | rfl | rfl <;> decide
  by_cases hc1 : c = 1
  · obtain ⟨t, a1, s1, e1, h6, h7, h8⟩ := draw_text hl a s 3 (by omega) (by omega) (by omega) (by omega)
    refine ⟨v.1 ++ t, Ev.bind en (Ev.bind ev ?_), by rw [ByteArray.size_append]; omega⟩
    rw [e]; exact Ev.some_ (Ev.neg_ hc (Ev.pos_ hc1 (Ev.bind e1 (Ev.pos_ (by simp only; omega) (Ev.now _)))))
  · refine ⟨v.1, Ev.bind en (Ev.bind ev ?_), by omega⟩
    rw [e]; exact Ev.some_ (Ev.neg_ hc (Ev.neg_ hc1 (Ev.now _)))

theorem vars2 (l : List Int) (hl : ByL l) : Ev (fun k => laws_FnVars.j1 k l) true := by
  obtain ⟨t, et, ht⟩ := draw_take hl
  have eT : Ev (fun k => spec_TakeVar.f k t) (takeV t) := by unfold spec_TakeVar.f; exact Ev.bind (spec_take t) (Ev.now _)
  obtain ⟨g1, g2, g3, g4, g5, g6⟩ := takeV_range t
  refine Ev.step (fun k => by rw [laws_FnVars.j1]) ?_
  refine Ev.bind et (Ev.bind (impl_take t) (Ev.bind eT (Ev.pos_ rfl ?_)))
  simp only [bne_self_eq_false]
  refine Ev.step (fun k => by rw [laws_FnVars.j2]) ?_
  refine Ev.neg_ (by decide) (Ev.ite_ (fun h => ?_) (fun h => ?_))
  · rw [g6 h]; exact Ev.now _
  · refine Ev.bind (a := (varB (takeV t).1, true)) ?_ ?_
    · unfold impl_VarBytes.f
      exact Ev.neg_ (by omega) (Ev.bind (impl_var g1 g2) (Ev.now _))
    · refine Ev.pos_ rfl (Ev.pos_ g3 (Ev.pos_ g5 ?_))
      rw [varB_take t h]; simp only [beq_self_eq_true]; exact Ev.now _
theorem FnVars : laws_FnVars.Pure := by
  intro l0 l1 _ _ h0 _ _ h1
  apply Ev.rounds (r := true)
  unfold laws_FnVars.f
  refine Ev.ite_ (fun _ => Ev.now _) (fun _ => ?_)
  obtain ⟨n, en, hn0, hn1⟩ := draw_var (byL h0)
  refine Ev.bind en ?_
  by_cases hn : n < 0
  · have e1 : Ev (fun k => impl_VarBytes.f k n) ((⟨#[]⟩ : ByteArray), false) := by unfold impl_VarBytes.f; exact Ev.pos_ hn (Ev.now _)
    have e2 : Ev (fun k => spec_VarBytes.f k n) ((⟨#[]⟩ : ByteArray), false) := by unfold spec_VarBytes.f; exact Ev.pos_ hn (Ev.now _)
    refine Ev.bind e1 (Ev.bind e2 (Ev.neg_ (by simp) ?_))
    simp only [bne_self_eq_false]
    refine Ev.step (fun k => by rw [laws_FnVars.j0]) ?_
    exact Ev.neg_ (by decide) (Ev.neg_ (by decide) (vars2 l1 (byL h1)))
  · have e1 : Ev (fun k => impl_VarBytes.f k n) (varB n, true) := by unfold impl_VarBytes.f; exact Ev.neg_ hn (Ev.bind (impl_var (by omega) hn1) (Ev.now _))
    have e2 : Ev (fun k => spec_VarBytes.f k n) (varB n, true) := by unfold spec_VarBytes.f; exact Ev.neg_ hn (Ev.bind (spec_var (by omega) hn1) (Ev.now _))
    refine Ev.bind e1 (Ev.bind e2 (Ev.neg_ (by simp) ?_))
    simp only [bne_self_eq_false]
    refine Ev.step (fun k => by rw [laws_FnVars.j0]) ?_
    have hs := varB_size n
    refine Ev.neg_ (by decide) (Ev.pos_ rfl (Ev.pos_ (by omega) (Ev.bind (impl_take _) ?_)))
    rw [takeV_var (by omega) hn1]
    exact Ev.pos_ rfl (Ev.pos_ rfl (vars2 l1 (byL h1)))

end Go.Proofs.Ythbbobokacakjaa.Pure
