/-
  The plain statement of the law FnFrames, proved: over numbers and lists alone. No condition beyond the given ones.
-/
import Derived.Test.YthbbobokacakjaaMFnFramesx7
namespace Go.Proofs.Ythbbobokacakjaa.Pure
open Go Go.RowKit Go.Proofs.Ythbbobokacakjaa.MFnFrames Go.Proofs.YthbbobokacakjaaW.PrintWords Go.Proofs.YthbbobokacakjaaW.PrintLast Go.Proofs.YthbbobokacakjaaW.PrintMore
set_option linter.unusedVariables false
set_option linter.unusedSimpArgs false

-- part base: plain facts on Go's numbers and on rounds
theorem lt_mn {i a b : Int} : i < mn a b ↔ i < a ∧ i < b := by unfold mn; split <;> omega
theorem mn_le {a b : Int} : mn a b ≤ a ∧ mn a b ≤ b := by unfold mn; split <;> omega
theorem w64 {n : Int} (h0 : -9223372036854775808 ≤ n) (h1 : n ≤ 9223372036854775807) : wrap64 n = n := by unfold wrap64; omega
theorem wrap_u64 (n : Int) : IntKind.u64.wrap n = n % 18446744073709551616 := by simp [IntKind.wrap, IntKind.bits, IntKind.signed]
theorem wu64 {n : Int} (h0 : 0 ≤ n) (h1 : n ≤ 18446744073709551615) : IntKind.u64.wrap n = n := by rw [wrap_u64]; omega
theorem wu32 {n : Int} (h0 : 0 ≤ n) (h1 : n ≤ 4294967295) : IntKind.u32.wrap n = n := by rw [IntKind.wrap_u32]; omega
theorem wraps_u32 (n : Int) (h₀ : 0 ≤ n) (h₁ : n < 2 ^ 32) : IntKind.u32.wrap n = n := by rw [IntKind.wrap_u32]; omega
theorem wraps_i64 (n : Int) (h₀ : 0 ≤ n) (h₁ : n < 2 ^ 63) : IntKind.i64.wrap n = n := by rw [IntKind.wrap_i64]; omega
theorem and127 {b : Int} (h0 : 0 ≤ b) (h1 : b ≤ 255) : Go.bits .and .u8 b 127 = b % 128 := bits_mask .u8 8 (by decide) wraps_u8 7 (by decide) b h0 (by omega)
theorem wf_i64 {n : Int} (h : (Lit.int .i64 n).wf = true) : -9223372036854775808 ≤ n ∧ n ≤ 9223372036854775807 := by
  simp only [Lit.wf, Bool.and_eq_true, decide_eq_true_eq] at h
  exact h
theorem wf_u32 {n : Int} (h : (Lit.int .u32 n).wf = true) : 0 ≤ n ∧ n ≤ 4294967295 := by
  simp only [Lit.wf, Bool.and_eq_true, decide_eq_true_eq] at h
  exact h
theorem bits_or_comm (k : IntKind) (x y : Int) : Go.bits .or k x y = Go.bits .or k y x := by
  simp only [Go.bits, BitVec.or_comm]
theorem and127i {b : Int} (h0 : 0 ≤ b) (h1 : b ≤ 9223372036854775807) : Go.bits .and .i64 b 127 = b % 128 := bits_mask .i64 63 (by decide) wraps_i64 7 (by decide) b h0 (by omega)
theorem or128i {b : Int} (h0 : 0 ≤ b) (h1 : b < 128) : Go.bits .or .i64 b 128 = b + 128 := by
  rw [bits_or_comm, bits_join .i64 63 (by decide) wraps_i64 7 128 b (by omega) (by omega) (by omega) h0 (by omega) (by omega)]; omega
theorem Ev.ite_ {α : Type} {c : Prop} [Decidable c] {g f : Nat → Option α} {r : α} (h : c → Ev g r) (k : ¬c → Ev f r) : Ev (fun n => if c then g n else f n) r := by
  by_cases hc : c
  · simp only [if_pos hc]; exact h hc
  · simp only [if_neg hc]; exact k hc
theorem Ev.pos_ {α : Type} {c : Prop} [Decidable c] {g f : Nat → Option α} {r : α} (hc : c) (h : Ev g r) : Ev (fun n => if c then g n else f n) r := by simp only [if_pos hc]; exact h
theorem Ev.neg_ {α : Type} {c : Prop} [Decidable c] {g f : Nat → Option α} {r : α} (hc : ¬c) (h : Ev f r) : Ev (fun n => if c then g n else f n) r := by simp only [if_neg hc]; exact h
theorem Ev.some_ {α β : Type} {f : Nat → α → Option β} {x : α} {r : β} (h : Ev (fun n => f n x) r) : Ev (fun n => (some x).bind (f n)) r := by simpa only [Option.bind_some] using h
theorem bo_and (b c : Bool) : (if b = true then some c else some false) = some (b && c) := by cases b <;> rfl
theorem bo_andP (p : Prop) [Decidable p] (c : Bool) : (if p then some c else some false) = some (decide p && c) := by by_cases h : p <;> simp [h]
theorem bo_orP (p : Prop) [Decidable p] (c : Bool) : (if p then some true else some c) = some (decide p || c) := by by_cases h : p <;> simp [h]
theorem bo_or (b c : Bool) : (if b = true then some true else some c) = some (b || c) := by cases b <;> rfl
def inB (a lo hi : Int) : Bool := decide (lo ≤ a) && decide (a ≤ hi)
theorem inB_iff {a lo hi : Int} : inB a lo hi = true ↔ lo ≤ a ∧ a ≤ hi := by simp [inB]

-- part listM: loops over lists by their index
def mkL {α : Type} (enc : Int → α) (c : Int) : Nat → Int → List α
  | 0, _ => []
  | d + 1, m => enc m :: mkL enc c d (m + c)
theorem mkL_len {α : Type} (enc : Int → α) (c : Int) : ∀ (d : Nat) (m : Int), (mkL enc c d m).length = d := by
  intro d; induction d with
  | zero => intro m; rfl
  | succ d ih => intro m; simp [mkL, ih]
theorem mark_gen {α : Type} (L : Nat → List α → Int → Int → Option (Int × List α)) (enc : Int → α) (c B : Int) (hc : 0 ≤ c)
    (hstep : ∀ (xs : List α) (m : Int) (i : Nat) (r : Int × List α), 0 < m → m + c ≤ B → i < xs.length → xs.length ≤ 140737488351232 → Ev (fun k => L k (xs.set i (enc m)) (m + c) ((i + 1 : Nat) : Int)) r → Ev (fun k => L k xs m (i : Int)) r)
    (hend : ∀ (xs : List α) (m : Int), Ev (fun k => L k xs m (xs.length : Int)) (m, xs)) :
    ∀ (d : Nat) (xs : List α) (m : Int) (i : Nat), i + d = xs.length → 0 < m → m + c * d ≤ B → xs.length ≤ 140737488351232 → Ev (fun k => L k xs m (i : Int)) (m + c * d, xs.take i ++ mkL enc c d m) := by
  intro d
  induction d with
  | zero =>
    intro xs m i hi hm hB hl
    have := hend xs m
    obtain rfl : i = xs.length := by omega
    simpa [mkL] using this
  | succ d ih =>
    intro xs m i hi hm hB hl
    have hcd : c * ((d + 1 : Nat) : Int) = c * d + c := by rw [Int.natCast_add, Int.mul_add]; simp
    have hcd0 : 0 ≤ c * (d : Int) := Int.mul_nonneg hc (by omega)
    refine hstep xs m i _ hm (by omega) (by omega) hl ?_
    have := ih (xs.set i (enc m)) (m + c) (i + 1) (by simp; omega) (by omega) (by omega) (by simpa using hl)
    have e : (xs.set i (enc m)).take (i + 1) ++ mkL enc c d (m + c) = xs.take i ++ mkL enc c (d + 1) m := by
      rw [List.take_set, List.take_succ_eq_append_getElem (by omega), List.set_append_right _ _ (by simp; omega)]
      simp [mkL, Nat.min_eq_left (show i ≤ xs.length by omega)]
    rw [e] at this
    rw [show m + c * ((d + 1 : Nat) : Int) = m + c + c * d by omega]
    exact this
theorem held_gen {α : Type} (H : Nat → List α → Int → Int → Option Int) (enc : Int → α) (c B : Int) (hc : 0 ≤ c)
    (hstep : ∀ (xs : List α) (m : Int) (i : Nat) (r : Int), 0 < m → m + c ≤ B → i < xs.length → xs.length ≤ 140737488351232 → xs[i]? = some (enc m) → Ev (fun k => H k xs (m + c) ((i + 1 : Nat) : Int)) r → Ev (fun k => H k xs m (i : Int)) r)
    (hend : ∀ (xs : List α) (m : Int), Ev (fun k => H k xs m (xs.length : Int)) m) :
    ∀ (d : Nat) (pre : List α) (m : Int), 0 < m → m + c * d ≤ B → pre.length + d ≤ 140737488351232 → Ev (fun k => H k (pre ++ mkL enc c d m) m (pre.length : Int)) (m + c * d) := by
  intro d
  induction d with
  | zero =>
    intro pre m hm hB hl
    have := hend pre m
    simpa [mkL] using this
  | succ d ih =>
    intro pre m hm hB hl
    have hcd : c * ((d + 1 : Nat) : Int) = c * d + c := by rw [Int.natCast_add, Int.mul_add]; simp
    have hcd0 : 0 ≤ c * (d : Int) := Int.mul_nonneg hc (by omega)
    refine hstep _ m pre.length _ hm (by omega) (by simp [mkL]) (by simp [mkL_len]; omega) (by simp [mkL]) ?_
    have := ih (pre ++ [enc m]) (m + c) (by omega) (by omega) (by simp; omega)
    rw [show m + c * ((d + 1 : Nat) : Int) = m + c + c * d by omega]
    simpa [mkL] using this
theorem to_gen {α β : Type} (L : Nat → List α → List β → Int → Option (List β)) (f : α → β) (z : β) (za : α)
    (hstep : ∀ (xs : List α) (ys : List β) (i : Nat) (r : List β), i < xs.length → i < ys.length → xs.length ≤ 140737488351232 → Ev (fun k => L k xs (ys.set i (f (xs.getD i za))) ((i + 1 : Nat) : Int)) r → Ev (fun k => L k xs ys (i : Int)) r)
    (hend : ∀ (xs : List α) (ys : List β), Ev (fun k => L k xs ys (xs.length : Int)) ys) :
    ∀ (d : Nat) (xs : List α) (i : Nat), i + d = xs.length → xs.length ≤ 140737488351232 → Ev (fun k => L k xs ((xs.take i).map f ++ List.replicate d z) (i : Int)) (xs.map f) := by
  intro d
  induction d with
  | zero =>
    intro xs i hi hl
    obtain rfl : i = xs.length := by omega
    have := hend xs (xs.map f)
    simpa using this
  | succ d ih =>
    intro xs i hi hl
    refine hstep xs _ i _ (by omega) (by simp; omega) hl ?_
    have := ih xs (i + 1) (by omega) hl
    have e : ((xs.take i).map f ++ List.replicate (d + 1) z).set i (f (xs.getD i za)) = (xs.take (i + 1)).map f ++ List.replicate d z := by
      have h0 : i - ((xs.take i).map f).length = 0 := by simp; omega
      rw [List.take_succ_eq_append_getElem (show i < xs.length by omega), List.map_append, List.set_append_right _ _ (by simp; omega), List.append_assoc, h0]
      congr 1
      simp [List.replicate_succ, List.getD_eq_getElem?_getD, List.getElem?_eq_getElem (show i < xs.length by omega)]
    rw [e]
    exact this
theorem eq_gen {α : Type} (E : Nat → List α → List α → Int → Option Bool)
    (hstep : ∀ (xs : List α) (i : Nat), i < xs.length → xs.length ≤ 140737488351232 → Ev (fun k => E k xs xs ((i + 1 : Nat) : Int)) true → Ev (fun k => E k xs xs (i : Int)) true)
    (hend : ∀ (xs : List α), Ev (fun k => E k xs xs (xs.length : Int)) true) :
    ∀ (d : Nat) (xs : List α) (i : Nat), i + d = xs.length → xs.length ≤ 140737488351232 → Ev (fun k => E k xs xs (i : Int)) true := by
  intro d
  induction d with
  | zero => intro xs i hi hl; obtain rfl : i = xs.length := by omega
            exact hend xs
  | succ d ih => intro xs i hi hl; exact hstep xs i (by omega) hl (ih xs (i + 1) (by omega) hl)
theorem sz_gen {α : Type} (Z : Nat → List α → Int → Int → Option Int)
    (hstep : ∀ (xs : List α) (m : Int) (i : Nat), i < xs.length → xs.length ≤ 140737488351232 → (∀ m', ∃ r, Ev (fun k => Z k xs m' ((i + 1 : Nat) : Int)) r) → ∃ r, Ev (fun k => Z k xs m (i : Int)) r)
    (hend : ∀ (xs : List α) (m : Int), ∃ r, Ev (fun k => Z k xs m (xs.length : Int)) r) :
    ∀ (d : Nat) (xs : List α) (m : Int) (i : Nat), i + d = xs.length → xs.length ≤ 140737488351232 → ∃ r, Ev (fun k => Z k xs m (i : Int)) r := by
  intro d
  induction d with
  | zero => intro xs m i hi hl; obtain rfl : i = xs.length := by omega
            exact hend xs m
  | succ d ih => intro xs m i hi hl; exact hstep xs m i (by omega) hl (fun m' => ih xs m' (i + 1) (by omega) hl)
theorem wi {i n : Nat} (h : i < n) (hn : n ≤ 140737488351232) : wrap64 ((i : Int) + 1) = ((i + 1 : Nat) : Int) := by rw [w64 (by omega) (by omega)]; omega
theorem rd_nat (xs : List Int) (i : Nat) : rd xs (i : Int) = xs.getD i 0 := by unfold rd; rw [Int.toNat_natCast]
theorem rdOf_nat {α : Type} (d : α) (xs : List α) (i : Nat) : rdOf d xs (i : Int) = xs.getD i d := by unfold rdOf; rw [Int.toNat_natCast]
theorem getD_of {α : Type} {xs : List α} {i : Nat} {a : α} (d : α) (h : xs[i]? = some a) : xs.getD i d = a := by rw [List.getD_eq_getElem?_getD, h]; rfl

-- part varM: a number's bytes, as a list of numbers
def varL : Nat → Int → List Int
  | 0, x => [x]
  | d + 1, x => if x ≥ 128 then (x % 128 + 128) :: varL d (x / 128) else [x]
def varB (x : Int) : ByteArray := strOfNums (varL 8 x)
theorem varL_len (d : Nat) : ∀ x : Int, 1 ≤ (varL d x).length ∧ (varL d x).length ≤ d + 1 := by
  induction d with
  | zero => intro x; simp [varL]
  | succ d ih =>
    intro x
    unfold varL
    split
    · have := ih (x / 128); simp only [List.length_cons]; omega
    · simp
theorem varB_size (x : Int) : 1 ≤ (varB x).size ∧ (varB x).size ≤ 9 := by
  have := varL_len 8 x; unfold varB; rw [strOfNums_size]; exact this

-- part specVar needs spec_l2Var.f
theorem spec_var_l (d : Nat) : ∀ (x : Int) (acc : List Int), 0 ≤ x → x < 128 ^ (d + 1) → x ≤ 9223372036854775807 → acc.length + d < 1000 →
    Ev (fun k => spec_l2Var.l0 k x acc) (strOfNums (acc ++ varL d x)) := by
  induction d with
  | zero =>
    intro x acc h0 h1 hx ha
    refine Ev.step (f := fun _ => some (strOfNums (acc ++ varL 0 x))) (fun k => ?_) (Ev.now _)
    simp only [spec_l2Var.l0]
    rw [if_neg (by omega), if_pos (by omega), Int.emod_eq_of_lt h0 (by omega)]; rfl
  | succ d ih =>
    intro x acc h0 h1 hx ha
    by_cases hb : x ≥ 128
    · have := ih (x / 128) (acc ++ [x % 128 + 128]) (by omega) (by rw [Int.pow_succ] at h1; omega) (by omega) (by simp; omega)
      have e : acc ++ varL (d + 1) x = acc ++ [x % 128 + 128] ++ varL d (x / 128) := by simp [varL, hb]
      rw [e]
      refine Ev.step (fun k => ?_) this
      simp only [spec_l2Var.l0]
      rw [if_pos (by omega), if_pos (by omega), and127i h0 hx, or128i (by omega) (by omega), Int.emod_eq_of_lt (by omega) (by omega)]
    · refine Ev.step (f := fun _ => some (strOfNums (acc ++ varL (d + 1) x))) (fun k => ?_) (Ev.now _)
      simp only [spec_l2Var.l0, varL]
      rw [if_neg (by omega), if_pos (by omega), if_neg (by omega), Int.emod_eq_of_lt h0 (by omega)]
theorem spec_var {x : Int} (h0 : 0 ≤ x) (hx : x ≤ 9223372036854775807) : Ev (fun k => spec_l2Var.f k x) (varB x) :=
  spec_var_l 8 x [] h0 (by omega) hx (by simp)

-- part implVar needs impl_varBytes.f
theorem impl_var_l (d : Nat) : ∀ (x : Int) (acc : List Int), 0 ≤ x → x < 128 ^ (d + 1) → x ≤ 9223372036854775807 → acc.length + d < 1000 →
    Ev (fun k => impl_varBytes.l0 k x acc) (strOfNums (acc ++ varL d x)) := by
  induction d with
  | zero =>
    intro x acc h0 h1 hx ha
    refine Ev.step (f := fun _ => some (strOfNums (acc ++ varL 0 x))) (fun k => ?_) (Ev.now _)
    simp only [impl_varBytes.l0]
    rw [if_neg (by omega), if_pos (by omega), Int.emod_eq_of_lt h0 (by omega)]; rfl
  | succ d ih =>
    intro x acc h0 h1 hx ha
    by_cases hb : x ≥ 128
    · have := ih (x / 128) (acc ++ [x % 128 + 128]) (by omega) (by rw [Int.pow_succ] at h1; omega) (by omega) (by simp; omega)
      have e : acc ++ varL (d + 1) x = acc ++ [x % 128 + 128] ++ varL d (x / 128) := by simp [varL, hb]
      rw [e]
      refine Ev.step (fun k => ?_) this
      simp only [impl_varBytes.l0]
      rw [if_pos (by omega), if_pos (by omega), Int.tdiv_eq_ediv_of_nonneg h0, Int.tmod_eq_emod_of_nonneg h0, w64 (by omega) (by omega)]
      rw [show (x % 128 + 128) % 256 = x % 128 + 128 by omega]
    · refine Ev.step (f := fun _ => some (strOfNums (acc ++ varL (d + 1) x))) (fun k => ?_) (Ev.now _)
      simp only [impl_varBytes.l0, varL]
      rw [if_neg (by omega), if_pos (by omega), if_neg (by omega), Int.emod_eq_of_lt h0 (by omega)]
theorem impl_var {x : Int} (h0 : 0 ≤ x) (hx : x ≤ 9223372036854775807) : Ev (fun k => impl_varBytes.f k x) (varB x) :=
  impl_var_l 8 x [] h0 (by omega) hx (by simp)

-- part takeM: the number at a text's front
def takeR (s : ByteArray) : Nat → Int → Nat → Int × Int
  | 0, _, _ => (0, 0)
  | d + 1, n, i => if (i : Int) < (s.size : Int) then
      (if bt s i < 128 then (if i > 0 ∧ bt s i = 0 then (0, 0) else (n + bt s i * 128 ^ i, (i : Int) + 1))
        else takeR s d (n + (bt s i % 128) * 128 ^ i) (i + 1))
      else (0, 0)
def takeV (s : ByteArray) : Int × Int := takeR s 9 0 0
theorem pow128 (i : Nat) : (128 : Int) ^ i = 2 ^ (7 * i) := by rw [Int.pow_mul]; rfl
theorem pow128_pos (i : Nat) : (0 : Int) < 128 ^ i := Int.pow_pos (by decide)
theorem pow128_le {i : Nat} (h : i ≤ 9) : (128 : Int) ^ i ≤ 9223372036854775808 := by
  have : ∀ j : Nat, j < 10 → (128 : Int) ^ j ≤ 9223372036854775808 := by decide
  exact this i (by omega)
theorem or_shl {n c : Int} {i : Nat} (hn : 0 ≤ n) (hn' : n < 128 ^ i) (hc : 0 ≤ c) (hc' : c < 128) (hi : i ≤ 8) : Go.bits .or .i64 n (shl .i64 c (7 * (i : Int))) = n + c * 128 ^ i := by
  have hp := pow128_pos i
  have h9 := pow128_le (i := i + 1) (by omega)
  rw [Int.pow_succ] at h9
  have hlt : c * 128 ^ i < 9223372036854775808 := by
    have : c * 128 ^ i ≤ 127 * 128 ^ i := Int.mul_le_mul_of_nonneg_right (by omega) (by omega)
    omega
  have h0 : 0 ≤ c * 128 ^ i := Int.mul_nonneg hc (by omega)
  have e : shl .i64 c (7 * (i : Int)) = c * 128 ^ i := by
    unfold shl
    rw [show min (7 * (i : Int)).toNat IntKind.i64.bits = 7 * i by simp only [IntKind.bits]; omega, ← pow128]
    exact wraps_i64 _ h0 hlt
  have h8 := pow128_le (i := i) (by omega)
  rw [e, bits_or_comm, bits_join .i64 63 (by decide) wraps_i64 (7 * i) (c * 128 ^ i) n h0 (by rw [pow128]; exact Int.mul_emod_left _ _) hlt hn (by rw [← pow128]; exact hn') (by have : (2 : Int) ^ 63 = 9223372036854775808 := rfl; omega)]
  omega
theorem acc_lt {n c : Int} {i : Nat} (hn' : n < 128 ^ i) (hc' : c < 128) (hc : 0 ≤ c) : n + c * 128 ^ i < 128 ^ (i + 1) := by
  have hp := pow128_pos i
  have : c * 128 ^ i ≤ 127 * 128 ^ i := Int.mul_le_mul_of_nonneg_right (by omega) (by omega)
  rw [Int.pow_succ]; omega
theorem takeR_range (s : ByteArray) (d : Nat) : ∀ (n : Int) (i : Nat), 0 ≤ n → n < 128 ^ i → i + d = 9 →
    0 ≤ (takeR s d n i).1 ∧ (takeR s d n i).1 ≤ 9223372036854775807 ∧ 0 ≤ (takeR s d n i).2 ∧ (takeR s d n i).2 ≤ 9 ∧ (takeR s d n i).2 ≤ s.size ∧ ((takeR s d n i).2 = 0 → (takeR s d n i).1 = 0) := by
  induction d with
  | zero => intro n i h0 h1 hd; simp [takeR]
  | succ d ih =>
    intro n i h0 h1 hd
    obtain ⟨b0, b1⟩ := bt_range s i
    have hp := pow128_pos i
    unfold takeR
    split
    · split
      · split
        · simp
        · have h2 : 0 ≤ bt s i * 128 ^ i := Int.mul_nonneg b0 (by omega)
          have h3 := acc_lt h1 (c := bt s i) (by omega) b0
          have h4 := pow128_le (i := i + 1) (by omega)
          refine ⟨by simp only; omega, by simp only; omega, by simp only; omega, by simp only; omega, by simp only; omega, by simp only; omega⟩
      · exact ih _ _ (by have : 0 ≤ bt s i % 128 * 128 ^ i := Int.mul_nonneg (by omega) (by omega); omega) (acc_lt h1 (by omega) (by omega)) (by omega)
    · simp
theorem takeV_range (s : ByteArray) : 0 ≤ (takeV s).1 ∧ (takeV s).1 ≤ 9223372036854775807 ∧ 0 ≤ (takeV s).2 ∧ (takeV s).2 ≤ 9 ∧ (takeV s).2 ≤ s.size ∧ ((takeV s).2 = 0 → (takeV s).1 = 0) :=
  takeR_range s 9 0 0 (by omega) (by decide) rfl

-- part specTake needs spec_l2Take.f
theorem spec_take_l (s : ByteArray) (d : Nat) : ∀ (n : Int) (i : Nat), 0 ≤ n → n < 128 ^ i → i + d = 9 → Ev (fun k => spec_l2Take.l0 k s n i) (takeR s d n i) := by
  induction d with
  | zero =>
    intro n i hn hn' hd
    refine Ev.step (f := fun k => spec_l2Take.j1 k s n i false) (fun k => ?_) (Ev.step (f := fun _ => some (0, 0)) (fun k => ?_) (Ev.now _))
    · simp only [spec_l2Take.l0]; rw [if_neg (by omega)]
    · simp only [spec_l2Take.j1]; rfl
  | succ d ih =>
    intro n i hn hn' hd
    have e7 : wrap64 (7 * (i : Int)) = 7 * i := w64 (by omega) (by omega)
    have e1 : wrap64 ((i : Int) + 1) = ((i + 1 : Nat) : Int) := by rw [w64 (by omega) (by omega)]; omega
    have u7 : IntKind.u64.wrap (7 * (i : Int)) = 7 * i := wu64 (by omega) (by omega)
    obtain ⟨b0, b1⟩ := bt_range s i
    have ea := and127 b0 b1
    have ea' : wrap64 (bt s i % 128) = bt s i % 128 := w64 (by omega) (by omega)
    have eo := or_shl hn hn' (c := bt s i % 128) (by omega) (by omega) (i := i) (by omega)
    refine Ev.step (f := fun k => spec_l2Take.j1 k s n i (decide ((i : Int) < (s.size : Int)))) (fun k => ?_) ?_
    · simp only [spec_l2Take.l0]; rw [if_pos (by omega)]
    · unfold takeR
      by_cases hl : (i : Int) < (s.size : Int)
      · rw [if_pos hl]
        refine Ev.step (fun k => ?_) (f := fun k => if bt s i < 128 then (if i > 0 ∧ bt s i = 0 then some (0, 0) else some (n + bt s i * 128 ^ i, (i : Int) + 1))
          else spec_l2Take.l0 k s (n + (bt s i % 128) * 128 ^ i) ((i + 1 : Nat) : Int)) ?_
        · simp only [spec_l2Take.j1]
          rw [if_pos (by simpa using hl), if_pos (by omega), if_pos hl, e7, u7, if_pos (by omega), ea, ea', eo, e1]
          by_cases hb : bt s i < 128
          · rw [if_pos hb, if_pos hb, show bt s i % 128 = bt s i by omega]
            by_cases hi : i > 0
            · rw [if_pos (by omega)]
              by_cases hz : bt s i = 0
              · rw [if_pos hz, if_pos ⟨hi, hz⟩]
              · rw [if_neg hz, if_neg (fun h => hz h.2)]; rfl
            · rw [if_neg (by omega), if_neg (fun h => hi h.1)]; rfl
          · rw [if_neg hb, if_neg hb]
        · by_cases hb : bt s i < 128
          · simp only [if_pos hb]
            split <;> exact Ev.now _
          · simp only [if_neg hb]
            exact ih _ _ (by have : 0 ≤ bt s i % 128 * 128 ^ i := Int.mul_nonneg (by omega) (by have := pow128_pos i; omega); omega) (acc_lt hn' (by omega) (by omega)) (by omega)
      · rw [if_neg hl]
        refine Ev.step (f := fun _ => some (0, 0)) (fun k => ?_) (Ev.now _)
        simp only [spec_l2Take.j1]
        rw [if_neg (by simpa using hl)]
theorem spec_take (s : ByteArray) : Ev (fun k => spec_l2Take.f k s) (takeV s) := spec_take_l s 9 0 0 (by omega) (by decide) rfl

-- part implTake needs impl_TakeVar.f
theorem impl_take_l (s : ByteArray) (d : Nat) : ∀ (n : Int) (i : Nat), 0 ≤ n → n < 128 ^ i → i + d = 9 → Ev (fun k => impl_TakeVar.l0 k s n i) (takeR s d n i) := by
  induction d with
  | zero =>
    intro n i hn hn' hd
    refine Ev.step (f := fun _ => some (0, 0)) (fun k => ?_) (Ev.now _)
    simp only [impl_TakeVar.l0]; rw [if_neg (by rw [lt_mn]; omega)]
  | succ d ih =>
    intro n i hn hn' hd
    have e7 : wrap64 (7 * (i : Int)) = 7 * i := w64 (by omega) (by omega)
    have e1 : wrap64 ((i : Int) + 1) = ((i + 1 : Nat) : Int) := by rw [w64 (by omega) (by omega)]; omega
    obtain ⟨b0, b1⟩ := bt_range s i
    have eb : wrap64 (bt s i) = bt s i := w64 (by omega) (by omega)
    have et : Int.tmod (bt s i) 128 = bt s i % 128 := Int.tmod_eq_emod_of_nonneg b0
    have eo := or_shl hn hn' (c := bt s i % 128) (by omega) (by omega) (i := i) (by omega)
    unfold takeR
    by_cases hl : (i : Int) < (s.size : Int)
    · rw [if_pos hl]
      refine Ev.step (fun k => ?_) (f := fun k => if bt s i < 128 then (if i > 0 ∧ bt s i = 0 then some (0, 0) else some (n + bt s i * 128 ^ i, (i : Int) + 1))
        else impl_TakeVar.l0 k s (n + (bt s i % 128) * 128 ^ i) ((i + 1 : Nat) : Int)) ?_
      · simp only [impl_TakeVar.l0]
        rw [if_pos (by rw [lt_mn]; omega), if_pos (by omega), if_pos hl, e7, if_pos (by omega), eb, et, eo, e1]
        by_cases hb : bt s i < 128
        · rw [if_pos hb, if_pos hb, show bt s i % 128 = bt s i by omega]
          by_cases hi : i > 0
          · rw [if_pos (by omega)]
            by_cases hz : bt s i = 0
            · rw [if_pos hz, if_pos ⟨hi, hz⟩]
            · rw [if_neg hz, if_neg (fun h => hz h.2)]; rfl
          · rw [if_neg (by omega), if_neg (fun h => hi h.1)]; rfl
        · rw [if_neg hb, if_neg hb]
      · by_cases hb : bt s i < 128
        · simp only [if_pos hb]
          split <;> exact Ev.now _
        · simp only [if_neg hb]
          exact ih _ _ (by have : 0 ≤ bt s i % 128 * 128 ^ i := Int.mul_nonneg (by omega) (by have := pow128_pos i; omega); omega) (acc_lt hn' (by omega) (by omega)) (by omega)
    · rw [if_neg hl]
      refine Ev.step (f := fun _ => some (0, 0)) (fun k => ?_) (Ev.now _)
      simp only [impl_TakeVar.l0]
      rw [if_neg (by rw [lt_mn]; omega)]
theorem impl_take (s : ByteArray) : Ev (fun k => impl_TakeVar.f k s) (takeV s) := impl_take_l s 9 0 0 (by omega) (by decide) rfl

-- part sumM: the table of sums and the sum of a text
def crcStep (n : Int) : Int := if Go.bits .and .u32 n 1 = 1 then Go.bits .xor .u32 (n / 2) 2197175160 else n / 2
def crcIt : Nat → Int → Int
  | 0, n => n
  | d + 1, n => crcIt d (crcStep n)
def crcE (i : Nat) : Int := crcIt 8 (i : Int)
def crcT : List Int := (List.range 256).map crcE
theorem crcT_len : crcT.length = 256 := by simp [crcT]
theorem xor_comm_ (k : IntKind) (x y : Int) : Go.bits .xor k x y = Go.bits .xor k y x := by simp only [Go.bits, BitVec.xor_comm]
theorem bits_u8 (op : BinOp) (x y : Int) : 0 ≤ Go.bits op .u8 x y ∧ Go.bits op .u8 x y < 256 := by
  unfold Go.bits; rw [IntKind.wrap_u8]; exact ⟨Int.emod_nonneg _ (by decide), Int.emod_lt_of_pos _ (by decide)⟩
theorem bits_u32 (op : BinOp) (x y : Int) : 0 ≤ Go.bits op .u32 x y ∧ Go.bits op .u32 x y < 4294967296 := by
  unfold Go.bits; rw [IntKind.wrap_u32]; exact ⟨Int.emod_nonneg _ (by decide), Int.emod_lt_of_pos _ (by decide)⟩
def sumR (s : ByteArray) : Nat → Nat → Int → Int
  | 0, _, x => x
  | d + 1, i, x => sumR s d (i + 1) (Go.bits .xor .u32 (x / 256) (rd crcT (Go.bits .xor .u8 (x % 256) (bt s i))))
def sumOnV (x : Int) (s : ByteArray) : Int := sumR s s.size 0 x
def sumV (s : ByteArray) : Int := Go.bits .xor .u32 4294967295 (sumOnV 4294967295 s)
theorem sumV_range (s : ByteArray) : 0 ≤ sumV s ∧ sumV s < 4294967296 := bits_u32 _ _ _

-- part specTable needs spec_l2Table.f
theorem spec_table_in (d : Nat) : ∀ (T : List Int) (i x j y z : Int) (r : List Int), 0 ≤ j → j + d = 8 → 0 ≤ i → i < T.length →
    Ev (fun k => spec_l2Table.l0 k (T.set i.toNat (crcIt d x)) y (wrap64 (z + 1))) r → Ev (fun k => spec_l2Table.l1 k T i x j y z) r := by
  induction d with
  | zero =>
    intro T i x j y z r h0 hd hi hi' h
    refine Ev.step (fun k => ?_) h
    simp only [spec_l2Table.l1]
    rw [if_neg (by omega), if_pos hi, if_pos hi']; rfl
  | succ d ih =>
    intro T i x j y z r h0 hd hi hi' h
    refine Ev.step (fun k => ?_) (ih T i (crcStep x) (j + 1) y z r (by omega) (by omega) hi hi' h)
    simp only [spec_l2Table.l1]
    rw [if_pos (by omega), w64 (by omega) (by omega)]
    unfold crcStep
    split <;> rfl
theorem spec_table_l (d : Nat) : ∀ (i : Nat), i + d = 256 → Ev (fun k => spec_l2Table.l0 k ((List.range i).map crcE ++ List.replicate d 0) 256 i) crcT := by
  induction d with
  | zero =>
    intro i hi
    obtain rfl : i = 256 := by omega
    refine Ev.step (f := fun _ => some crcT) (fun k => ?_) (Ev.now _)
    simp only [spec_l2Table.l0]; rw [if_neg (by omega)]; simp [crcT]
  | succ d ih =>
    intro i hi
    have e : ((List.range i).map crcE ++ List.replicate (d + 1) 0).set (i : Int).toNat (crcE i) = (List.range (i + 1)).map crcE ++ List.replicate d 0 := by
      rw [Int.toNat_natCast, List.range_succ, List.map_append, List.set_append_right _ _ (by simp)]
      simp [List.replicate_succ]
    refine Ev.step (f := fun k => spec_l2Table.l1 k ((List.range i).map crcE ++ List.replicate (d + 1) 0) i i 0 256 i) (fun k => ?_) ?_
    · simp only [spec_l2Table.l0]; rw [if_pos (by omega), Int.emod_eq_of_lt (by omega) (by omega)]
    · refine spec_table_in 8 _ _ _ _ _ _ _ (by omega) rfl (by omega) (by simp; omega) ?_
      have := ih (i + 1) (by omega)
      rw [show crcIt 8 (i : Int) = crcE i from rfl, e, w64 (by omega) (by omega)]
      exact this
theorem spec_table : Ev (fun k => spec_l2Table.f k) crcT := by
  unfold spec_l2Table.f
  refine Ev.pos_ (by decide) ?_
  show Ev (fun k => spec_l2Table.l0 k (List.replicate 256 0) ((List.replicate 256 (0 : Int)).length : Int) 0) crcT
  rw [List.length_replicate]
  exact spec_table_l 256 0 rfl

-- part implTable needs impl_SumTable.f
theorem impl_table_in (d : Nat) : ∀ (T : List Int) (x z j : Int) (r : List Int), 0 ≤ j → j + d = 8 → T.length < 35184372088832 →
    Ev (fun k => impl_SumTable.l0 k (T ++ [crcIt d x]) ((z + 1) % 4294967296)) r → Ev (fun k => impl_SumTable.l1 k T x z j) r := by
  induction d with
  | zero =>
    intro T x z j r h0 hd hi h
    refine Ev.step (fun k => ?_) h
    simp only [impl_SumTable.l1]
    rw [if_neg (by omega), if_pos hi]; rfl
  | succ d ih =>
    intro T x z j r h0 hd hi h
    refine Ev.step (fun k => ?_) (ih T (crcStep x) z (j + 1) r (by omega) (by omega) hi h)
    simp only [impl_SumTable.l1]
    rw [if_pos (by omega), w64 (by omega) (by omega)]
    unfold crcStep
    split <;> rfl
theorem impl_table_l (d : Nat) : ∀ (i : Nat), i + d = 256 → Ev (fun k => impl_SumTable.l0 k ((List.range i).map crcE) i) crcT := by
  induction d with
  | zero =>
    intro i hi
    obtain rfl : i = 256 := by omega
    refine Ev.step (f := fun _ => some crcT) (fun k => ?_) (Ev.now _)
    simp only [impl_SumTable.l0]; rw [if_neg (by omega)]; rfl
  | succ d ih =>
    intro i hi
    refine Ev.step (f := fun k => impl_SumTable.l1 k ((List.range i).map crcE) i i 0) (fun k => ?_) ?_
    · simp only [impl_SumTable.l0]; rw [if_pos (by omega)]
    · refine impl_table_in 8 _ _ _ _ _ (by omega) rfl (by simp; omega) ?_
      have := ih (i + 1) (by omega)
      rw [Int.emod_eq_of_lt (by omega) (by omega)]
      rw [List.range_succ, List.map_append] at this
      exact this
theorem impl_table : Ev (fun k => impl_SumTable.f k) crcT := impl_table_l 256 0 rfl

-- part specOn needs spec_l2On.f
theorem spec_on_l (s : ByteArray) (hs : s.size ≤ 140737488351232) (d : Nat) : ∀ (i : Nat) (x : Int), i + d = s.size → Ev (fun k => spec_l2On.l0 k crcT x s i) (sumR s d i x) := by
  induction d with
  | zero =>
    intro i x hi
    refine Ev.step (f := fun _ => some x) (fun k => ?_) (Ev.now _)
    simp only [spec_l2On.l0]; rw [if_neg (by omega)]
  | succ d ih =>
    intro i x hi
    have hr := bits_u8 .xor (x % 256) (bt s i)
    refine Ev.step (fun k => ?_) (ih (i + 1) _ (by omega))
    simp only [spec_l2On.l0]
    rw [if_pos (by omega), if_pos (by omega), if_pos hr.1, if_pos (by rw [crcT_len]; exact hr.2), xor_comm_ .u32, w64 (by omega) (by omega)]; rfl
theorem spec_on (x : Int) (s : ByteArray) (hs : s.size ≤ 140737488351232) : Ev (fun k => spec_l2On.f k crcT x s) (sumOnV x s) := spec_on_l s hs _ 0 x (by omega)

-- part implOn needs impl_SumOn.f
theorem impl_on_l (s : ByteArray) (hs : s.size ≤ 140737488351232) (d : Nat) : ∀ (i : Nat) (x : Int), i + d = s.size → Ev (fun k => impl_SumOn.l0 k x s crcT (s.size : Int) i) (sumR s d i x) := by
  induction d with
  | zero =>
    intro i x hi
    refine Ev.step (f := fun _ => some x) (fun k => ?_) (Ev.now _)
    simp only [impl_SumOn.l0]; rw [if_neg (by omega)]
  | succ d ih =>
    intro i x hi
    have hr := bits_u8 .xor (x % 256) (bt s i)
    refine Ev.step (fun k => ?_) (ih (i + 1) _ (by omega))
    simp only [impl_SumOn.l0]
    rw [if_pos (by omega), if_pos (by omega), if_pos (by omega), if_pos hr.1, if_pos (by rw [crcT_len]; exact hr.2), w64 (by omega) (by omega)]; rfl
theorem impl_on (x : Int) (s : ByteArray) (hs : s.size ≤ 140737488351232) : Ev (fun k => impl_SumOn.f k x s) (sumOnV x s) :=
  Ev.bind impl_table (impl_on_l s hs _ 0 x (by omega))

-- part specSum needs spec_l2Sum.f
theorem spec_sum (s : ByteArray) (hs : s.size ≤ 140737488351232) : Ev (fun k => spec_l2Sum.f k s) (sumV s) :=
  Ev.bind spec_table (Ev.bind (spec_on 4294967295 s hs) (Ev.now _))

-- part implSum needs impl_SumOf.f
theorem impl_sum (s : ByteArray) (hs : s.size ≤ 140737488351232) : Ev (fun k => impl_SumOf.f k s) (sumV s) :=
  Ev.bind (impl_on 4294967295 s hs) (Ev.now _)

-- part wordM: a word's bytes, the lowest first
def lowL : Nat → Int → List Int
  | 0, _ => []
  | d + 1, n => (n % 256) :: lowL d (n / 256)
def lowV (n : Int) (many : Nat) : ByteArray := strOfNums (lowL many n)
def wordV (n : Int) : ByteArray := lowV n 4
theorem lowL_len : ∀ (d : Nat) (n : Int), (lowL d n).length = d := by
  intro d; induction d with
  | zero => intro n; rfl
  | succ d ih => intro n; simp [lowL, ih]
theorem lowV_size (n : Int) (d : Nat) : (lowV n d).size = d := by unfold lowV; rw [strOfNums_size, lowL_len]
theorem wordV_size (n : Int) : (wordV n).size = 4 := lowV_size n 4

-- part specWord needs spec_l2Word.f
theorem spec_word (n : Int) : spec_l2Word.f n = some (wordV n) := by
  unfold spec_l2Word.f wordV lowV
  simp only [lowL]
  rw [show n / 256 / 256 = n / 65536 by omega, show n / 65536 / 256 = n / 16777216 by omega]

-- part implLow needs impl_lowFirst.f
theorem impl_low_l (m : Int) (hm : m ≤ 1000) : ∀ (d : Nat) (n : Int) (acc : List Int) (i : Int), 0 ≤ i → i + d = m → acc.length + d ≤ 2000 → Ev (fun k => impl_lowFirst.l0 k n acc m i) (strOfNums (acc ++ lowL d n)) := by
  intro d
  induction d with
  | zero =>
    intro n acc i h0 hi hl
    refine Ev.step (f := fun _ => some (strOfNums acc)) (fun k => ?_) (by simpa [lowL] using Ev.now _)
    simp only [impl_lowFirst.l0]; rw [if_neg (by omega)]
  | succ d ih =>
    intro n acc i h0 hi hl
    have := ih (n / 256) (acc ++ [n % 256]) (i + 1) (by omega) (by omega) (by simp; omega)
    rw [List.append_assoc] at this
    refine Ev.step (fun k => ?_) this
    simp only [impl_lowFirst.l0]
    rw [if_pos (by omega), if_pos (by omega), w64 (by omega) (by omega)]
theorem impl_low (n : Int) (m : Nat) (hm : m ≤ 1000) : Ev (fun k => impl_lowFirst.f k n m) (lowV n m) :=
  impl_low_l m (by omega) m n [] 0 (by omega) (by omega) (by simp; omega)

-- part frameM: a text's frame
def frameV (s : ByteArray) : ByteArray := (varB s.size ++ wordV (sumV s)) ++ s
theorem app_size (a b : ByteArray) : (a ++ b).size = a.size + b.size := ByteArray.size_append
theorem frameV_size (s : ByteArray) : s.size + 5 ≤ (frameV s).size ∧ (frameV s).size ≤ s.size + 13 := by
  unfold frameV; rw [app_size, app_size, wordV_size]; have := varB_size (s.size : Int); omega

-- part specFrame needs spec_l2Frame.f
theorem spec_frame (s : ByteArray) (hs : s.size ≤ 140737488351232) : Ev (fun k => spec_l2Frame.f k s) (frameV s) := by
  unfold spec_l2Frame.f
  have h1 := varB_size (s.size : Int)
  have h2 := wordV_size (sumV s)
  refine Ev.bind (spec_var (by omega) (by omega)) (Ev.bind (spec_sum s hs) ?_)
  simp only [spec_word, Option.bind_some]
  exact Ev.pos_ (by omega) (Ev.pos_ (by omega) (Ev.now _))

-- part implFrame needs impl_frame.f
theorem impl_frame_ (s : ByteArray) (hs : s.size ≤ 140737488351232) : Ev (fun k => impl_frame.f k s) (frameV s) := by
  unfold impl_frame.f
  have h1 := varB_size (s.size : Int)
  have h2 := wordV_size (sumV s)
  refine Ev.bind (impl_var (by omega) (by omega)) (Ev.bind (impl_sum s hs) (Ev.bind (impl_low (sumV s) 4 (by omega)) ?_))
  exact Ev.pos_ (by have := lowV_size (sumV s) 4; omega) (Ev.pos_ (by have := lowV_size (sumV s) 4; omega) (Ev.now _))

-- part takeFrameM
def takeFrameV (s : ByteArray) : ByteArray × Int × Bool :=
  if (takeV s).2 = 0 ∨ (takeV s).1 > 1000 ∨ (s.size : Int) < (takeV s).2 + 4 + (takeV s).1 then (⟨#[]⟩, 0, false)
  else if (wordV (sumV (s.extract ((takeV s).2 + 4).toNat ((takeV s).2 + 4 + (takeV s).1).toNat))).toList = (s.extract (takeV s).2.toNat ((takeV s).2 + 4).toNat).toList then
    (s.extract ((takeV s).2 + 4).toNat ((takeV s).2 + 4 + (takeV s).1).toNat, (takeV s).2 + 4 + (takeV s).1, true)
  else (⟨#[]⟩, 0, false)
theorem extract_le (s : ByteArray) (a b : Nat) : (s.extract a b).size ≤ s.size := by rw [ByteArray.size_extract]; omega
theorem takeFrameV_ok {s : ByteArray} (h : (takeFrameV s).2.2 = true) : 5 ≤ (takeFrameV s).2.1 ∧ (takeFrameV s).2.1 ≤ s.size := by
  have hr := takeV_range s
  unfold takeFrameV at h ⊢
  split at h
  · cases h
  · rename_i hc
    split at h
    · rename_i hd
      rw [if_neg hc, if_pos hd]; simp only; omega
    · cases h
theorem takeFrameV_empty {s : ByteArray} (h : s.size = 0) : (takeFrameV s).2.2 = false := by
  have : (takeV s).2 = 0 := by unfold takeV takeR; simp [h]
  unfold takeFrameV; rw [if_pos (.inl this)]

-- part specTakeFrame needs spec_l2TakeFrame.f
theorem spec_takeFrame (s : ByteArray) (hs : s.size ≤ 140737488351232) : Ev (fun k => spec_l2TakeFrame.f k s) (takeFrameV s) := by
  have hr := takeV_range s
  have key : (¬ (takeV s).2 = 0 → ¬ (takeV s).1 > 1000 → ¬ (s.size : Int) < (takeV s).2 + 4 + (takeV s).1 → Ev (fun k => spec_l2TakeFrame.j0 k s (takeV s).1 (takeV s).2 false) (takeFrameV s)) ∧
      ((takeV s).2 = 0 ∨ (takeV s).1 > 1000 ∨ (s.size : Int) < (takeV s).2 + 4 + (takeV s).1 → Ev (fun k => spec_l2TakeFrame.j0 k s (takeV s).1 (takeV s).2 true) (takeFrameV s)) := by
    constructor
    · intro h1 h2 h3
      unfold takeFrameV
      rw [if_neg (by omega)]
      have ea : wrap64 ((takeV s).2 + 4) = (takeV s).2 + 4 := w64 (by omega) (by omega)
      have eb : wrap64 ((takeV s).2 + 4 + (takeV s).1) = (takeV s).2 + 4 + (takeV s).1 := w64 (by omega) (by omega)
      refine Ev.step (fun k => by rw [spec_l2TakeFrame.j0]) (Ev.neg_ (by simp) ?_)
      simp only [ea, eb]
      refine Ev.pos_ (by omega) (Ev.pos_ (by omega) (Ev.pos_ (by omega) ?_))
      refine Ev.bind (spec_sum _ (Nat.le_trans (extract_le _ _ _) hs)) ?_
      simp only [spec_word, Option.bind_some]
      refine Ev.pos_ (by omega) (Ev.pos_ (by omega) (Ev.pos_ (by omega) ?_))
      by_cases hw : (wordV (sumV (s.extract ((takeV s).2 + 4).toNat ((takeV s).2 + 4 + (takeV s).1).toNat))).toList = (s.extract (takeV s).2.toNat ((takeV s).2 + 4).toNat).toList
      · simp only [if_pos hw]; exact Ev.now _
      · simp only [if_neg hw]; exact Ev.now _
    · intro h
      unfold takeFrameV
      rw [if_pos h]
      exact Ev.step (fun k => by rw [spec_l2TakeFrame.j0]) (Ev.pos_ rfl (Ev.now _))
  unfold spec_l2TakeFrame.f
  refine Ev.bind (spec_take s) ?_
  by_cases h1 : (takeV s).2 = 0
  · exact Ev.pos_ h1 (key.2 (.inl h1))
  · refine Ev.neg_ h1 ?_
    by_cases h2 : (takeV s).1 > 1000
    · exact Ev.pos_ h2 (key.2 (.inr (.inl h2)))
    · refine Ev.neg_ h2 ?_
      have ec : wrap64 (wrap64 ((takeV s).2 + 4) + (takeV s).1) = (takeV s).2 + 4 + (takeV s).1 := by
        rw [w64 (n := (takeV s).2 + 4) (by omega) (by omega), w64 (by omega) (by omega)]
      simp only [ec]
      by_cases h3 : (s.size : Int) < (takeV s).2 + 4 + (takeV s).1
      · simp only [decide_eq_true h3]; exact key.2 (.inr (.inr h3))
      · simp only [decide_eq_false h3]; exact key.1 h1 h2 h3

-- part implTakeFrame needs impl_TakeFrame.f
theorem impl_takeFrame (s : ByteArray) (hs : s.size ≤ 140737488351232) : Ev (fun k => impl_TakeFrame.f k s) (takeFrameV s) := by
  have hr := takeV_range s
  have key : (¬ (takeV s).2 = 0 → ¬ (takeV s).1 > 1000 → ¬ (s.size : Int) < (takeV s).2 + 4 + (takeV s).1 → Ev (fun k => impl_TakeFrame.j0 k s (takeV s).1 (takeV s).2 false) (takeFrameV s)) ∧
      ((takeV s).2 = 0 ∨ (takeV s).1 > 1000 ∨ (s.size : Int) < (takeV s).2 + 4 + (takeV s).1 → Ev (fun k => impl_TakeFrame.j0 k s (takeV s).1 (takeV s).2 true) (takeFrameV s)) := by
    constructor
    · intro h1 h2 h3
      unfold takeFrameV
      rw [if_neg (by omega)]
      have ea : wrap64 ((takeV s).2 + 4) = (takeV s).2 + 4 := w64 (by omega) (by omega)
      have eb : wrap64 ((takeV s).2 + 4 + (takeV s).1) = (takeV s).2 + 4 + (takeV s).1 := w64 (by omega) (by omega)
      refine Ev.step (fun k => by rw [impl_TakeFrame.j0]) (Ev.neg_ (by simp) ?_)
      simp only [ea, eb]
      refine Ev.pos_ (by omega) (Ev.pos_ (by omega) (Ev.pos_ (by omega) ?_))
      refine Ev.bind (impl_sum _ (Nat.le_trans (extract_le _ _ _) hs)) ?_
      refine Ev.bind (impl_low _ 4 (by omega)) ?_
      refine Ev.pos_ (by omega) (Ev.pos_ (by omega) (Ev.pos_ (by omega) ?_))
      by_cases hw : (wordV (sumV (s.extract ((takeV s).2 + 4).toNat ((takeV s).2 + 4 + (takeV s).1).toNat))).toList = (s.extract (takeV s).2.toNat ((takeV s).2 + 4).toNat).toList
      · simp only [if_pos hw]; exact Ev.pos_ hw (Ev.now _)
      · simp only [if_neg hw]; exact Ev.neg_ hw (Ev.now _)
    · intro h
      unfold takeFrameV
      rw [if_pos h]
      exact Ev.step (fun k => by rw [impl_TakeFrame.j0]) (Ev.pos_ rfl (Ev.now _))
  unfold impl_TakeFrame.f
  refine Ev.bind (impl_take s) ?_
  by_cases h1 : (takeV s).2 = 0
  · exact Ev.pos_ h1 (key.2 (.inl h1))
  · refine Ev.neg_ h1 ?_
    by_cases h2 : (takeV s).1 > 1000
    · exact Ev.pos_ h2 (key.2 (.inr (.inl h2)))
    · refine Ev.neg_ h2 ?_
      have ec : wrap64 (wrap64 ((takeV s).2 + 4) + (takeV s).1) = (takeV s).2 + 4 + (takeV s).1 := by
        rw [w64 (n := (takeV s).2 + 4) (by omega) (by omega), w64 (by omega) (by omega)]
      simp only [ec]
      by_cases h3 : (s.size : Int) < (takeV s).2 + 4 + (takeV s).1
      · simp only [decide_eq_true h3]; exact key.2 (.inr (.inr h3))
      · simp only [decide_eq_false h3]; exact key.1 h1 h2 h3

-- part framesM: the frames at a text's front
def framesR (s : ByteArray) : Nat → List ByteArray → Int → List ByteArray × Int
  | 0, acc, at_ => (acc, at_)
  | d + 1, acc, at_ => if (takeFrameV (s.extract at_.toNat s.size)).2.2 = true then framesR s d (acc ++ [(takeFrameV (s.extract at_.toNat s.size)).1]) (at_ + (takeFrameV (s.extract at_.toNat s.size)).2.1) else (acc, at_)
def framesV (s : ByteArray) : List ByteArray × Int := framesR s 60 [] 0
theorem framesR_len (s : ByteArray) : ∀ (d : Nat) (acc : List ByteArray) (at_ : Int), (framesR s d acc at_).1.length ≤ acc.length + d := by
  intro d
  induction d with
  | zero => intro acc a; simp [framesR]
  | succ d ih =>
    intro acc a
    unfold framesR
    split
    · have := ih (acc ++ [(takeFrameV (s.extract a.toNat s.size)).1]) (a + (takeFrameV (s.extract a.toNat s.size)).2.1)
      simp only [List.length_append, List.length_singleton] at this; omega
    · simp
theorem framesV_len (s : ByteArray) : (framesV s).1.length ≤ 60 := by have := framesR_len s 60 [] 0; unfold framesV; simpa using this
theorem from_size (s : ByteArray) (a : Int) (h0 : 0 ≤ a) (h1 : a ≤ s.size) : ((s.extract a.toNat s.size).size : Int) = s.size - a := by rw [ByteArray.size_extract]; omega

-- part specFrames needs spec_l2Frames.f
theorem spec_frames_l (s : ByteArray) (hs : s.size ≤ 140737488351232) : ∀ (d : Nat) (acc : List ByteArray) (a : Int), 0 ≤ a → a ≤ s.size → acc.length + d = 60 → Ev (fun k => spec_l2Frames.l0 k s acc a) (framesR s d acc a) := by
  intro d
  induction d with
  | zero =>
    intro acc a h0 h1 hd
    refine Ev.step (f := fun k => spec_l2Frames.j1 k s acc a false) (fun k => ?_) (Ev.step (f := fun _ => some (acc, a)) (fun k => ?_) (Ev.now _))
    · simp only [spec_l2Frames.l0]
      split
      · rw [decide_eq_false (by omega)]
      · rfl
    · simp only [spec_l2Frames.j1]; rfl
  | succ d ih =>
    intro acc a h0 h1 hd
    have hz := from_size s a h0 h1
    unfold framesR
    by_cases hl : a < (s.size : Int)
    · refine Ev.step (f := fun k => spec_l2Frames.j1 k s acc a true) (fun k => ?_) (Ev.step (fun k => by rw [spec_l2Frames.j1]) ?_)
      · simp only [spec_l2Frames.l0]
        rw [if_pos hl, decide_eq_true (by omega)]
      · refine Ev.pos_ rfl (Ev.pos_ h0 (Ev.pos_ h1 (Ev.bind (spec_takeFrame _ (Nat.le_trans (extract_le _ _ _) hs)) ?_)))
        by_cases hk : (takeFrameV (s.extract a.toNat s.size)).2.2 = true
        · have ho := takeFrameV_ok hk
          rw [if_pos hk]
          refine Ev.pos_ hk (Ev.pos_ (by omega) ?_)
          have ew : wrap64 (a + (takeFrameV (s.extract a.toNat s.size)).2.1) = a + (takeFrameV (s.extract a.toNat s.size)).2.1 := w64 (by omega) (by omega)
          rw [ew]
          exact ih _ _ (by omega) (by omega) (by simp; omega)
        · rw [if_neg hk]; exact Ev.neg_ hk (Ev.now _)
    · have he := takeFrameV_empty (s := s.extract a.toNat s.size) (by omega)
      rw [if_neg (by rw [he]; simp)]
      refine Ev.step (f := fun k => spec_l2Frames.j1 k s acc a false) (fun k => ?_) (Ev.step (f := fun _ => some (acc, a)) (fun k => ?_) (Ev.now _))
      · simp only [spec_l2Frames.l0]; rw [if_neg hl]
      · simp only [spec_l2Frames.j1]; rfl
theorem spec_frames (s : ByteArray) (hs : s.size ≤ 140737488351232) : Ev (fun k => spec_l2Frames.f k s) (framesV s) := spec_frames_l s hs 60 [] 0 (by omega) (by omega) rfl

-- part implFrames needs impl_ReadFrames.f
theorem impl_frames_l (s : ByteArray) (hs : s.size ≤ 140737488351232) : ∀ (d : Nat) (acc : List ByteArray) (a : Int), 0 ≤ a → a ≤ s.size → acc.length + d = 60 → Ev (fun k => impl_ReadFrames.l0 k s acc a) ((framesR s d acc a).1, (framesR s d acc a).2, ((framesR s d acc a).2 == (s.size : Int))) := by
  intro d
  induction d with
  | zero =>
    intro acc a h0 h1 hd
    refine Ev.step (f := fun _ => some (acc, a, (a == (s.size : Int)))) (fun k => ?_) (Ev.now _)
    simp only [impl_ReadFrames.l0]; rw [if_neg (by omega)]
  | succ d ih =>
    intro acc a h0 h1 hd
    have hz := from_size s a h0 h1
    unfold framesR
    refine Ev.step (fun k => by rw [impl_ReadFrames.l0]) ?_
    refine Ev.pos_ (by omega) (Ev.pos_ h0 (Ev.pos_ h1 (Ev.bind (impl_takeFrame _ (Nat.le_trans (extract_le _ _ _) hs)) ?_)))
    by_cases hk : (takeFrameV (s.extract a.toNat s.size)).2.2 = true
    · have ho := takeFrameV_ok hk
      simp only [if_pos hk]
      refine Ev.pos_ (by omega) ?_
      have ew : wrap64 (a + (takeFrameV (s.extract a.toNat s.size)).2.1) = a + (takeFrameV (s.extract a.toNat s.size)).2.1 := w64 (by omega) (by omega)
      rw [ew]
      exact ih _ _ (by omega) (by omega) (by simp; omega)
    · simp only [if_neg hk]; exact Ev.now _
theorem impl_frames (s : ByteArray) (hs : s.size ≤ 140737488351232) : Ev (fun k => impl_ReadFrames.f k s) ((framesV s).1, (framesV s).2, ((framesV s).2 == (s.size : Int))) := impl_frames_l s hs 60 [] 0 (by omega) (by omega) rfl

-- part framesBM: the frames of texts
def framesBR (l : List ByteArray) : Nat → Nat → ByteArray → ByteArray × Bool
  | 0, _, acc => (acc, true)
  | d + 1, i, acc => if ((l.getD i ByteArray.empty).size : Int) > 1000 then (⟨#[]⟩, false) else framesBR l d (i + 1) (acc ++ frameV (l.getD i ByteArray.empty))
def framesBV (l : List ByteArray) : ByteArray × Bool := if (l.length : Int) > 60 then (⟨#[]⟩, false) else framesBR l l.length 0 ⟨#[]⟩

-- part specFramesB needs spec_FramesBytes.f
theorem spec_framesB_l (l : List ByteArray) (hl : l.length ≤ 60) : ∀ (d i : Nat) (acc : ByteArray), i + d = l.length → acc.size ≤ i * 1013 → Ev (fun k => spec_FramesBytes.l0 k acc l (l.length : Int) i) (framesBR l d i acc) := by
  intro d
  induction d with
  | zero =>
    intro i acc hi hs
    refine Ev.step (fun k => by rw [spec_FramesBytes.l0]) ?_
    exact Ev.neg_ (by omega) (Ev.now _)
  | succ d ih =>
    intro i acc hi hs
    unfold framesBR
    refine Ev.step (fun k => by rw [spec_FramesBytes.l0]) ?_
    refine Ev.pos_ (by omega) (Ev.pos_ (by omega) (Ev.pos_ (by omega) ?_))
    rw [rdOf_nat]
    by_cases h : ((l.getD i ByteArray.empty).size : Int) > 1000
    · rw [if_pos h]; exact Ev.pos_ h (Ev.now _)
    · rw [if_neg h]
      have hf := frameV_size (l.getD i ByteArray.empty)
      refine Ev.neg_ h (Ev.bind (spec_frame _ (by omega)) (Ev.pos_ (by omega) ?_))
      rw [w64 (by omega) (by omega), show ((i : Int) + 1) = ((i + 1 : Nat) : Int) by omega]
      exact ih (i + 1) _ (by omega) (by rw [app_size]; omega)
theorem spec_framesB (l : List ByteArray) : Ev (fun k => spec_FramesBytes.f k l) (framesBV l) := by
  unfold spec_FramesBytes.f framesBV
  by_cases h : (l.length : Int) > 60
  · rw [if_pos h]; exact Ev.pos_ h (Ev.now _)
  · rw [if_neg h]; exact Ev.neg_ h (spec_framesB_l l (by omega) l.length 0 ⟨#[]⟩ (by omega) (by decide))

-- part implFramesB needs impl_FramesBytes.f
theorem impl_framesB_l (l : List ByteArray) (hl : l.length ≤ 60) : ∀ (d i : Nat) (acc : ByteArray), i + d = l.length → acc.size ≤ i * 1013 → Ev (fun k => impl_FramesBytes.l0 k acc l (l.length : Int) i) (framesBR l d i acc) := by
  intro d
  induction d with
  | zero =>
    intro i acc hi hs
    refine Ev.step (fun k => by rw [impl_FramesBytes.l0]) ?_
    exact Ev.neg_ (by omega) (Ev.now _)
  | succ d ih =>
    intro i acc hi hs
    unfold framesBR
    refine Ev.step (fun k => by rw [impl_FramesBytes.l0]) ?_
    refine Ev.pos_ (by omega) (Ev.pos_ (by omega) (Ev.pos_ (by omega) ?_))
    rw [rdOf_nat]
    unfold impl_FrameBytes.f
    by_cases h : ((l.getD i ByteArray.empty).size : Int) > 1000
    · rw [if_pos h]
      simp only [if_pos h, Option.bind_some]
      exact Ev.neg_ (by simp) (Ev.now _)
    · rw [if_neg h]
      have hf := frameV_size (l.getD i ByteArray.empty)
      simp only [if_neg h]
      refine Ev.bind (Ev.bind (impl_frame_ _ (by omega)) (Ev.now _)) ?_
      refine Ev.pos_ rfl (Ev.pos_ (by simp only; omega) ?_)
      rw [w64 (by omega) (by omega), show ((i : Int) + 1) = ((i + 1 : Nat) : Int) by omega]
      exact ih (i + 1) _ (by omega) (by simp only; rw [app_size]; omega)
theorem impl_framesB (l : List ByteArray) : Ev (fun k => impl_FramesBytes.f k l) (framesBV l) := by
  unfold impl_FramesBytes.f framesBV
  by_cases h : (l.length : Int) > 60
  · rw [if_pos h]; exact Ev.pos_ h (Ev.now _)
  · rw [if_neg h]; exact Ev.neg_ h (impl_framesB_l l (by omega) l.length 0 ⟨#[]⟩ (by omega) (by decide))

-- part byL: rows of bytes
def ByL (l : List Int) : Prop := ∀ x ∈ l, 0 ≤ x ∧ x ≤ 255
theorem byL {l : List Int} (h : ∀ x ∈ l, (Lit.int .u8 x).wf = true) : ByL l := fun x hx => by
  have := h x hx
  simp only [Lit.wf, Bool.and_eq_true, decide_eq_true_eq] at this
  exact this
theorem ByL.rd_ {l : List Int} (h : ByL l) (i : Int) : 0 ≤ rd l i ∧ rd l i ≤ 255 := by
  unfold rd
  rw [List.getD_eq_getElem?_getD]
  cases e : l[i.toNat]? with
  | none => simp
  | some x => exact h x (List.mem_of_getElem? e)

-- part drawNext needs spec_l1Cur_next.f
theorem and255_ {b : Int} (h0 : 0 ≤ b) (h1 : b < 18446744073709551616) : Go.bits .and .u64 b 255 = b % 256 := bits_mask .u64 64 (by decide) (fun n a b => by rw [wrap_u64]; omega) 8 (by decide) b h0 (by omega)
theorem mix_range (x : Int) : 0 ≤ wrap64 (Go.bits .and .u64 (IntKind.u64.wrap x / 1099511627776) 255) ∧ wrap64 (Go.bits .and .u64 (IntKind.u64.wrap x / 1099511627776) 255) ≤ 255 := by
  rw [wrap_u64, and255_ (by omega) (by omega), w64 (by omega) (by omega)]
  omega
theorem draw_next {l : List Int} (hl : ByL l) (a s : Int) (h0 : 0 ≤ a) (h1 : a ≤ 4611686018427387904) : ∃ b s', spec_l1Cur_next.f l a s = some (b, a + 1, s') ∧ 0 ≤ b ∧ b ≤ 255 := by
  have hw : wrap64 (a + 1) = a + 1 := w64 (by omega) (by omega)
  have hr := hl.rd_ a
  have hwr : wrap64 (rd l a) = rd l a := w64 (by omega) (by omega)
  unfold spec_l1Cur_next.f
  rw [hw, if_pos h0]
  split
  · split
    · exact ⟨_, _, rfl, by rw [hwr]; exact hr⟩
    · exact ⟨_, _, rfl, mix_range _⟩
  · split
    · exact ⟨_, _, rfl, by omega, by omega⟩
    · exact ⟨_, _, rfl, mix_range _⟩

-- part drawPick needs spec_l1Cur_pick.f
theorem tmod_range {x n : Int} (hx : 0 ≤ x) (hn : 1 ≤ n) : 0 ≤ Int.tmod x n ∧ Int.tmod x n < n ∧ Int.tmod x n ≤ x := by
  rw [Int.tmod_eq_emod_of_nonneg hx]
  have h1 := Int.emod_add_mul_ediv x n
  have h2 : 0 ≤ x / n := Int.ediv_nonneg hx (by omega)
  have h3 := Int.mul_nonneg (show (0 : Int) ≤ n by omega) h2
  exact ⟨Int.emod_nonneg _ (by omega), Int.emod_lt_of_pos _ (by omega), by omega⟩
theorem draw_pick {l : List Int} (hl : ByL l) (a s n : Int) (h0 : 0 ≤ a) (h1 : a ≤ 4611686018427387000) : ∃ v a' s', spec_l1Cur_pick.f l a s n = some (v, a', s') ∧ a ≤ a' ∧ a' ≤ a + 2 ∧ 0 ≤ v ∧ (1 ≤ n → v < n) ∧ v ≤ 65535 := by
  unfold spec_l1Cur_pick.f
  by_cases hn : n ≤ 1
  · rw [if_pos hn]; exact ⟨_, _, _, rfl, by omega, by omega, by omega, fun h => by omega, by omega⟩
  · rw [if_neg hn]
    obtain ⟨b, s1, e1, hb0, hb1⟩ := draw_next hl a s h0 (by omega)
    rw [e1, Option.bind_some]
    simp only
    by_cases h2 : n > 200
    · obtain ⟨c, s2, e2, hc0, hc1⟩ := draw_next hl (a + 1) s1 (by omega) (by omega)
      rw [if_pos h2, e2, Option.bind_some, if_neg (by omega), w64 (n := b * 256) (by omega) (by omega), w64 (n := b * 256 + c) (by omega) (by omega)]
      have := tmod_range (x := b * 256 + c) (n := n) (by omega) (by omega)
      exact ⟨_, _, _, rfl, by simp only; omega, by simp only; omega, this.1, fun _ => this.2.1, by omega⟩
    · rw [if_neg h2, if_neg (by omega)]
      have := tmod_range (x := b) (n := n) (by omega) (by omega)
      exact ⟨_, _, _, rfl, by omega, by omega, this.1, fun _ => this.2.1, by omega⟩

-- part drawText needs spec_l1Cur_text.f
theorem draw_text_l {l : List Int} (hl : ByL l) (d : Nat) : ∀ (xs : List Int) (i : Nat) (a s : Int), i + d = xs.length → xs.length ≤ 140737488351232 → 0 ≤ a → a + 2 * d ≤ 4611686018427380000 →
    ∃ t a' s', Ev (fun k => spec_l1Cur_text.l0 k xs (xs.length : Int) i l a s) (t, a', s') ∧ a ≤ a' ∧ a' ≤ a + 2 * d ∧ t.size = xs.length := by
  induction d with
  | zero =>
    intro xs i a s hi hx ha ha'
    refine ⟨strOfNums xs, a, s, Ev.step (f := fun _ => some (strOfNums xs, a, s)) (fun k => ?_) (Ev.now _), by omega, by omega, strOfNums_size _⟩
    simp only [spec_l1Cur_text.l0]; rw [if_neg (by omega)]
  | succ d ih =>
    intro xs i a s hi hx ha ha'
    obtain ⟨b, a1, s1, e1, h2, h3, h4, h5, h6⟩ := draw_pick hl a s 256 ha (by omega)
    obtain ⟨t, a', s', e, h7, h8, h9⟩ := ih (xs.set i (b % 256)) (i + 1) a1 s1 (by simp; omega) (by simpa using hx) (by omega) (by omega)
    rw [List.length_set] at e h9
    refine ⟨t, a', s', Ev.step (fun k => ?_) e, by omega, by omega, h9⟩
    simp only [spec_l1Cur_text.l0]
    rw [if_pos (by omega), e1, w64 (by omega) (by omega), Option.bind_some, if_pos (by omega), if_pos (by omega)]; rfl
theorem draw_text {l : List Int} (hl : ByL l) (a s n : Int) (h0 : 0 ≤ a) (h1 : a ≤ 4611686018427370000 - 140737488351232 * 2) (hn : 0 ≤ n) (hn' : n ≤ 140737488351232) : ∃ t a' s', Ev (fun k => spec_l1Cur_text.f k l a s n) (t, a', s') ∧ a ≤ a' ∧ a' ≤ a + 2 * n ∧ (t.size : Int) = n := by
  obtain ⟨t, a', s', e, h2, h3, h4⟩ := draw_text_l hl n.toNat (List.replicate n.toNat 0) 0 a s (by simp) (by simp; omega) h0 (by omega)
  refine ⟨t, a', s', ?_, h2, by omega, by rw [h4]; simp; omega⟩
  unfold spec_l1Cur_text.f
  exact Ev.pos_ hn (Ev.pos_ (by omega) e)

-- part bytesM: bytes of a row
theorem bt_strOfNums {xs : List Int} (h : ByL xs) (i : Nat) : bt (strOfNums xs) (i : Int) = rd xs (i : Int) := by
  unfold bt rd
  rw [List.getD_eq_getElem?_getD]
  by_cases hi : i < xs.length
  · rw [dif_pos (by rw [strOfNums_size]; simpa using hi), List.getElem?_eq_getElem (by simpa using hi)]
    have := h _ (List.getElem_mem hi)
    have e : ((strOfNums xs)[(i : Int).toNat]'(by rw [strOfNums_size]; simpa using hi)) = UInt8.ofNat (xs[i]).toNat := by
      unfold strOfNums
      rw [ByteArray.getElem_eq_getElem_data]
      simp
    rw [e]
    simp only [UInt8.toNat_ofNat', Int.toNat_natCast, Option.getD_some]
    omega
  · rw [dif_neg (by rw [strOfNums_size]; simpa using hi), List.getElem?_eq_none (by simpa using hi)]; rfl
theorem rd_set (xs : List Int) (i j : Nat) (v : Int) (hi : i < xs.length) : rd (xs.set i v) (j : Int) = if j = i then v else rd xs (j : Int) := by
  unfold rd
  rw [List.getD_eq_getElem?_getD, List.getD_eq_getElem?_getD, Int.toNat_natCast]
  by_cases e : j = i
  · subst e; rw [if_pos rfl, List.getElem?_set_self hi]; rfl
  · rw [if_neg e, List.getElem?_set_ne (by omega)]
theorem ByL.set_ {xs : List Int} (h : ByL xs) (i : Nat) {v : Int} (hv : 0 ≤ v ∧ v ≤ 255) : ByL (xs.set i v) := fun x hx => by
  rcases List.mem_or_eq_of_mem_set hx with hx | rfl
  · exact h x hx
  · exact hv
theorem ByL.zeros (n : Nat) : ByL (List.replicate n 0) := fun x hx => by
  have := List.eq_of_mem_replicate hx; omega

-- part takeVarM: a number's bytes give the number, and back
theorem varL_by (d : Nat) : ∀ x : Int, 0 ≤ x → x < 128 ^ (d + 1) → ByL (varL d x) := by
  induction d with
  | zero => intro x h0 h1 y hy; simp only [varL, List.mem_singleton] at hy; omega
  | succ d ih =>
    intro x h0 h1 y hy
    unfold varL at hy
    split at hy
    · rcases List.mem_cons.1 hy with rfl | hy
      · omega
      · exact ih (x / 128) (by omega) (by rw [Int.pow_succ] at h1; omega) y hy
    · simp only [List.mem_singleton] at hy; omega
theorem take_of_var (s : ByteArray) (d : Nat) : ∀ (x n : Int) (i : Nat), 0 ≤ x → x < 128 ^ (d + 1) → (x = 0 → i = 0) → i + (varL d x).length ≤ s.size →
    (∀ j : Nat, ∀ h : j < (varL d x).length, bt s ((i + j : Nat) : Int) = (varL d x)[j]) → takeR s (d + 1) n i = (n + x * 128 ^ i, ((i + (varL d x).length : Nat) : Int)) := by
  induction d with
  | zero =>
    intro x n i h0 h1 hz hs hb
    have hl : (varL 0 x).length = 1 := rfl
    have e := hb 0 (by omega)
    simp only [varL, Nat.add_zero, List.getElem_cons_zero] at e
    unfold takeR
    rw [if_pos (by omega), if_pos (by omega), if_neg (fun h => by have := hz (by omega); omega), e, hl]
    simp
  | succ d ih =>
    intro x n i h0 h1 hz hs hb
    by_cases hx : x ≥ 128
    · have e : varL (d + 1) x = (x % 128 + 128) :: varL d (x / 128) := by simp [varL, hx]
      have hlen : (varL (d + 1) x).length = (varL d (x / 128)).length + 1 := by rw [e]; rfl
      have e0 := hb 0 (by omega)
      simp only [e, Nat.add_zero, List.getElem_cons_zero] at e0
      have := ih (x / 128) (n + (x % 128) * 128 ^ i) (i + 1) (by omega) (by rw [Int.pow_succ] at h1; omega) (by omega) (by omega) (fun j hj => by
        have := hb (j + 1) (by omega)
        simp only [e, List.getElem_cons_succ] at this
        rw [show i + 1 + j = i + (j + 1) by omega]; exact this)
      unfold takeR
      rw [if_pos (by omega), if_neg (by omega), e0, show (x % 128 + 128) % 128 = x % 128 by omega, this, hlen]
      have e2 : n + x % 128 * 128 ^ i + x / 128 * 128 ^ (i + 1) = n + x * 128 ^ i := by
        rw [Int.pow_succ, Int.add_assoc, Int.mul_comm ((128 : Int) ^ i) 128, ← Int.mul_assoc, ← Int.add_mul, show x % 128 + x / 128 * 128 = x by omega]
      rw [e2, show i + 1 + (varL d (x / 128)).length = i + ((varL d (x / 128)).length + 1) by omega]
    · have e : varL (d + 1) x = [x] := by simp [varL, hx]
      have hlen : (varL (d + 1) x).length = 1 := by rw [e]; rfl
      have e0 := hb 0 (by omega)
      simp only [e, Nat.add_zero, List.getElem_cons_zero] at e0
      unfold takeR
      rw [if_pos (by omega), if_pos (by omega), if_neg (fun h => by have := hz (by omega); omega), e0, hlen]
      simp
theorem var_of_take (s : ByteArray) (d : Nat) : ∀ (n : Int) (i : Nat), (takeR s (d + 1) n i).2 ≠ 0 →
    ∃ x : Int, 0 ≤ x ∧ (x = 0 → i = 0) ∧ x < 128 ^ (d + 1) ∧ (takeR s (d + 1) n i).1 = n + x * 128 ^ i ∧ (takeR s (d + 1) n i).2 = ((i + (varL d x).length : Nat) : Int) ∧ i + (varL d x).length ≤ s.size ∧
      ∀ j : Nat, ∀ h : j < (varL d x).length, bt s ((i + j : Nat) : Int) = (varL d x)[j] := by
  induction d with
  | zero =>
    intro n i hk
    obtain ⟨b0, b1⟩ := bt_range s i
    unfold takeR at hk ⊢
    by_cases hi : (i : Int) < (s.size : Int)
    · rw [if_pos hi] at hk ⊢
      by_cases hb : bt s i < 128
      · rw [if_pos hb] at hk ⊢
        by_cases hz : i > 0 ∧ bt s i = 0
        · rw [if_pos hz] at hk; exact absurd rfl hk
        · rw [if_neg hz]
          refine ⟨bt s i, b0, fun h => by by_cases g : i = 0; exact g; exact absurd ⟨by omega, h⟩ hz, by simpa using hb, rfl, rfl, by simp [varL]; omega, fun j hj => ?_⟩
          obtain rfl : j = 0 := by simp [varL] at hj; exact hj
          rfl
      · rw [if_neg hb] at hk; exact absurd rfl hk
    · rw [if_neg hi] at hk; exact absurd rfl hk
  | succ d ih =>
    intro n i hk
    obtain ⟨b0, b1⟩ := bt_range s i
    have hp : (128 : Int) ≤ 128 ^ (d + 1 + 1) := by have := pow128_pos (d + 1); rw [Int.pow_succ]; omega
    unfold takeR at hk ⊢
    by_cases hi : (i : Int) < (s.size : Int)
    · rw [if_pos hi] at hk ⊢
      by_cases hb : bt s i < 128
      · rw [if_pos hb] at hk ⊢
        have e : varL (d + 1) (bt s i) = [bt s i] := by simp [varL]; omega
        by_cases hz : i > 0 ∧ bt s i = 0
        · rw [if_pos hz] at hk; exact absurd rfl hk
        · rw [if_neg hz]
          refine ⟨bt s i, b0, fun h => by by_cases g : i = 0; exact g; exact absurd ⟨by omega, h⟩ hz, by omega, rfl, by rw [e]; rfl, by rw [e]; simp; omega, fun j hj => ?_⟩
          simp only [e] at hj ⊢
          obtain rfl : j = 0 := by simpa using hj
          rfl
      · rw [if_neg hb] at hk ⊢
        obtain ⟨x, h1, h2, h3, h4, h5, h6, h7⟩ := ih _ _ hk
        have hx : x ≠ 0 := fun h => by have := h2 h; omega
        have e : varL (d + 1) (bt s i % 128 + x * 128) = bt s i :: varL d x := by
          show (if bt s i % 128 + x * 128 ≥ 128 then ((bt s i % 128 + x * 128) % 128 + 128) :: varL d ((bt s i % 128 + x * 128) / 128) else [bt s i % 128 + x * 128]) = _
          rw [if_pos (by omega), show (bt s i % 128 + x * 128) % 128 + 128 = bt s i by omega, show (bt s i % 128 + x * 128) / 128 = x by omega]
        refine ⟨bt s i % 128 + x * 128, by omega, fun h => by omega, by rw [Int.pow_succ]; omega, ?_, ?_, ?_, ?_⟩
        · rw [h4, Int.pow_succ, Int.add_assoc, Int.mul_comm ((128 : Int) ^ i) 128, ← Int.mul_assoc, ← Int.add_mul]
        · rw [h5, e]; simp only [List.length_cons]; congr 1; omega
        · rw [e]; simp only [List.length_cons]; omega
        · intro j hj
          simp only [e] at hj ⊢
          cases j with
          | zero => rfl
          | succ j => simp only [List.getElem_cons_succ]; rw [show i + (j + 1) = i + 1 + j by omega]; exact h7 j (by simpa using hj)
    · rw [if_neg hi] at hk; exact absurd rfl hk
theorem ba_ext {s t : ByteArray} (hl : s.size = t.size) (h : ∀ i : Nat, i < s.size → bt s (i : Int) = bt t (i : Int)) : s = t := by
  apply ByteArray.ext_getElem hl
  intro i h1 h2
  have := h i h1
  unfold bt at this
  rw [dif_pos (by simpa using h1), dif_pos (by simpa using h2)] at this
  simp only [Int.toNat_natCast] at this
  exact UInt8.toNat_inj.1 (by omega)
theorem bt_left (s t : ByteArray) (i : Nat) (h : i < s.size) : bt (s ++ t) (i : Int) = bt s (i : Int) := by
  unfold bt
  rw [dif_pos (by rw [ByteArray.size_append]; simp; omega), dif_pos (by simpa using h)]
  congr 2
  exact ByteArray.getElem_append_left (by simpa using h)
theorem bt_ext0 (s : ByteArray) (b i : Nat) (h : i < b) (hb : b ≤ s.size) : bt (s.extract 0 b) (i : Int) = bt s (i : Int) := by
  unfold bt
  rw [dif_pos (by rw [ByteArray.size_extract]; simp; omega), dif_pos (by simp; omega)]
  congr 2
  rw [ByteArray.getElem_extract]
  congr 1; simp
theorem pow128_9 : (128 : Int) ^ 9 = 9223372036854775808 := rfl
theorem bt_varB {x : Int} (h0 : 0 ≤ x) (h1 : x ≤ 9223372036854775807) (j : Nat) (h : j < (varL 8 x).length) : bt (varB x) (j : Int) = (varL 8 x)[j] := by
  unfold varB
  rw [bt_strOfNums (varL_by 8 x h0 (by rw [pow128_9]; omega))]
  unfold rd
  rw [List.getD_eq_getElem?_getD, Int.toNat_natCast, List.getElem?_eq_getElem h]; rfl
theorem takeV_var {x : Int} (h0 : 0 ≤ x) (h1 : x ≤ 9223372036854775807) (t : ByteArray) : takeV (varB x ++ t) = (x, ((varB x).size : Int)) := by
  have hs : (varB x).size = (varL 8 x).length := by unfold varB; rw [strOfNums_size]
  have := take_of_var (varB x ++ t) 8 x 0 0 h0 (by rw [pow128_9]; omega) (fun _ => rfl) (by rw [ByteArray.size_append]; omega) (fun j hj => by
    rw [Nat.zero_add, bt_left _ _ _ (by omega), bt_varB h0 h1 j hj])
  unfold takeV
  rw [this, hs]; simp
theorem varB_take (t : ByteArray) (h : (takeV t).2 ≠ 0) : varB (takeV t).1 = t.extract 0 (takeV t).2.toNat := by
  obtain ⟨x, h1, h2, h3, h4, h5, h6, h7⟩ := var_of_take t 8 0 0 h
  rw [pow128_9] at h3
  have e1 : (takeV t).1 = x := by unfold takeV; rw [h4]; simp
  have e2 : (takeV t).2.toNat = (varL 8 x).length := by unfold takeV; rw [h5]; simp
  rw [e1, e2]
  rw [Nat.zero_add] at h6
  have hs : (varB x).size = (varL 8 x).length := by unfold varB; rw [strOfNums_size]
  refine ba_ext (by rw [hs, ByteArray.size_extract]; omega) (fun i hi => ?_)
  rw [bt_ext0 _ _ _ (by omega) h6, bt_varB h1 (by omega) i (by omega)]
  have := h7 i (by omega)
  rw [Nat.zero_add] at this
  exact this.symm

-- part numberM needs laws_numberOf.f
theorem numberOf_l {l : List Int} (hl : ByL l) (hn : l.length ≤ 140737488351232) (d : Nat) : ∀ (x : Int) (i : Nat), i + d = l.length → 0 ≤ x → x < 1000003 → ∃ n, Ev (fun k => laws_numberOf.l0 k x l (l.length : Int) i) n ∧ 0 ≤ n ∧ n < 1000003 := by
  induction d with
  | zero =>
    intro x i hi h0 h1
    refine ⟨x, Ev.step (fun k => by rw [laws_numberOf.l0]) ?_, h0, h1⟩
    exact Ev.neg_ (by omega) (Ev.now _)
  | succ d ih =>
    intro x i hi h0 h1
    have hr := hl.rd_ i
    have ht := tmod_range (x := 31 * x + rd l i) (n := 1000003) (by omega) (by omega)
    obtain ⟨n, e, h2⟩ := ih _ (i + 1) (by omega) ht.1 ht.2.1
    refine ⟨n, Ev.step (fun k => by rw [laws_numberOf.l0]) ?_, h2⟩
    refine Ev.pos_ (by omega) (Ev.pos_ (by omega) (Ev.pos_ (by omega) ?_))
    rw [w64 (n := 31 * x) (by omega) (by omega), w64 (n := rd l i) (by omega) (by omega), w64 (n := 31 * x + rd l i) (by omega) (by omega), w64 (n := (i : Int) + 1) (by omega) (by omega)]
    exact e
theorem numberOf_ {l : List Int} (hl : ByL l) (hn : l.length ≤ 140737488351232) : ∃ n, Ev (fun k => laws_numberOf.f k l) n ∧ 0 ≤ n ∧ n < 1000003 :=
  numberOf_l hl hn l.length 0 0 (by omega) (by omega) (by omega)

-- part tornM: frames come back, torn ones do not
theorem ba_at (s t : ByteArray) (i : Nat) (h : i < t.size) : bt (s ++ t) ((s.size + i : Nat) : Int) = bt t (i : Int) := by
  unfold bt
  rw [dif_pos (by rw [ByteArray.size_append]; simp; omega), dif_pos (by simpa using h)]
  congr 2
  simp only [Int.toNat_natCast]
  rw [ByteArray.getElem_append_right (by omega)]
  congr 1; omega
theorem bt_ext (s : ByteArray) (a b i : Nat) (h : i < b - a) (hb : b ≤ s.size) : bt (s.extract a b) (i : Int) = bt s ((a + i : Nat) : Int) := by
  unfold bt
  rw [dif_pos (by rw [ByteArray.size_extract]; simp; omega), dif_pos (by simp; omega)]
  congr 2
  exact ByteArray.getElem_extract ..
theorem ext_left (s t : ByteArray) : (s ++ t).extract 0 s.size = s := by
  refine ba_ext (by rw [ByteArray.size_extract, ByteArray.size_append]; omega) (fun i hi => ?_)
  rw [ByteArray.size_extract, ByteArray.size_append] at hi
  rw [bt_ext _ _ _ _ (by omega) (by rw [ByteArray.size_append]; omega), Nat.zero_add, bt_left _ _ _ (by omega)]
theorem ext_mid (s t u : ByteArray) (a b : Nat) (ha : a = s.size) (hb : b = s.size + t.size) : ((s ++ t) ++ u).extract a b = t := by
  subst ha; subst hb
  have e1 : ((s ++ t) ++ u).size = s.size + t.size + u.size := by rw [ByteArray.size_append, ByteArray.size_append]
  refine ba_ext (by rw [ByteArray.size_extract, e1]; omega) (fun i hi => ?_)
  rw [ByteArray.size_extract, e1] at hi
  rw [bt_ext _ _ _ _ (by omega) (by rw [e1]; omega), bt_left _ _ _ (by rw [ByteArray.size_append]; omega), ba_at _ _ _ (by omega)]
theorem takeR_pos (s : ByteArray) (d : Nat) : ∀ (n : Int) (i : Nat), (takeR s d n i).2 ≠ 0 → (i : Int) + 1 ≤ (takeR s d n i).2 := by
  induction d with
  | zero => intro n i hz; exact absurd rfl hz
  | succ d ih =>
    intro n i hz
    unfold takeR at hz ⊢
    by_cases hi : (i : Int) < (s.size : Int)
    · rw [if_pos hi] at hz ⊢
      by_cases hb : bt s i < 128
      · rw [if_pos hb] at hz ⊢
        by_cases hc : i > 0 ∧ bt s i = 0
        · rw [if_pos hc] at hz; exact absurd rfl hz
        · rw [if_neg hc]; simp only; omega
      · rw [if_neg hb] at hz ⊢
        have := ih _ _ hz
        omega
    · rw [if_neg hi] at hz; exact absurd rfl hz
/-- Two texts that agree on their first n bytes take the same number there, if it ends there. -/
theorem takeR_same (s t : ByteArray) (m : Nat) (hs : m ≤ s.size) (ht : m ≤ t.size) (h : ∀ i : Nat, i < m → bt s (i : Int) = bt t (i : Int)) (d : Nat) : ∀ (n : Int) (i : Nat), (takeR s d n i).2 ≤ m → (takeR s d n i).2 ≠ 0 → takeR t d n i = takeR s d n i := by
  induction d with
  | zero => intro n i _ hz; exact absurd rfl hz
  | succ d ih =>
    intro n i hm hz
    unfold takeR at hm hz ⊢
    by_cases hi : (i : Int) < (s.size : Int)
    · rw [if_pos hi] at hm hz ⊢
      by_cases hb : bt s i < 128
      · rw [if_pos hb] at hm hz ⊢
        by_cases hc : i > 0 ∧ bt s i = 0
        · rw [if_pos hc] at hz; exact absurd rfl hz
        · rw [if_neg hc] at hm hz ⊢
          simp only at hm
          have e := h i (by omega)
          rw [if_pos (by omega), ← e, if_pos hb, if_neg hc]
      · rw [if_neg hb] at hm hz ⊢
        have hlt : i < m := by
          have h1 := takeR_pos s d _ (i + 1) hz
          omega
        have e := h i hlt
        rw [if_pos (by omega), ← e, if_neg hb]
        exact ih _ _ hm hz
    · rw [if_neg hi] at hz; exact absurd rfl hz
def catR : List ByteArray → ByteArray
  | [] => ⟨#[]⟩
  | t :: ts => frameV t ++ catR ts
theorem takeFrame_front (t rest : ByteArray) (h : t.size ≤ 1000) : takeFrameV (frameV t ++ rest) = (t, ((frameV t).size : Int), true) := by
  have hv := varB_size (t.size : Int)
  have hw := wordV_size (sumV t)
  have e0 : frameV t ++ rest = varB (t.size : Int) ++ ((wordV (sumV t) ++ t) ++ rest) := by
    unfold frameV; simp only [ByteArray.append_assoc]
  have e1 : takeV (frameV t ++ rest) = ((t.size : Int), ((varB (t.size : Int)).size : Int)) := by
    rw [e0]; exact takeV_var (by omega) (by omega) _
  have hs : (frameV t).size = (varB (t.size : Int)).size + 4 + t.size := by unfold frameV; rw [app_size, app_size, hw]
  have e2 : (frameV t ++ rest).extract ((varB (t.size : Int)).size + 4) ((varB (t.size : Int)).size + 4 + t.size) = t := by
    have : frameV t ++ rest = ((varB (t.size : Int) ++ wordV (sumV t)) ++ t) ++ rest := rfl
    rw [this]
    exact ext_mid _ _ _ _ _ (by rw [app_size, hw]) (by rw [app_size, hw])
  have e3 : (frameV t ++ rest).extract (varB (t.size : Int)).size ((varB (t.size : Int)).size + 4) = wordV (sumV t) := by
    have : frameV t ++ rest = ((varB (t.size : Int)) ++ wordV (sumV t)) ++ (t ++ rest) := by unfold frameV; simp only [ByteArray.append_assoc]
    rw [this]
    exact ext_mid _ _ _ _ _ rfl (by rw [hw])
  have n1 : (((varB (t.size : Int)).size : Int) + 4).toNat = (varB (t.size : Int)).size + 4 := by omega
  have n2 : (((varB (t.size : Int)).size : Int) + 4 + (t.size : Int)).toNat = (varB (t.size : Int)).size + 4 + t.size := by omega
  unfold takeFrameV
  rw [e1]
  simp only [n1, n2, Int.toNat_natCast, e2, e3]
  rw [if_neg (by rw [app_size]; omega), if_pos trivial, hs]
  simp
theorem takeFrame_torn (t rest Y : ByteArray) (m : Nat) (h : t.size ≤ 1000) (hm : m < (frameV t).size) (hY : Y = (frameV t ++ rest).extract 0 m) : (takeFrameV Y).2.2 = false := by
  have hv := varB_size (t.size : Int)
  have hw := wordV_size (sumV t)
  have hs : (frameV t).size = (varB (t.size : Int)).size + 4 + t.size := by unfold frameV; rw [app_size, app_size, hw]
  have e0 : frameV t ++ rest = varB (t.size : Int) ++ ((wordV (sumV t) ++ t) ++ rest) := by
    unfold frameV; simp only [ByteArray.append_assoc]
  have e1 : takeV (frameV t ++ rest) = ((t.size : Int), ((varB (t.size : Int)).size : Int)) := by
    rw [e0]; exact takeV_var (by omega) (by omega) _
  have hl : Y.size = m := by rw [hY, ByteArray.size_extract, app_size]; omega
  have hr := takeV_range Y
  by_cases hz : (takeV Y).2 = 0
  · unfold takeFrameV; rw [if_pos (.inl hz)]
  · have := takeR_same Y (frameV t ++ rest) m (by omega) (by rw [app_size]; omega) (fun i hi => by
      rw [hY, bt_ext _ _ _ _ (by omega) (by rw [app_size]; omega), Nat.zero_add]) 9 0 0 (by have := hr.2.2.2.2.1; unfold takeV at this; omega) hz
    have e2 : takeV Y = ((t.size : Int), ((varB (t.size : Int)).size : Int)) := by rw [← e1]; exact this.symm
    unfold takeFrameV
    rw [if_pos (.inr (.inr (by rw [e2]; simp only; omega)))]
theorem framesR_cut : ∀ (ts : List ByteArray) (d : Nat) (acc : List ByteArray) (Y : ByteArray) (a m : Nat), ts.length ≤ d → (∀ t ∈ ts, t.size ≤ 1000) → m ≤ (catR ts).size → Y.extract a Y.size = (catR ts).extract 0 m →
    ∃ j, j ≤ ts.length ∧ framesR Y d acc (a : Int) = (acc ++ ts.take j, ((a + (catR (ts.take j)).size : Nat) : Int)) ∧ (catR (ts.take j)).size ≤ m ∧ (∀ h : j < ts.length, m < (catR (ts.take j)).size + (frameV ts[j]).size) := by
  intro ts
  induction ts with
  | nil =>
    intro d acc Y a m hd ht hm hY
    refine ⟨0, Nat.le_refl _, ?_, Nat.zero_le _, fun h => absurd h (Nat.lt_irrefl _)⟩
    cases d with
    | zero => simp [framesR, catR]; rfl
    | succ d =>
      have hz : (Y.extract a Y.size).size = 0 := by rw [hY, ByteArray.size_extract]; have : (catR []).size = 0 := rfl; omega
      unfold framesR
      rw [Int.toNat_natCast, takeFrameV_empty hz]
      simp [catR]; rfl
  | cons t ts ih =>
    intro d acc Y a m hd ht hm hY
    obtain ⟨d, rfl⟩ : ∃ d', d = d' + 1 := ⟨d - 1, by simp at hd; omega⟩
    have h1 := ht t List.mem_cons_self
    by_cases hc : m < (frameV t).size
    · refine ⟨0, Nat.zero_le _, ?_, Nat.zero_le _, fun h => ?_⟩
      · unfold framesR
        rw [Int.toNat_natCast, takeFrame_torn t (catR ts) _ m h1 hc hY]
        simp [catR]; rfl
      · simp only [List.take_zero, List.getElem_cons_zero]
        have : (catR []).size = 0 := rfl
        omega
    · have hsz : (catR (t :: ts)).size = (frameV t).size + (catR ts).size := app_size _ _
      have eX : (catR (t :: ts)).extract 0 m = frameV t ++ (catR ts).extract 0 (m - (frameV t).size) := by
        refine ba_ext (by rw [ByteArray.size_extract, app_size, ByteArray.size_extract]; omega) (fun i hi => ?_)
        rw [ByteArray.size_extract] at hi
        rw [bt_ext _ _ _ _ (by omega) hm, Nat.zero_add]
        show bt (frameV t ++ catR ts) _ = _
        by_cases hi' : i < (frameV t).size
        · rw [bt_left _ _ _ hi', bt_left _ _ _ hi']
        · obtain ⟨q, rfl⟩ : ∃ q, i = (frameV t).size + q := ⟨i - (frameV t).size, by omega⟩
          rw [ba_at _ _ _ (by omega), ba_at _ _ _ (by rw [ByteArray.size_extract]; omega), bt_ext _ _ _ _ (by omega) (by omega), Nat.zero_add]
      have eY := hY.trans eX
      have hYs : (Y.extract a Y.size).size = (frameV t).size + (m - (frameV t).size) := by rw [eY, app_size, ByteArray.size_extract]; omega
      have hYs2 := hYs
      rw [ByteArray.size_extract] at hYs2
      have eZ : Y.extract (a + (frameV t).size) Y.size = (catR ts).extract 0 (m - (frameV t).size) := by
        refine ba_ext (by rw [ByteArray.size_extract, ByteArray.size_extract]; omega) (fun i hi => ?_)
        rw [ByteArray.size_extract] at hi
        rw [bt_ext _ _ _ _ (by omega) (by omega)]
        have h2 : bt (Y.extract a Y.size) (((frameV t).size + i : Nat) : Int) = bt (frameV t ++ (catR ts).extract 0 (m - (frameV t).size)) (((frameV t).size + i : Nat) : Int) := by rw [eY]
        rw [bt_ext _ _ _ _ (by omega) (by omega), ba_at _ _ _ (by rw [ByteArray.size_extract]; omega)] at h2
        rw [← h2, Nat.add_assoc]
      obtain ⟨j, g1, g2, g3, g4⟩ := ih d (acc ++ [t]) Y (a + (frameV t).size) (m - (frameV t).size) (by simp at hd; omega) (fun x hx => ht x (List.mem_cons_of_mem _ hx)) (by omega) eZ
      have hj : (catR ((t :: ts).take (j + 1))).size = (frameV t).size + (catR (ts.take j)).size := app_size _ _
      refine ⟨j + 1, by simp; omega, ?_, by omega, fun h => ?_⟩
      · unfold framesR
        rw [Int.toNat_natCast, eY, takeFrame_front t _ h1, if_pos rfl]
        simp only
        rw [show ((a : Int) + ((frameV t).size : Int)) = ((a + (frameV t).size : Nat) : Int) by omega, g2, hj]
        rw [List.take_succ_cons, List.append_assoc, List.singleton_append, Nat.add_assoc]
      · have := g4 (by simpa using h)
        rw [hj]
        simp only [List.getElem_cons_succ]
        omega

-- part drawTexts needs spec_l1Cur_texts.f
theorem draw_one {l : List Int} (hl : ByL l) (a s n : Int) (h0 : 0 ≤ a) (h1 : a ≤ 4611686018427387000) : ∃ b a' s', spec_l1Cur_one.f l a s n = some (b, a', s') ∧ a ≤ a' ∧ a' ≤ a + 2 := by
  obtain ⟨v, a', s', e, h2, h3, _⟩ := draw_pick hl a s n h0 h1
  exact ⟨_, a', s', by unfold spec_l1Cur_one.f; rw [e]; rfl, h2, h3⟩
theorem draw_texts_l {l : List Int} (hl : ByL l) (d : Nat) : ∀ (acc : List ByteArray) (a s : Int), acc.length + d ≤ 1000 → 0 ≤ a → a ≤ 4000000000000000000 - 1000 * d →
    ∃ ts a' s', Ev (fun k => spec_l1Cur_texts.l0 k acc (d : Int) l a s) (ts, a', s') ∧ a ≤ a' ∧ a' ≤ a + 1000 * d ∧ ts.length = acc.length + d := by
  induction d with
  | zero =>
    intro acc a s hd h0 h1
    refine ⟨acc, a, s, Ev.step (fun k => by rw [spec_l1Cur_texts.l0]) ?_, by omega, by omega, rfl⟩
    exact Ev.neg_ (by omega) (Ev.now _)
  | succ d ih =>
    intro acc a s hd h0 h1
    obtain ⟨n, a1, s1, e1, h2, h3, h4, h5, h6⟩ := draw_pick hl a s 12 h0 (by omega)
    have := h5 (by omega)
    obtain ⟨t, a2, s2, e2, h7, h8, h9⟩ := draw_text hl a1 s1 n (by omega) (by omega) (by omega) (by omega)
    obtain ⟨ts, a', s', e, g1, g2, g3⟩ := ih (acc ++ [t]) a2 s2 (by simp; omega) (by omega) (by omega)
    refine ⟨ts, a', s', Ev.step (fun k => by rw [spec_l1Cur_texts.l0]) ?_, by omega, by omega, by rw [g3]; simp; omega⟩
    refine Ev.pos_ (by omega) ?_
    rw [e1]
    refine Ev.some_ (Ev.bind e2 (Ev.pos_ (by omega) ?_))
    rw [w64 (by omega) (by omega), show (((d + 1 : Nat) : Int) - 1) = (d : Int) by omega]
    exact e
theorem draw_texts {l : List Int} (hl : ByL l) (a s : Int) (h0 : 0 ≤ a) (h1 : a ≤ 1000000) : ∃ ts a' s', Ev (fun k => spec_l1Cur_texts.f k l a s) (ts, a', s') ∧ a ≤ a' ∧ a' ≤ a + 1000000 ∧ ts.length ≤ 61 := by
  obtain ⟨n, a1, s1, e1, h2, h3, h4, h5, h6⟩ := draw_pick hl a s 6 h0 (by omega)
  have hn := h5 (by omega)
  obtain ⟨b, a2, s2, e2, h7, h8⟩ := draw_one hl a1 s1 30 (by omega) (by omega)
  unfold spec_l1Cur_texts.f
  rw [e1]
  by_cases hb : b = true
  · obtain ⟨m, a3, s3, e3, g1, g2, g3, g4, g5⟩ := draw_pick hl a2 s2 2 (by omega) (by omega)
    have hm := g4 (by omega)
    obtain ⟨ts, a', s', e, k1, k2, k3⟩ := draw_texts_l hl (60 + m).toNat [] a3 s3 (by simp; omega) (by omega) (by omega)
    refine ⟨ts, a', s', ?_, by omega, by omega, by rw [k3]; simp; omega⟩
    refine Ev.some_ ?_
    simp only
    rw [e2]
    refine Ev.some_ (Ev.pos_ hb ?_)
    simp only
    rw [e3]
    refine Ev.some_ (Ev.step (fun k => by rw [spec_l1Cur_texts.j0]) ?_)
    simp only
    rw [w64 (by omega) (by omega)]
    rw [Int.toNat_of_nonneg (by omega)] at e
    exact e
  · obtain ⟨ts, a', s', e, k1, k2, k3⟩ := draw_texts_l hl n.toNat [] a2 s2 (by simp; omega) (by omega) (by omega)
    refine ⟨ts, a', s', ?_, by omega, by omega, by rw [k3]; simp; omega⟩
    refine Ev.some_ ?_
    simp only
    rw [e2]
    refine Ev.some_ (Ev.neg_ hb (Ev.step (fun k => by rw [spec_l1Cur_texts.j0]) ?_))
    simp only
    rw [Int.toNat_of_nonneg h4] at e
    exact e

-- part drawTorn needs spec_l1Cur_torn.f
theorem draw_torn {l : List Int} (hl : ByL l) (a s : Int) (h0 : 0 ≤ a) (h1 : a ≤ 100000000) (t : ByteArray) (ht : t.size ≤ 1000000) : ∃ r, Ev (fun _ => spec_l1Cur_torn.f l a s t) r ∧ r.1.size ≤ 1000000 := by
  obtain ⟨c, a1, s1, e1, h2, h3, h4, h5, h6⟩ := draw_pick hl a s 4 h0 (by omega)
  unfold spec_l1Cur_torn.f
  rw [e1]
  by_cases hc : c = 0
  · obtain ⟨v, a2, s2, e2, g2, g3, g4, g5, g6⟩ := draw_pick hl a1 s1 (wrap64 ((t.size : Int) + 1)) (by omega) (by omega)
    have hw : wrap64 ((t.size : Int) + 1) = (t.size : Int) + 1 := w64 (by omega) (by omega)
    have := g5 (by omega)
    refine ⟨(t.extract 0 v.toNat, a2, s2), Ev.some_ (Ev.pos_ hc ?_), by simp only; rw [ByteArray.size_extract]; omega⟩
    simp only
    rw [e2]
    exact Ev.some_ (Ev.pos_ g4 (Ev.pos_ (by simp only; omega) (Ev.now _)))
  by_cases hc1 : c = 1
  · by_cases hs : ((bytesOf t).length : Int) > 0
    · have hbl := bytesOf_length t
      obtain ⟨v, a2, s2, e2, g2, g3, g4, g5, g6⟩ := draw_pick hl a1 s1 ((bytesOf t).length : Int) (by omega) (by omega)
      obtain ⟨u, a3, s3, e3, k2, k3, k4, k5, k6⟩ := draw_pick hl a2 s2 8 (by omega) (by omega)
      have := g5 (by omega)
      refine ⟨(strOfNums ((bytesOf t).set v.toNat (Go.bits .xor .u8 (rd (bytesOf t) v) (shl .u8 1 (IntKind.u64.wrap u)))), a3, s3), Ev.some_ (Ev.neg_ hc (Ev.pos_ hc1 (Ev.pos_ (by omega) (Ev.some_ (Ev.pos_ hs ?_))))), ?_⟩
      · simp only
        rw [e2]
        refine Ev.some_ (Ev.pos_ g4 (Ev.pos_ this ?_))
        simp only
        rw [e3]
        exact Ev.some_ (Ev.pos_ (by rw [wu64 k4 (by omega)]; exact k4) (Ev.now _))
      · simp only
        rw [strOfNums_size, List.length_set, hbl]; exact ht
    · exact ⟨(t, a1, s1), Ev.some_ (Ev.neg_ hc (Ev.pos_ hc1 (Ev.pos_ (by omega) (Ev.some_ (Ev.neg_ hs (Ev.now _)))))), ht⟩
  · exact ⟨(t, a1, s1), Ev.some_ (Ev.neg_ hc (Ev.neg_ hc1 (Ev.now _))), ht⟩

theorem sameTexts_l (l : List ByteArray) (hl : l.length ≤ 140737488351232) (d : Nat) : ∀ i : Nat, i + d = l.length → Ev (fun k => laws_sameTexts.l0 k l l (l.length : Int) i) true := by
  induction d with
  | zero =>
    intro i hi
    refine Ev.step (fun k => by rw [laws_sameTexts.l0]) ?_
    exact Ev.neg_ (by omega) (Ev.now _)
  | succ d ih =>
    intro i hi
    refine Ev.step (fun k => by rw [laws_sameTexts.l0]) ?_
    refine Ev.pos_ (by omega) (Ev.pos_ (by omega) (Ev.pos_ (by omega) (Ev.pos_ (by omega) (Ev.pos_ rfl ?_))))
    rw [w64 (by omega) (by omega)]
    exact ih (i + 1) (by omega)
theorem sameTexts_ (l : List ByteArray) (hl : l.length ≤ 140737488351232) : Ev (fun k => laws_sameTexts.f k l l) true := by
  unfold laws_sameTexts.f
  exact Ev.pos_ rfl (sameTexts_l l hl l.length 0 (by omega))
theorem framesBR_ok (l : List ByteArray) : ∀ (d i : Nat) (acc : ByteArray), i + d = l.length → (framesBR l d i acc).2 = true → (∀ t ∈ l.drop i, t.size ≤ 1000) ∧ (framesBR l d i acc).1 = acc ++ catR (l.drop i) := by
  intro d
  induction d with
  | zero =>
    intro i acc hi h
    rw [List.drop_eq_nil_of_le (by omega)]
    refine ⟨fun t ht => (by cases ht), ?_⟩
    show acc = acc ++ (⟨#[]⟩ : ByteArray)
    exact (ByteArray.append_empty).symm
  | succ d ih =>
    intro i acc hi h
    have hlt : i < l.length := by omega
    have eg : l.getD i ByteArray.empty = l[i] := by rw [List.getD_eq_getElem?_getD, List.getElem?_eq_getElem hlt]; rfl
    unfold framesBR at h ⊢
    rw [eg] at h ⊢
    split at h
    · cases h
    · rename_i hs
      rw [if_neg hs]
      have hgg := ih (i + 1) _ (by omega) h
      obtain ⟨g1, g2⟩ := hgg
      rw [List.drop_eq_getElem_cons hlt]
      refine ⟨fun t ht => ?_, ?_⟩
      · rcases List.mem_cons.1 ht with h0 | h0
        · rw [h0]; omega
        · exact g1 t h0
      · rw [g2]
        show (acc ++ frameV l[i]) ++ catR (l.drop (i + 1)) = acc ++ (frameV l[i] ++ catR (l.drop (i + 1)))
        rw [ByteArray.append_assoc]
theorem framesBR_size (l : List ByteArray) : ∀ (d i : Nat) (acc : ByteArray), (framesBR l d i acc).1.size ≤ acc.size + d * 1013 := by
  intro d
  induction d with
  | zero => intro i acc; unfold framesBR; show acc.size ≤ _; omega
  | succ d ih =>
    intro i acc
    unfold framesBR
    split
    · show (⟨#[]⟩ : ByteArray).size ≤ _; have : (⟨#[]⟩ : ByteArray).size = 0 := rfl; omega
    · have h1 := ih (i + 1) (acc ++ frameV (l.getD i ByteArray.empty))
      have h2 := frameV_size (l.getD i ByteArray.empty)
      rw [app_size] at h1
      omega
theorem framesBV_size (l : List ByteArray) : (framesBV l).1.size ≤ 60780 := by
  unfold framesBV
  split
  · show (⟨#[]⟩ : ByteArray).size ≤ _; decide
  · have := framesBR_size l l.length 0 ⟨#[]⟩
    have e : (⟨#[]⟩ : ByteArray).size = 0 := rfl
    omega
theorem framesBV_ok {l : List ByteArray} (h : (framesBV l).2 = true) : l.length ≤ 60 ∧ (∀ t ∈ l, t.size ≤ 1000) ∧ (framesBV l).1 = catR l := by
  unfold framesBV at h ⊢
  split at h
  · cases h
  · rename_i hn
    rw [if_neg hn]
    obtain ⟨g1, g2⟩ := framesBR_ok l l.length 0 _ (by omega) h
    rw [List.drop_zero] at g1 g2
    refine ⟨by omega, g1, ?_⟩
    rw [g2]
    exact ByteArray.empty_append
theorem frames_j4 (l : List Int) (hl : ByL l) : Ev (fun k => laws_FnFrames.j4 k l) true := by
  obtain ⟨ts, a, s, e1, h1, h2, h3⟩ := draw_texts hl 0 0 (by omega) (by omega)
  have hz := framesBV_size ts
  obtain ⟨r, e2, h4⟩ := draw_torn hl a s (by omega) (by omega) (framesBV ts).1 (by omega)
  have eD : Ev (fun k => spec_DrawReadFrames.f k l) r.1 := by
    unfold spec_DrawReadFrames.f
    exact Ev.bind e1 (Ev.bind (spec_framesB ts) (Ev.bind e2 (Ev.now _)))
  have hn := framesV_len r.1
  refine Ev.step (fun k => by rw [laws_FnFrames.j4]) ?_
  have eS : Ev (fun k => spec_ReadFrames.f k r.1) ((framesV r.1).1, (framesV r.1).2, ((framesV r.1).2 == (r.1.size : Int))) := by
    unfold spec_ReadFrames.f
    exact Ev.bind (spec_frames r.1 (by omega)) (Ev.now _)
  refine Ev.bind eD (Ev.bind (impl_frames r.1 (by omega)) (Ev.bind eS (Ev.bind (sameTexts_ _ (by dsimp only; omega)) (Ev.pos_ rfl (Ev.pos_ rfl ?_)))))
  simp only [beq_self_eq_true]
  exact Ev.now _
theorem frames_j2 (l : List Int) (hl : ByL l) (ts : List ByteArray) (hn : ts.length ≤ 60) (ht : ∀ t ∈ ts, t.size ≤ 1000) (hz : (catR ts).size ≤ 60780) (m : Nat) (hm : m ≤ (catR ts).size) : Ev (fun k => laws_FnFrames.j2 k l ts (catR ts) (m : Int)) true := by
  have hsz : ((catR ts).extract 0 m).size = m := by rw [ByteArray.size_extract]; omega
  obtain ⟨j, g1, g2, g3, g4⟩ := framesR_cut ts 60 [] ((catR ts).extract 0 m) 0 m hn ht hm (by rw [hsz]; refine ba_ext (by simp only [ByteArray.size_extract]; omega) (fun i hi => ?_); simp only [ByteArray.size_extract] at hi; rw [bt_ext _ _ _ _ (by omega) (by omega), Nat.zero_add])
  have e : framesV ((catR ts).extract 0 m) = (ts.take j, ((catR (ts.take j)).size : Int)) := by
    unfold framesV; rw [show (0 : Int) = ((0 : Nat) : Int) from rfl, g2]; simp
  have hlen : (ts.take j).length = j := by rw [List.length_take]; omega
  refine Ev.step (fun k => by rw [laws_FnFrames.j2]) ?_
  rw [Int.toNat_natCast]
  refine Ev.pos_ (by omega) (Ev.pos_ (by omega) (Ev.bind (impl_frames _ (by omega)) ?_))
  rw [e]
  simp only [hlen]
  refine Ev.neg_ (by omega) (Ev.pos_ (by omega) (Ev.pos_ (by omega) ?_))
  rw [Int.toNat_natCast]
  refine Ev.bind (sameTexts_ _ (by omega)) (Ev.pos_ rfl ?_)
  rw [show decide (((catR (ts.take j)).size : Int) > (m : Int)) = false from decide_eq_false (by omega)]
  refine Ev.step (fun k => by rw [laws_FnFrames.j3]) ?_
  rw [hlen]
  refine Ev.neg_ (by decide) (Ev.ite_ (fun hj => ?_) (fun _ => frames_j4 l hl))
  have hj' : j < ts.length := by omega
  refine Ev.pos_ (by omega) ?_
  have eg : rdOf ByteArray.empty ts (j : Int) = ts[j] := by unfold rdOf; rw [Int.toNat_natCast, List.getD_eq_getElem?_getD, List.getElem?_eq_getElem hj']; rfl
  have h1 := ht ts[j] (List.getElem_mem hj')
  have hF : Ev (fun k => spec_FrameBytes.f k (rdOf ByteArray.empty ts (j : Int))) (frameV ts[j], true) := by
    rw [eg]
    unfold spec_FrameBytes.f
    exact Ev.neg_ (by omega) (Ev.bind (spec_frame _ (by omega)) (Ev.now _))
  have h5 := g4 hj'
  have h6 := frameV_size ts[j]
  refine Ev.bind hF (Ev.neg_ ?_ (frames_j4 l hl))
  simp only
  rw [w64 (by omega) (by omega)]
  omega
theorem FnFrames : laws_FnFrames.Pure := by
  intro l0 l1 _ _ h0 _ hl1 h1
  apply Ev.rounds (r := true)
  unfold laws_FnFrames.f
  refine Ev.ite_ (fun _ => Ev.now _) (fun _ => ?_)
  obtain ⟨ts, a, s, e1, q1, q2, q3⟩ := draw_texts (byL h0) 0 0 (by omega) (by omega)
  have eD : Ev (fun k => spec_DrawFramesBytes.f k l0) ts := by unfold spec_DrawFramesBytes.f; exact Ev.bind e1 (Ev.now _)
  refine Ev.bind eD (Ev.bind (impl_framesB ts) (Ev.bind (spec_framesB ts) (Ev.neg_ (by simp) ?_)))
  simp only [bne_self_eq_false]
  refine Ev.step (fun k => by rw [laws_FnFrames.j0]) ?_
  refine Ev.neg_ (by decide) (Ev.ite_ (fun hok => ?_) (fun _ => frames_j4 l1 (byL h1)))
  obtain ⟨k1, k2, k3⟩ := framesBV_ok hok
  have hz := framesBV_size ts
  rw [k3] at hz ⊢
  obtain ⟨j, g1, g2, g3, g4⟩ := framesR_cut ts 60 [] (catR ts) 0 (catR ts).size k1 k2 (Nat.le_refl _) rfl
  have hj : j = ts.length := by
    by_cases hj : j < ts.length
    · exfalso
      have h5 := g4 hj
      have h6 : ∀ (ts : List ByteArray) (j : Nat) (h : j < ts.length), (catR (ts.take j)).size + (frameV ts[j]).size ≤ (catR ts).size := by
        intro ts
        induction ts with
        | nil => intro j h; cases h
        | cons t ts ih =>
          intro j h
          have e2 : (catR (t :: ts)).size = (frameV t).size + (catR ts).size := app_size _ _
          cases j with
          | zero => simp only [List.take_zero, List.getElem_cons_zero]; have : (catR []).size = 0 := rfl; omega
          | succ j =>
            have e3 : (catR ((t :: ts).take (j + 1))).size = (frameV t).size + (catR (ts.take j)).size := app_size _ _
            have := ih j (by simpa using h)
            simp only [List.getElem_cons_succ]
            omega
      have := h6 ts j hj
      omega
    · omega
  have e : framesV (catR ts) = (ts, ((catR ts).size : Int)) := by
    unfold framesV
    rw [show (0 : Int) = ((0 : Nat) : Int) from rfl, g2, hj, List.take_length]; simp
  refine Ev.bind (impl_frames _ (by omega)) ?_
  rw [e]
  refine Ev.bind (sameTexts_ ts (by omega)) (Ev.pos_ rfl (Ev.pos_ rfl ?_))
  simp only [beq_self_eq_true, Bool.not_true]
  refine Ev.step (fun k => by rw [laws_FnFrames.j1]) ?_
  refine Ev.neg_ (by decide) (Ev.ite_ (fun hp => ?_) (fun _ => frames_j2 l1 (byL h1) ts k1 k2 hz 0 (Nat.zero_le _)))
  obtain ⟨n, en, hn0, hn1⟩ := numberOf_ (byL h1) (by omega)
  refine Ev.bind en ?_
  rw [w64 (n := ((catR ts).size : Int) + 1) (by omega) (by omega)]
  have htm := tmod_range (x := n) (n := ((catR ts).size : Int) + 1) hn0 (by omega)
  refine Ev.neg_ (by omega) ?_
  have := frames_j2 l1 (byL h1) ts k1 k2 hz (Int.tmod n (((catR ts).size : Int) + 1)).toNat (by omega)
  rw [Int.toNat_of_nonneg htm.1] at this
  exact this

end Go.Proofs.Ythbbobokacakjaa.Pure
