/-
  The plain statement of the law FnExactReadFrames, proved: over numbers and lists alone. No condition beyond the given ones.
-/
import Derived.Test.YthbbobokacakjaaMFnExactReadFramesx5
namespace Go.Proofs.Ythbbobokacakjaa.Pure
open Go Go.RowKit Go.Proofs.Ythbbobokacakjaa.MFnExactReadFrames Go.Proofs.YthbbobokacakjaaW.PrintWords Go.Proofs.YthbbobokacakjaaW.PrintLast Go.Proofs.YthbbobokacakjaaW.PrintMore
set_option linter.unusedVariables false
set_option linter.unusedSimpArgs false

-- part base: plain facts on Go's numbers and on rounds
theorem lt_mn {i a b : Int} : i < mn a b ↔ i < a ∧ i < b := by unfold mn; split <;> omega
theorem mn_le {a b : Int} : mn a b ≤ a ∧ mn a b ≤ b := by unfold mn; split <;> omega
theorem w64 {n : Int} (h0 : -9223372036854775808 ≤ n) (h1 : n ≤ 9223372036854775807) : wrap64 n = n := by unfold wrap64; omega
theorem wrap_u64 (n : Int) : IntKind.u64.wrap n = n % 18446744073709551616 := by simp [IntKind.wrap, IntKind.bits, IntKind.signed]
theorem wu64 {n : Int} (h0 : 0 ≤ n) (h1 : n ≤ 18446744073709551615) : IntKind.u64.wrap n = n := by rw [wrap_u64]; omega
theorem wu32 {n : Int} (h0 : 0 ≤ n) (h1 : n ≤ 4294967295) : IntKind.u32.wrap n = n := by rw [IntKind.wrap_u32]; omega
theorem wraps_u32 (n : Int) (h₀ : 0 ≤ n) (h₁ : n < 2 ^ 32) : IntKind.u32.wrap n = n := by rw [IntKind.wrap_u32]; omega
theorem wraps_i64 (n : Int) (h₀ : 0 ≤ n) (h₁ : n < 2 ^ 63) : IntKind.i64.wrap n = n := by rw [IntKind.wrap_i64]; omega
theorem and127 {b : Int} (h0 : 0 ≤ b) (h1 : b ≤ 255) : Go.bits .and .u8 b 127 = b % 128 := bits_mask .u8 8 (by decide) wraps_u8 7 (by decide) b h0 (by omega)
theorem wf_i64 {n : Int} (h : (Lit.int .i64 n).wf = true) : -9223372036854775808 ≤ n ∧ n ≤ 9223372036854775807 := by
  simp only [Lit.wf, Bool.and_eq_true, decide_eq_true_eq] at h
  exact h
theorem wf_u32 {n : Int} (h : (Lit.int .u32 n).wf = true) : 0 ≤ n ∧ n ≤ 4294967295 := by
  simp only [Lit.wf, Bool.and_eq_true, decide_eq_true_eq] at h
  exact h
theorem bits_or_comm (k : IntKind) (x y : Int) : Go.bits .or k x y = Go.bits .or k y x := by
  simp only [Go.bits, BitVec.or_comm]
theorem and127i {b : Int} (h0 : 0 ≤ b) (h1 : b ≤ 9223372036854775807) : Go.bits .and .i64 b 127 = b % 128 := bits_mask .i64 63 (by decide) wraps_i64 7 (by decide) b h0 (by omega)
theorem or128i {b : Int} (h0 : 0 ≤ b) (h1 : b < 128) : Go.bits .or .i64 b 128 = b + 128 := by
  rw [bits_or_comm, bits_join .i64 63 (by decide) wraps_i64 7 128 b (by omega) (by omega) (by omega) h0 (by omega) (by omega)]; omega
theorem Ev.ite_ {α : Type} {c : Prop} [Decidable c] {g f : Nat → Option α} {r : α} (h : c → Ev g r) (k : ¬c → Ev f r) : Ev (fun n => if c then g n else f n) r := by
  by_cases hc : c
  · simp only [if_pos hc]; exact h hc
  · simp only [if_neg hc]; exact k hc
theorem Ev.pos_ {α : Type} {c : Prop} [Decidable c] {g f : Nat → Option α} {r : α} (hc : c) (h : Ev g r) : Ev (fun n => if c then g n else f n) r := by simp only [if_pos hc]; exact h
theorem Ev.neg_ {α : Type} {c : Prop} [Decidable c] {g f : Nat → Option α} {r : α} (hc : ¬c) (h : Ev f r) : Ev (fun n => if c then g n else f n) r := by simp only [if_neg hc]; exact h
theorem Ev.some_ {α β : Type} {f : Nat → α → Option β} {x : α} {r : β} (h : Ev (fun n => f n x) r) : Ev (fun n => (some x).bind (f n)) r := by simpa only [Option.bind_some] using h
theorem bo_and (b c : Bool) : (if b = true then some c else some false) = some (b && c) := by cases b <;> rfl
theorem bo_andP (p : Prop) [Decidable p] (c : Bool) : (if p then some c else some false) = some (decide p && c) := by by_cases h : p <;> simp [h]
theorem bo_orP (p : Prop) [Decidable p] (c : Bool) : (if p then some true else some c) = some (decide p || c) := by by_cases h : p <;> simp [h]
theorem bo_or (b c : Bool) : (if b = true then some true else some c) = some (b || c) := by cases b <;> rfl
def inB (a lo hi : Int) : Bool := decide (lo ≤ a) && decide (a ≤ hi)
theorem inB_iff {a lo hi : Int} : inB a lo hi = true ↔ lo ≤ a ∧ a ≤ hi := by simp [inB]

-- part listM: loops over lists by their index
def mkL {α : Type} (enc : Int → α) (c : Int) : Nat → Int → List α
  | 0, _ => []
  | d + 1, m => enc m :: mkL enc c d (m + c)
theorem mkL_len {α : Type} (enc : Int → α) (c : Int) : ∀ (d : Nat) (m : Int), (mkL enc c d m).length = d := by
  intro d; induction d with
  | zero => intro m; rfl
  | succ d ih => intro m; simp [mkL, ih]
theorem mark_gen {α : Type} (L : Nat → List α → Int → Int → Option (Int × List α)) (enc : Int → α) (c B : Int) (hc : 0 ≤ c)
    (hstep : ∀ (xs : List α) (m : Int) (i : Nat) (r : Int × List α), 0 < m → m + c ≤ B → i < xs.length → xs.length ≤ 140737488351232 → Ev (fun k => L k (xs.set i (enc m)) (m + c) ((i + 1 : Nat) : Int)) r → Ev (fun k => L k xs m (i : Int)) r)
    (hend : ∀ (xs : List α) (m : Int), Ev (fun k => L k xs m (xs.length : Int)) (m, xs)) :
    ∀ (d : Nat) (xs : List α) (m : Int) (i : Nat), i + d = xs.length → 0 < m → m + c * d ≤ B → xs.length ≤ 140737488351232 → Ev (fun k => L k xs m (i : Int)) (m + c * d, xs.take i ++ mkL enc c d m) := by
  intro d
  induction d with
  | zero =>
    intro xs m i hi hm hB hl
    have := hend xs m
    obtain rfl : i = xs.length := by omega
    simpa [mkL] using this
  | succ d ih =>
    intro xs m i hi hm hB hl
    have hcd : c * ((d + 1 : Nat) : Int) = c * d + c := by rw [Int.natCast_add, Int.mul_add]; simp
    have hcd0 : 0 ≤ c * (d : Int) := Int.mul_nonneg hc (by omega)
    refine hstep xs m i _ hm (by omega) (by omega) hl ?_
    have := ih (xs.set i (enc m)) (m + c) (i + 1) (by simp; omega) (by omega) (by omega) (by simpa using hl)
    have e : (xs.set i (enc m)).take (i + 1) ++ mkL enc c d (m + c) = xs.take i ++ mkL enc c (d + 1) m := by
      rw [List.take_set, List.take_succ_eq_append_getElem (by omega), List.set_append_right _ _ (by simp; omega)]
      simp [mkL, Nat.min_eq_left (show i ≤ xs.length by omega)]
    rw [e] at this
    rw [show m + c * ((d + 1 : Nat) : Int) = m + c + c * d by omega]
    exact this
theorem held_gen {α : Type} (H : Nat → List α → Int → Int → Option Int) (enc : Int → α) (c B : Int) (hc : 0 ≤ c)
    (hstep : ∀ (xs : List α) (m : Int) (i : Nat) (r : Int), 0 < m → m + c ≤ B → i < xs.length → xs.length ≤ 140737488351232 → xs[i]? = some (enc m) → Ev (fun k => H k xs (m + c) ((i + 1 : Nat) : Int)) r → Ev (fun k => H k xs m (i : Int)) r)
    (hend : ∀ (xs : List α) (m : Int), Ev (fun k => H k xs m (xs.length : Int)) m) :
    ∀ (d : Nat) (pre : List α) (m : Int), 0 < m → m + c * d ≤ B → pre.length + d ≤ 140737488351232 → Ev (fun k => H k (pre ++ mkL enc c d m) m (pre.length : Int)) (m + c * d) := by
  intro d
  induction d with
  | zero =>
    intro pre m hm hB hl
    have := hend pre m
    simpa [mkL] using this
  | succ d ih =>
    intro pre m hm hB hl
    have hcd : c * ((d + 1 : Nat) : Int) = c * d + c := by rw [Int.natCast_add, Int.mul_add]; simp
    have hcd0 : 0 ≤ c * (d : Int) := Int.mul_nonneg hc (by omega)
    refine hstep _ m pre.length _ hm (by omega) (by simp [mkL]) (by simp [mkL_len]; omega) (by simp [mkL]) ?_
    have := ih (pre ++ [enc m]) (m + c) (by omega) (by omega) (by simp; omega)
    rw [show m + c * ((d + 1 : Nat) : Int) = m + c + c * d by omega]
    simpa [mkL] using this
theorem to_gen {α β : Type} (L : Nat → List α → List β → Int → Option (List β)) (f : α → β) (z : β) (za : α)
    (hstep : ∀ (xs : List α) (ys : List β) (i : Nat) (r : List β), i < xs.length → i < ys.length → xs.length ≤ 140737488351232 → Ev (fun k => L k xs (ys.set i (f (xs.getD i za))) ((i + 1 : Nat) : Int)) r → Ev (fun k => L k xs ys (i : Int)) r)
    (hend : ∀ (xs : List α) (ys : List β), Ev (fun k => L k xs ys (xs.length : Int)) ys) :
    ∀ (d : Nat) (xs : List α) (i : Nat), i + d = xs.length → xs.length ≤ 140737488351232 → Ev (fun k => L k xs ((xs.take i).map f ++ List.replicate d z) (i : Int)) (xs.map f) := by
  intro d
  induction d with
  | zero =>
    intro xs i hi hl
    obtain rfl : i = xs.length := by omega
    have := hend xs (xs.map f)
    simpa using this
  | succ d ih =>
    intro xs i hi hl
    refine hstep xs _ i _ (by omega) (by simp; omega) hl ?_
    have := ih xs (i + 1) (by omega) hl
    have e : ((xs.take i).map f ++ List.replicate (d + 1) z).set i (f (xs.getD i za)) = (xs.take (i + 1)).map f ++ List.replicate d z := by
      have h0 : i - ((xs.take i).map f).length = 0 := by simp; omega
      rw [List.take_succ_eq_append_getElem (show i < xs.length by omega), List.map_append, List.set_append_right _ _ (by simp; omega), List.append_assoc, h0]
      congr 1
      simp [List.replicate_succ, List.getD_eq_getElem?_getD, List.getElem?_eq_getElem (show i < xs.length by omega)]
    rw [e]
    exact this
theorem eq_gen {α : Type} (E : Nat → List α → List α → Int → Option Bool)
    (hstep : ∀ (xs : List α) (i : Nat), i < xs.length → xs.length ≤ 140737488351232 → Ev (fun k => E k xs xs ((i + 1 : Nat) : Int)) true → Ev (fun k => E k xs xs (i : Int)) true)
    (hend : ∀ (xs : List α), Ev (fun k => E k xs xs (xs.length : Int)) true) :
    ∀ (d : Nat) (xs : List α) (i : Nat), i + d = xs.length → xs.length ≤ 140737488351232 → Ev (fun k => E k xs xs (i : Int)) true := by
  intro d
  induction d with
  | zero => intro xs i hi hl; obtain rfl : i = xs.length := by omega
            exact hend xs
  | succ d ih => intro xs i hi hl; exact hstep xs i (by omega) hl (ih xs (i + 1) (by omega) hl)
theorem sz_gen {α : Type} (Z : Nat → List α → Int → Int → Option Int)
    (hstep : ∀ (xs : List α) (m : Int) (i : Nat), i < xs.length → xs.length ≤ 140737488351232 → (∀ m', ∃ r, Ev (fun k => Z k xs m' ((i + 1 : Nat) : Int)) r) → ∃ r, Ev (fun k => Z k xs m (i : Int)) r)
    (hend : ∀ (xs : List α) (m : Int), ∃ r, Ev (fun k => Z k xs m (xs.length : Int)) r) :
    ∀ (d : Nat) (xs : List α) (m : Int) (i : Nat), i + d = xs.length → xs.length ≤ 140737488351232 → ∃ r, Ev (fun k => Z k xs m (i : Int)) r := by
  intro d
  induction d with
  | zero => intro xs m i hi hl; obtain rfl : i = xs.length := by omega
            exact hend xs m
  | succ d ih => intro xs m i hi hl; exact hstep xs m i (by omega) hl (fun m' => ih xs m' (i + 1) (by omega) hl)
theorem wi {i n : Nat} (h : i < n) (hn : n ≤ 140737488351232) : wrap64 ((i : Int) + 1) = ((i + 1 : Nat) : Int) := by rw [w64 (by omega) (by omega)]; omega
theorem rd_nat (xs : List Int) (i : Nat) : rd xs (i : Int) = xs.getD i 0 := by unfold rd; rw [Int.toNat_natCast]
theorem rdOf_nat {α : Type} (d : α) (xs : List α) (i : Nat) : rdOf d xs (i : Int) = xs.getD i d := by unfold rdOf; rw [Int.toNat_natCast]
theorem getD_of {α : Type} {xs : List α} {i : Nat} {a : α} (d : α) (h : xs[i]? = some a) : xs.getD i d = a := by rw [List.getD_eq_getElem?_getD, h]; rfl

-- part eqStringS needs laws_eqStringS.f
theorem eqStringS_refl (l : List ByteArray) (hl : l.length ≤ 140737488351232) : Ev (fun k => laws_eqStringS.f k l l) true := by
  unfold laws_eqStringS.f
  refine Ev.pos_ rfl (eq_gen laws_eqStringS.l0 (fun xs i hi hn h => Ev.step (fun k => ?_) h) (fun xs => Ev.step (f := fun _ => some true) (fun k => ?_) (Ev.now _)) l.length l 0 (by omega) hl)
  · simp only [laws_eqStringS.l0]; rw [if_pos (by omega), if_pos (by omega), if_pos (by omega), if_pos trivial, wi hi hn]
  · simp only [laws_eqStringS.l0]; rw [if_neg (by omega)]

-- part takeM: the number at a text's front
def takeR (s : ByteArray) : Nat → Int → Nat → Int × Int
  | 0, _, _ => (0, 0)
  | d + 1, n, i => if (i : Int) < (s.size : Int) then
      (if bt s i < 128 then (if i > 0 ∧ bt s i = 0 then (0, 0) else (n + bt s i * 128 ^ i, (i : Int) + 1))
        else takeR s d (n + (bt s i % 128) * 128 ^ i) (i + 1))
      else (0, 0)
def takeV (s : ByteArray) : Int × Int := takeR s 9 0 0
theorem pow128 (i : Nat) : (128 : Int) ^ i = 2 ^ (7 * i) := by rw [Int.pow_mul]; rfl
theorem pow128_pos (i : Nat) : (0 : Int) < 128 ^ i := Int.pow_pos (by decide)
theorem pow128_le {i : Nat} (h : i ≤ 9) : (128 : Int) ^ i ≤ 9223372036854775808 := by
  have : ∀ j : Nat, j < 10 → (128 : Int) ^ j ≤ 9223372036854775808 := by decide
  exact this i (by omega)
theorem or_shl {n c : Int} {i : Nat} (hn : 0 ≤ n) (hn' : n < 128 ^ i) (hc : 0 ≤ c) (hc' : c < 128) (hi : i ≤ 8) : Go.bits .or .i64 n (shl .i64 c (7 * (i : Int))) = n + c * 128 ^ i := by
  have hp := pow128_pos i
  have h9 := pow128_le (i := i + 1) (by omega)
  rw [Int.pow_succ] at h9
  have hlt : c * 128 ^ i < 9223372036854775808 := by
    have : c * 128 ^ i ≤ 127 * 128 ^ i := Int.mul_le_mul_of_nonneg_right (by omega) (by omega)
    omega
  have h0 : 0 ≤ c * 128 ^ i := Int.mul_nonneg hc (by omega)
  have e : shl .i64 c (7 * (i : Int)) = c * 128 ^ i := by
    unfold shl
    rw [show min (7 * (i : Int)).toNat IntKind.i64.bits = 7 * i by simp only [IntKind.bits]; omega, ← pow128]
    exact wraps_i64 _ h0 hlt
  have h8 := pow128_le (i := i) (by omega)
  rw [e, bits_or_comm, bits_join .i64 63 (by decide) wraps_i64 (7 * i) (c * 128 ^ i) n h0 (by rw [pow128]; exact Int.mul_emod_left _ _) hlt hn (by rw [← pow128]; exact hn') (by have : (2 : Int) ^ 63 = 9223372036854775808 := rfl; omega)]
  omega
theorem acc_lt {n c : Int} {i : Nat} (hn' : n < 128 ^ i) (hc' : c < 128) (hc : 0 ≤ c) : n + c * 128 ^ i < 128 ^ (i + 1) := by
  have hp := pow128_pos i
  have : c * 128 ^ i ≤ 127 * 128 ^ i := Int.mul_le_mul_of_nonneg_right (by omega) (by omega)
  rw [Int.pow_succ]; omega
theorem takeR_range (s : ByteArray) (d : Nat) : ∀ (n : Int) (i : Nat), 0 ≤ n → n < 128 ^ i → i + d = 9 →
    0 ≤ (takeR s d n i).1 ∧ (takeR s d n i).1 ≤ 9223372036854775807 ∧ 0 ≤ (takeR s d n i).2 ∧ (takeR s d n i).2 ≤ 9 ∧ (takeR s d n i).2 ≤ s.size ∧ ((takeR s d n i).2 = 0 → (takeR s d n i).1 = 0) := by
  induction d with
  | zero => intro n i h0 h1 hd; simp [takeR]
  | succ d ih =>
    intro n i h0 h1 hd
    obtain ⟨b0, b1⟩ := bt_range s i
    have hp := pow128_pos i
    unfold takeR
    split
    · split
      · split
        · simp
        · have h2 : 0 ≤ bt s i * 128 ^ i := Int.mul_nonneg b0 (by omega)
          have h3 := acc_lt h1 (c := bt s i) (by omega) b0
          have h4 := pow128_le (i := i + 1) (by omega)
          refine ⟨by simp only; omega, by simp only; omega, by simp only; omega, by simp only; omega, by simp only; omega, by simp only; omega⟩
      · exact ih _ _ (by have : 0 ≤ bt s i % 128 * 128 ^ i := Int.mul_nonneg (by omega) (by omega); omega) (acc_lt h1 (by omega) (by omega)) (by omega)
    · simp
theorem takeV_range (s : ByteArray) : 0 ≤ (takeV s).1 ∧ (takeV s).1 ≤ 9223372036854775807 ∧ 0 ≤ (takeV s).2 ∧ (takeV s).2 ≤ 9 ∧ (takeV s).2 ≤ s.size ∧ ((takeV s).2 = 0 → (takeV s).1 = 0) :=
  takeR_range s 9 0 0 (by omega) (by decide) rfl

-- part specTake needs spec_l2Take.f
theorem spec_take_l (s : ByteArray) (d : Nat) : ∀ (n : Int) (i : Nat), 0 ≤ n → n < 128 ^ i → i + d = 9 → Ev (fun k => spec_l2Take.l0 k s n i) (takeR s d n i) := by
  induction d with
  | zero =>
    intro n i hn hn' hd
    refine Ev.step (f := fun k => spec_l2Take.j1 k s n i false) (fun k => ?_) (Ev.step (f := fun _ => some (0, 0)) (fun k => ?_) (Ev.now _))
    · simp only [spec_l2Take.l0]; rw [if_neg (by omega)]
    · simp only [spec_l2Take.j1]; rfl
  | succ d ih =>
    intro n i hn hn' hd
    have e7 : wrap64 (7 * (i : Int)) = 7 * i := w64 (by omega) (by omega)
    have e1 : wrap64 ((i : Int) + 1) = ((i + 1 : Nat) : Int) := by rw [w64 (by omega) (by omega)]; omega
    have u7 : IntKind.u64.wrap (7 * (i : Int)) = 7 * i := wu64 (by omega) (by omega)
    obtain ⟨b0, b1⟩ := bt_range s i
    have ea := and127 b0 b1
    have ea' : wrap64 (bt s i % 128) = bt s i % 128 := w64 (by omega) (by omega)
    have eo := or_shl hn hn' (c := bt s i % 128) (by omega) (by omega) (i := i) (by omega)
    refine Ev.step (f := fun k => spec_l2Take.j1 k s n i (decide ((i : Int) < (s.size : Int)))) (fun k => ?_) ?_
    · simp only [spec_l2Take.l0]; rw [if_pos (by omega)]
    · unfold takeR
      by_cases hl : (i : Int) < (s.size : Int)
      · rw [if_pos hl]
        refine Ev.step (fun k => ?_) (f := fun k => if bt s i < 128 then (if i > 0 ∧ bt s i = 0 then some (0, 0) else some (n + bt s i * 128 ^ i, (i : Int) + 1))
          else spec_l2Take.l0 k s (n + (bt s i % 128) * 128 ^ i) ((i + 1 : Nat) : Int)) ?_
        · simp only [spec_l2Take.j1]
          rw [if_pos (by simpa using hl), if_pos (by omega), if_pos hl, e7, u7, if_pos (by omega), ea, ea', eo, e1]
          by_cases hb : bt s i < 128
          · rw [if_pos hb, if_pos hb, show bt s i % 128 = bt s i by omega]
            by_cases hi : i > 0
            · rw [if_pos (by omega)]
              by_cases hz : bt s i = 0
              · rw [if_pos hz, if_pos ⟨hi, hz⟩]
              · rw [if_neg hz, if_neg (fun h => hz h.2)]; rfl
            · rw [if_neg (by omega), if_neg (fun h => hi h.1)]; rfl
          · rw [if_neg hb, if_neg hb]
        · by_cases hb : bt s i < 128
          · simp only [if_pos hb]
            split <;> exact Ev.now _
          · simp only [if_neg hb]
            exact ih _ _ (by have : 0 ≤ bt s i % 128 * 128 ^ i := Int.mul_nonneg (by omega) (by have := pow128_pos i; omega); omega) (acc_lt hn' (by omega) (by omega)) (by omega)
      · rw [if_neg hl]
        refine Ev.step (f := fun _ => some (0, 0)) (fun k => ?_) (Ev.now _)
        simp only [spec_l2Take.j1]
        rw [if_neg (by simpa using hl)]
theorem spec_take (s : ByteArray) : Ev (fun k => spec_l2Take.f k s) (takeV s) := spec_take_l s 9 0 0 (by omega) (by decide) rfl

-- part implTake needs impl_TakeVar.f
theorem impl_take_l (s : ByteArray) (d : Nat) : ∀ (n : Int) (i : Nat), 0 ≤ n → n < 128 ^ i → i + d = 9 → Ev (fun k => impl_TakeVar.l0 k s n i) (takeR s d n i) := by
  induction d with
  | zero =>
    intro n i hn hn' hd
    refine Ev.step (f := fun _ => some (0, 0)) (fun k => ?_) (Ev.now _)
    simp only [impl_TakeVar.l0]; rw [if_neg (by rw [lt_mn]; omega)]
  | succ d ih =>
    intro n i hn hn' hd
    have e7 : wrap64 (7 * (i : Int)) = 7 * i := w64 (by omega) (by omega)
    have e1 : wrap64 ((i : Int) + 1) = ((i + 1 : Nat) : Int) := by rw [w64 (by omega) (by omega)]; omega
    obtain ⟨b0, b1⟩ := bt_range s i
    have eb : wrap64 (bt s i) = bt s i := w64 (by omega) (by omega)
    have et : Int.tmod (bt s i) 128 = bt s i % 128 := Int.tmod_eq_emod_of_nonneg b0
    have eo := or_shl hn hn' (c := bt s i % 128) (by omega) (by omega) (i := i) (by omega)
    unfold takeR
    by_cases hl : (i : Int) < (s.size : Int)
    · rw [if_pos hl]
      refine Ev.step (fun k => ?_) (f := fun k => if bt s i < 128 then (if i > 0 ∧ bt s i = 0 then some (0, 0) else some (n + bt s i * 128 ^ i, (i : Int) + 1))
        else impl_TakeVar.l0 k s (n + (bt s i % 128) * 128 ^ i) ((i + 1 : Nat) : Int)) ?_
      · simp only [impl_TakeVar.l0]
        rw [if_pos (by rw [lt_mn]; omega), if_pos (by omega), if_pos hl, e7, if_pos (by omega), eb, et, eo, e1]
        by_cases hb : bt s i < 128
        · rw [if_pos hb, if_pos hb, show bt s i % 128 = bt s i by omega]
          by_cases hi : i > 0
          · rw [if_pos (by omega)]
            by_cases hz : bt s i = 0
            · rw [if_pos hz, if_pos ⟨hi, hz⟩]
            · rw [if_neg hz, if_neg (fun h => hz h.2)]; rfl
          · rw [if_neg (by omega), if_neg (fun h => hi h.1)]; rfl
        · rw [if_neg hb, if_neg hb]
      · by_cases hb : bt s i < 128
        · simp only [if_pos hb]
          split <;> exact Ev.now _
        · simp only [if_neg hb]
          exact ih _ _ (by have : 0 ≤ bt s i % 128 * 128 ^ i := Int.mul_nonneg (by omega) (by have := pow128_pos i; omega); omega) (acc_lt hn' (by omega) (by omega)) (by omega)
    · rw [if_neg hl]
      refine Ev.step (f := fun _ => some (0, 0)) (fun k => ?_) (Ev.now _)
      simp only [impl_TakeVar.l0]
      rw [if_neg (by rw [lt_mn]; omega)]
theorem impl_take (s : ByteArray) : Ev (fun k => impl_TakeVar.f k s) (takeV s) := impl_take_l s 9 0 0 (by omega) (by decide) rfl

-- part sumM: the table of sums and the sum of a text
def crcStep (n : Int) : Int := if Go.bits .and .u32 n 1 = 1 then Go.bits .xor .u32 (n / 2) 2197175160 else n / 2
def crcIt : Nat → Int → Int
  | 0, n => n
  | d + 1, n => crcIt d (crcStep n)
def crcE (i : Nat) : Int := crcIt 8 (i : Int)
def crcT : List Int := (List.range 256).map crcE
theorem crcT_len : crcT.length = 256 := by simp [crcT]
theorem xor_comm_ (k : IntKind) (x y : Int) : Go.bits .xor k x y = Go.bits .xor k y x := by simp only [Go.bits, BitVec.xor_comm]
theorem bits_u8 (op : BinOp) (x y : Int) : 0 ≤ Go.bits op .u8 x y ∧ Go.bits op .u8 x y < 256 := by
  unfold Go.bits; rw [IntKind.wrap_u8]; exact ⟨Int.emod_nonneg _ (by decide), Int.emod_lt_of_pos _ (by decide)⟩
theorem bits_u32 (op : BinOp) (x y : Int) : 0 ≤ Go.bits op .u32 x y ∧ Go.bits op .u32 x y < 4294967296 := by
  unfold Go.bits; rw [IntKind.wrap_u32]; exact ⟨Int.emod_nonneg _ (by decide), Int.emod_lt_of_pos _ (by decide)⟩
def sumR (s : ByteArray) : Nat → Nat → Int → Int
  | 0, _, x => x
  | d + 1, i, x => sumR s d (i + 1) (Go.bits .xor .u32 (x / 256) (rd crcT (Go.bits .xor .u8 (x % 256) (bt s i))))
def sumOnV (x : Int) (s : ByteArray) : Int := sumR s s.size 0 x
def sumV (s : ByteArray) : Int := Go.bits .xor .u32 4294967295 (sumOnV 4294967295 s)
theorem sumV_range (s : ByteArray) : 0 ≤ sumV s ∧ sumV s < 4294967296 := bits_u32 _ _ _

-- part specTable needs spec_l2Table.f
theorem spec_table_in (d : Nat) : ∀ (T : List Int) (i x j y z : Int) (r : List Int), 0 ≤ j → j + d = 8 → 0 ≤ i → i < T.length →
    Ev (fun k => spec_l2Table.l0 k (T.set i.toNat (crcIt d x)) y (wrap64 (z + 1))) r → Ev (fun k => spec_l2Table.l1 k T i x j y z) r := by
  induction d with
  | zero =>
    intro T i x j y z r h0 hd hi hi' h
    refine Ev.step (fun k => ?_) h
    simp only [spec_l2Table.l1]
    rw [if_neg (by omega), if_pos hi, if_pos hi']; rfl
  | succ d ih =>
    intro T i x j y z r h0 hd hi hi' h
    refine Ev.step (fun k => ?_) (ih T i (crcStep x) (j + 1) y z r (by omega) (by omega) hi hi' h)
    simp only [spec_l2Table.l1]
    rw [if_pos (by omega), w64 (by omega) (by omega)]
    unfold crcStep
    split <;> rfl
theorem spec_table_l (d : Nat) : ∀ (i : Nat), i + d = 256 → Ev (fun k => spec_l2Table.l0 k ((List.range i).map crcE ++ List.replicate d 0) 256 i) crcT := by
  induction d with
  | zero =>
    intro i hi
    obtain rfl : i = 256 := by omega
    refine Ev.step (f := fun _ => some crcT) (fun k => ?_) (Ev.now _)
    simp only [spec_l2Table.l0]; rw [if_neg (by omega)]; simp [crcT]
  | succ d ih =>
    intro i hi
    have e : ((List.range i).map crcE ++ List.replicate (d + 1) 0).set (i : Int).toNat (crcE i) = (List.range (i + 1)).map crcE ++ List.replicate d 0 := by
      rw [Int.toNat_natCast, List.range_succ, List.map_append, List.set_append_right _ _ (by simp)]
      simp [List.replicate_succ]
    refine Ev.step (f := fun k => spec_l2Table.l1 k ((List.range i).map crcE ++ List.replicate (d + 1) 0) i i 0 256 i) (fun k => ?_) ?_
    · simp only [spec_l2Table.l0]; rw [if_pos (by omega), Int.emod_eq_of_lt (by omega) (by omega)]
    · refine spec_table_in 8 _ _ _ _ _ _ _ (by omega) rfl (by omega) (by simp; omega) ?_
      have := ih (i + 1) (by omega)
      rw [show crcIt 8 (i : Int) = crcE i from rfl, e, w64 (by omega) (by omega)]
      exact this
theorem spec_table : Ev (fun k => spec_l2Table.f k) crcT := by
  unfold spec_l2Table.f
  refine Ev.pos_ (by decide) ?_
  show Ev (fun k => spec_l2Table.l0 k (List.replicate 256 0) ((List.replicate 256 (0 : Int)).length : Int) 0) crcT
  rw [List.length_replicate]
  exact spec_table_l 256 0 rfl

-- part implTable needs impl_SumTable.f
theorem impl_table_in (d : Nat) : ∀ (T : List Int) (x z j : Int) (r : List Int), 0 ≤ j → j + d = 8 → T.length < 35184372088832 →
    Ev (fun k => impl_SumTable.l0 k (T ++ [crcIt d x]) ((z + 1) % 4294967296)) r → Ev (fun k => impl_SumTable.l1 k T x z j) r := by
  induction d with
  | zero =>
    intro T x z j r h0 hd hi h
    refine Ev.step (fun k => ?_) h
    simp only [impl_SumTable.l1]
    rw [if_neg (by omega), if_pos hi]; rfl
  | succ d ih =>
    intro T x z j r h0 hd hi h
    refine Ev.step (fun k => ?_) (ih T (crcStep x) z (j + 1) r (by omega) (by omega) hi h)
    simp only [impl_SumTable.l1]
    rw [if_pos (by omega), w64 (by omega) (by omega)]
    unfold crcStep
    split <;> rfl
theorem impl_table_l (d : Nat) : ∀ (i : Nat), i + d = 256 → Ev (fun k => impl_SumTable.l0 k ((List.range i).map crcE) i) crcT := by
  induction d with
  | zero =>
    intro i hi
    obtain rfl : i = 256 := by omega
    refine Ev.step (f := fun _ => some crcT) (fun k => ?_) (Ev.now _)
    simp only [impl_SumTable.l0]; rw [if_neg (by omega)]; rfl
  | succ d ih =>
    intro i hi
    refine Ev.step (f := fun k => impl_SumTable.l1 k ((List.range i).map crcE) i i 0) (fun k => ?_) ?_
    · simp only [impl_SumTable.l0]; rw [if_pos (by omega)]
    · refine impl_table_in 8 _ _ _ _ _ (by omega) rfl (by simp; omega) ?_
      have := ih (i + 1) (by omega)
      rw [Int.emod_eq_of_lt (by omega) (by omega)]
      rw [List.range_succ, List.map_append] at this
      exact this
theorem impl_table : Ev (fun k => impl_SumTable.f k) crcT := impl_table_l 256 0 rfl

-- part specOn needs spec_l2On.f
theorem spec_on_l (s : ByteArray) (hs : s.size ≤ 140737488351232) (d : Nat) : ∀ (i : Nat) (x : Int), i + d = s.size → Ev (fun k => spec_l2On.l0 k crcT x s i) (sumR s d i x) := by
  induction d with
  | zero =>
    intro i x hi
    refine Ev.step (f := fun _ => some x) (fun k => ?_) (Ev.now _)
    simp only [spec_l2On.l0]; rw [if_neg (by omega)]
  | succ d ih =>
    intro i x hi
    have hr := bits_u8 .xor (x % 256) (bt s i)
    refine Ev.step (fun k => ?_) (ih (i + 1) _ (by omega))
    simp only [spec_l2On.l0]
    rw [if_pos (by omega), if_pos (by omega), if_pos hr.1, if_pos (by rw [crcT_len]; exact hr.2), xor_comm_ .u32, w64 (by omega) (by omega)]; rfl
theorem spec_on (x : Int) (s : ByteArray) (hs : s.size ≤ 140737488351232) : Ev (fun k => spec_l2On.f k crcT x s) (sumOnV x s) := spec_on_l s hs _ 0 x (by omega)

-- part implOn needs impl_SumOn.f
theorem impl_on_l (s : ByteArray) (hs : s.size ≤ 140737488351232) (d : Nat) : ∀ (i : Nat) (x : Int), i + d = s.size → Ev (fun k => impl_SumOn.l0 k x s crcT (s.size : Int) i) (sumR s d i x) := by
  induction d with
  | zero =>
    intro i x hi
    refine Ev.step (f := fun _ => some x) (fun k => ?_) (Ev.now _)
    simp only [impl_SumOn.l0]; rw [if_neg (by omega)]
  | succ d ih =>
    intro i x hi
    have hr := bits_u8 .xor (x % 256) (bt s i)
    refine Ev.step (fun k => ?_) (ih (i + 1) _ (by omega))
    simp only [impl_SumOn.l0]
    rw [if_pos (by omega), if_pos (by omega), if_pos (by omega), if_pos hr.1, if_pos (by rw [crcT_len]; exact hr.2), w64 (by omega) (by omega)]; rfl
theorem impl_on (x : Int) (s : ByteArray) (hs : s.size ≤ 140737488351232) : Ev (fun k => impl_SumOn.f k x s) (sumOnV x s) :=
  Ev.bind impl_table (impl_on_l s hs _ 0 x (by omega))

-- part specSum needs spec_l2Sum.f
theorem spec_sum (s : ByteArray) (hs : s.size ≤ 140737488351232) : Ev (fun k => spec_l2Sum.f k s) (sumV s) :=
  Ev.bind spec_table (Ev.bind (spec_on 4294967295 s hs) (Ev.now _))

-- part implSum needs impl_SumOf.f
theorem impl_sum (s : ByteArray) (hs : s.size ≤ 140737488351232) : Ev (fun k => impl_SumOf.f k s) (sumV s) :=
  Ev.bind (impl_on 4294967295 s hs) (Ev.now _)

-- part wordM: a word's bytes, the lowest first
def lowL : Nat → Int → List Int
  | 0, _ => []
  | d + 1, n => (n % 256) :: lowL d (n / 256)
def lowV (n : Int) (many : Nat) : ByteArray := strOfNums (lowL many n)
def wordV (n : Int) : ByteArray := lowV n 4
theorem lowL_len : ∀ (d : Nat) (n : Int), (lowL d n).length = d := by
  intro d; induction d with
  | zero => intro n; rfl
  | succ d ih => intro n; simp [lowL, ih]
theorem lowV_size (n : Int) (d : Nat) : (lowV n d).size = d := by unfold lowV; rw [strOfNums_size, lowL_len]
theorem wordV_size (n : Int) : (wordV n).size = 4 := lowV_size n 4

-- part specWord needs spec_l2Word.f
theorem spec_word (n : Int) : spec_l2Word.f n = some (wordV n) := by
  unfold spec_l2Word.f wordV lowV
  simp only [lowL]
  rw [show n / 256 / 256 = n / 65536 by omega, show n / 65536 / 256 = n / 16777216 by omega]

-- part implLow needs impl_lowFirst.f
theorem impl_low_l (m : Int) (hm : m ≤ 1000) : ∀ (d : Nat) (n : Int) (acc : List Int) (i : Int), 0 ≤ i → i + d = m → acc.length + d ≤ 2000 → Ev (fun k => impl_lowFirst.l0 k n acc m i) (strOfNums (acc ++ lowL d n)) := by
  intro d
  induction d with
  | zero =>
    intro n acc i h0 hi hl
    refine Ev.step (f := fun _ => some (strOfNums acc)) (fun k => ?_) (by simpa [lowL] using Ev.now _)
    simp only [impl_lowFirst.l0]; rw [if_neg (by omega)]
  | succ d ih =>
    intro n acc i h0 hi hl
    have := ih (n / 256) (acc ++ [n % 256]) (i + 1) (by omega) (by omega) (by simp; omega)
    rw [List.append_assoc] at this
    refine Ev.step (fun k => ?_) this
    simp only [impl_lowFirst.l0]
    rw [if_pos (by omega), if_pos (by omega), w64 (by omega) (by omega)]
theorem impl_low (n : Int) (m : Nat) (hm : m ≤ 1000) : Ev (fun k => impl_lowFirst.f k n m) (lowV n m) :=
  impl_low_l m (by omega) m n [] 0 (by omega) (by omega) (by simp; omega)

-- part takeFrameM
def takeFrameV (s : ByteArray) : ByteArray × Int × Bool :=
  if (takeV s).2 = 0 ∨ (takeV s).1 > 1000 ∨ (s.size : Int) < (takeV s).2 + 4 + (takeV s).1 then (⟨#[]⟩, 0, false)
  else if (wordV (sumV (s.extract ((takeV s).2 + 4).toNat ((takeV s).2 + 4 + (takeV s).1).toNat))).toList = (s.extract (takeV s).2.toNat ((takeV s).2 + 4).toNat).toList then
    (s.extract ((takeV s).2 + 4).toNat ((takeV s).2 + 4 + (takeV s).1).toNat, (takeV s).2 + 4 + (takeV s).1, true)
  else (⟨#[]⟩, 0, false)
theorem extract_le (s : ByteArray) (a b : Nat) : (s.extract a b).size ≤ s.size := by rw [ByteArray.size_extract]; omega
theorem takeFrameV_ok {s : ByteArray} (h : (takeFrameV s).2.2 = true) : 5 ≤ (takeFrameV s).2.1 ∧ (takeFrameV s).2.1 ≤ s.size := by
  have hr := takeV_range s
  unfold takeFrameV at h ⊢
  split at h
  · cases h
  · rename_i hc
    split at h
    · rename_i hd
      rw [if_neg hc, if_pos hd]; simp only; omega
    · cases h
theorem takeFrameV_empty {s : ByteArray} (h : s.size = 0) : (takeFrameV s).2.2 = false := by
  have : (takeV s).2 = 0 := by unfold takeV takeR; simp [h]
  unfold takeFrameV; rw [if_pos (.inl this)]

-- part specTakeFrame needs spec_l2TakeFrame.f
theorem spec_takeFrame (s : ByteArray) (hs : s.size ≤ 140737488351232) : Ev (fun k => spec_l2TakeFrame.f k s) (takeFrameV s) := by
  have hr := takeV_range s
  have key : (¬ (takeV s).2 = 0 → ¬ (takeV s).1 > 1000 → ¬ (s.size : Int) < (takeV s).2 + 4 + (takeV s).1 → Ev (fun k => spec_l2TakeFrame.j0 k s (takeV s).1 (takeV s).2 false) (takeFrameV s)) ∧
      ((takeV s).2 = 0 ∨ (takeV s).1 > 1000 ∨ (s.size : Int) < (takeV s).2 + 4 + (takeV s).1 → Ev (fun k => spec_l2TakeFrame.j0 k s (takeV s).1 (takeV s).2 true) (takeFrameV s)) := by
    constructor
    · intro h1 h2 h3
      unfold takeFrameV
      rw [if_neg (by omega)]
      have ea : wrap64 ((takeV s).2 + 4) = (takeV s).2 + 4 := w64 (by omega) (by omega)
      have eb : wrap64 ((takeV s).2 + 4 + (takeV s).1) = (takeV s).2 + 4 + (takeV s).1 := w64 (by omega) (by omega)
      refine Ev.step (fun k => by rw [spec_l2TakeFrame.j0]) (Ev.neg_ (by simp) ?_)
      simp only [ea, eb]
      refine Ev.pos_ (by omega) (Ev.pos_ (by omega) (Ev.pos_ (by omega) ?_))
      refine Ev.bind (spec_sum _ (Nat.le_trans (extract_le _ _ _) hs)) ?_
      simp only [spec_word, Option.bind_some]
      refine Ev.pos_ (by omega) (Ev.pos_ (by omega) (Ev.pos_ (by omega) ?_))
      by_cases hw : (wordV (sumV (s.extract ((takeV s).2 + 4).toNat ((takeV s).2 + 4 + (takeV s).1).toNat))).toList = (s.extract (takeV s).2.toNat ((takeV s).2 + 4).toNat).toList
      · simp only [if_pos hw]; exact Ev.now _
      · simp only [if_neg hw]; exact Ev.now _
    · intro h
      unfold takeFrameV
      rw [if_pos h]
      exact Ev.step (fun k => by rw [spec_l2TakeFrame.j0]) (Ev.pos_ rfl (Ev.now _))
  unfold spec_l2TakeFrame.f
  refine Ev.bind (spec_take s) ?_
  by_cases h1 : (takeV s).2 = 0
  · exact Ev.pos_ h1 (key.2 (.inl h1))
  · refine Ev.neg_ h1 ?_
    by_cases h2 : (takeV s).1 > 1000
    · exact Ev.pos_ h2 (key.2 (.inr (.inl h2)))
    · refine Ev.neg_ h2 ?_
      have ec : wrap64 (wrap64 ((takeV s).2 + 4) + (takeV s).1) = (takeV s).2 + 4 + (takeV s).1 := by
        rw [w64 (n := (takeV s).2 + 4) (by omega) (by omega), w64 (by omega) (by omega)]
      simp only [ec]
      by_cases h3 : (s.size : Int) < (takeV s).2 + 4 + (takeV s).1
      · simp only [decide_eq_true h3]; exact key.2 (.inr (.inr h3))
      · simp only [decide_eq_false h3]; exact key.1 h1 h2 h3

-- part implTakeFrame needs impl_TakeFrame.f
theorem impl_takeFrame (s : ByteArray) (hs : s.size ≤ 140737488351232) : Ev (fun k => impl_TakeFrame.f k s) (takeFrameV s) := by
  have hr := takeV_range s
  have key : (¬ (takeV s).2 = 0 → ¬ (takeV s).1 > 1000 → ¬ (s.size : Int) < (takeV s).2 + 4 + (takeV s).1 → Ev (fun k => impl_TakeFrame.j0 k s (takeV s).1 (takeV s).2 false) (takeFrameV s)) ∧
      ((takeV s).2 = 0 ∨ (takeV s).1 > 1000 ∨ (s.size : Int) < (takeV s).2 + 4 + (takeV s).1 → Ev (fun k => impl_TakeFrame.j0 k s (takeV s).1 (takeV s).2 true) (takeFrameV s)) := by
    constructor
    · intro h1 h2 h3
      unfold takeFrameV
      rw [if_neg (by omega)]
      have ea : wrap64 ((takeV s).2 + 4) = (takeV s).2 + 4 := w64 (by omega) (by omega)
      have eb : wrap64 ((takeV s).2 + 4 + (takeV s).1) = (takeV s).2 + 4 + (takeV s).1 := w64 (by omega) (by omega)
      refine Ev.step (fun k => by rw [impl_TakeFrame.j0]) (Ev.neg_ (by simp) ?_)
      simp only [ea, eb]
      refine Ev.pos_ (by omega) (Ev.pos_ (by omega) (Ev.pos_ (by omega) ?_))
      refine Ev.bind (impl_sum _ (Nat.le_trans (extract_le _ _ _) hs)) ?_
      refine Ev.bind (impl_low _ 4 (by omega)) ?_
      refine Ev.pos_ (by omega) (Ev.pos_ (by omega) (Ev.pos_ (by omega) ?_))
      by_cases hw : (wordV (sumV (s.extract ((takeV s).2 + 4).toNat ((takeV s).2 + 4 + (takeV s).1).toNat))).toList = (s.extract (takeV s).2.toNat ((takeV s).2 + 4).toNat).toList
      · simp only [if_pos hw]; exact Ev.pos_ hw (Ev.now _)
      · simp only [if_neg hw]; exact Ev.neg_ hw (Ev.now _)
    · intro h
      unfold takeFrameV
      rw [if_pos h]
      exact Ev.step (fun k => by rw [impl_TakeFrame.j0]) (Ev.pos_ rfl (Ev.now _))
  unfold impl_TakeFrame.f
  refine Ev.bind (impl_take s) ?_
  by_cases h1 : (takeV s).2 = 0
  · exact Ev.pos_ h1 (key.2 (.inl h1))
  · refine Ev.neg_ h1 ?_
    by_cases h2 : (takeV s).1 > 1000
    · exact Ev.pos_ h2 (key.2 (.inr (.inl h2)))
    · refine Ev.neg_ h2 ?_
      have ec : wrap64 (wrap64 ((takeV s).2 + 4) + (takeV s).1) = (takeV s).2 + 4 + (takeV s).1 := by
        rw [w64 (n := (takeV s).2 + 4) (by omega) (by omega), w64 (by omega) (by omega)]
      simp only [ec]
      by_cases h3 : (s.size : Int) < (takeV s).2 + 4 + (takeV s).1
      · simp only [decide_eq_true h3]; exact key.2 (.inr (.inr h3))
      · simp only [decide_eq_false h3]; exact key.1 h1 h2 h3

-- part framesM: the frames at a text's front
def framesR (s : ByteArray) : Nat → List ByteArray → Int → List ByteArray × Int
  | 0, acc, at_ => (acc, at_)
  | d + 1, acc, at_ => if (takeFrameV (s.extract at_.toNat s.size)).2.2 = true then framesR s d (acc ++ [(takeFrameV (s.extract at_.toNat s.size)).1]) (at_ + (takeFrameV (s.extract at_.toNat s.size)).2.1) else (acc, at_)
def framesV (s : ByteArray) : List ByteArray × Int := framesR s 60 [] 0
theorem framesR_len (s : ByteArray) : ∀ (d : Nat) (acc : List ByteArray) (at_ : Int), (framesR s d acc at_).1.length ≤ acc.length + d := by
  intro d
  induction d with
  | zero => intro acc a; simp [framesR]
  | succ d ih =>
    intro acc a
    unfold framesR
    split
    · have := ih (acc ++ [(takeFrameV (s.extract a.toNat s.size)).1]) (a + (takeFrameV (s.extract a.toNat s.size)).2.1)
      simp only [List.length_append, List.length_singleton] at this; omega
    · simp
theorem framesV_len (s : ByteArray) : (framesV s).1.length ≤ 60 := by have := framesR_len s 60 [] 0; unfold framesV; simpa using this
theorem from_size (s : ByteArray) (a : Int) (h0 : 0 ≤ a) (h1 : a ≤ s.size) : ((s.extract a.toNat s.size).size : Int) = s.size - a := by rw [ByteArray.size_extract]; omega

-- part specFrames needs spec_l2Frames.f
theorem spec_frames_l (s : ByteArray) (hs : s.size ≤ 140737488351232) : ∀ (d : Nat) (acc : List ByteArray) (a : Int), 0 ≤ a → a ≤ s.size → acc.length + d = 60 → Ev (fun k => spec_l2Frames.l0 k s acc a) (framesR s d acc a) := by
  intro d
  induction d with
  | zero =>
    intro acc a h0 h1 hd
    refine Ev.step (f := fun k => spec_l2Frames.j1 k s acc a false) (fun k => ?_) (Ev.step (f := fun _ => some (acc, a)) (fun k => ?_) (Ev.now _))
    · simp only [spec_l2Frames.l0]
      split
      · rw [decide_eq_false (by omega)]
      · rfl
    · simp only [spec_l2Frames.j1]; rfl
  | succ d ih =>
    intro acc a h0 h1 hd
    have hz := from_size s a h0 h1
    unfold framesR
    by_cases hl : a < (s.size : Int)
    · refine Ev.step (f := fun k => spec_l2Frames.j1 k s acc a true) (fun k => ?_) (Ev.step (fun k => by rw [spec_l2Frames.j1]) ?_)
      · simp only [spec_l2Frames.l0]
        rw [if_pos hl, decide_eq_true (by omega)]
      · refine Ev.pos_ rfl (Ev.pos_ h0 (Ev.pos_ h1 (Ev.bind (spec_takeFrame _ (Nat.le_trans (extract_le _ _ _) hs)) ?_)))
        by_cases hk : (takeFrameV (s.extract a.toNat s.size)).2.2 = true
        · have ho := takeFrameV_ok hk
          rw [if_pos hk]
          refine Ev.pos_ hk (Ev.pos_ (by omega) ?_)
          have ew : wrap64 (a + (takeFrameV (s.extract a.toNat s.size)).2.1) = a + (takeFrameV (s.extract a.toNat s.size)).2.1 := w64 (by omega) (by omega)
          rw [ew]
          exact ih _ _ (by omega) (by omega) (by simp; omega)
        · rw [if_neg hk]; exact Ev.neg_ hk (Ev.now _)
    · have he := takeFrameV_empty (s := s.extract a.toNat s.size) (by omega)
      rw [if_neg (by rw [he]; simp)]
      refine Ev.step (f := fun k => spec_l2Frames.j1 k s acc a false) (fun k => ?_) (Ev.step (f := fun _ => some (acc, a)) (fun k => ?_) (Ev.now _))
      · simp only [spec_l2Frames.l0]; rw [if_neg hl]
      · simp only [spec_l2Frames.j1]; rfl
theorem spec_frames (s : ByteArray) (hs : s.size ≤ 140737488351232) : Ev (fun k => spec_l2Frames.f k s) (framesV s) := spec_frames_l s hs 60 [] 0 (by omega) (by omega) rfl

-- part implFrames needs impl_ReadFrames.f
theorem impl_frames_l (s : ByteArray) (hs : s.size ≤ 140737488351232) : ∀ (d : Nat) (acc : List ByteArray) (a : Int), 0 ≤ a → a ≤ s.size → acc.length + d = 60 → Ev (fun k => impl_ReadFrames.l0 k s acc a) ((framesR s d acc a).1, (framesR s d acc a).2, ((framesR s d acc a).2 == (s.size : Int))) := by
  intro d
  induction d with
  | zero =>
    intro acc a h0 h1 hd
    refine Ev.step (f := fun _ => some (acc, a, (a == (s.size : Int)))) (fun k => ?_) (Ev.now _)
    simp only [impl_ReadFrames.l0]; rw [if_neg (by omega)]
  | succ d ih =>
    intro acc a h0 h1 hd
    have hz := from_size s a h0 h1
    unfold framesR
    refine Ev.step (fun k => by rw [impl_ReadFrames.l0]) ?_
    refine Ev.pos_ (by omega) (Ev.pos_ h0 (Ev.pos_ h1 (Ev.bind (impl_takeFrame _ (Nat.le_trans (extract_le _ _ _) hs)) ?_)))
    by_cases hk : (takeFrameV (s.extract a.toNat s.size)).2.2 = true
    · have ho := takeFrameV_ok hk
      simp only [if_pos hk]
      refine Ev.pos_ (by omega) ?_
      have ew : wrap64 (a + (takeFrameV (s.extract a.toNat s.size)).2.1) = a + (takeFrameV (s.extract a.toNat s.size)).2.1 := w64 (by omega) (by omega)
      rw [ew]
      exact ih _ _ (by omega) (by omega) (by simp; omega)
    · simp only [if_neg hk]; exact Ev.now _
theorem impl_frames (s : ByteArray) (hs : s.size ≤ 140737488351232) : Ev (fun k => impl_ReadFrames.f k s) ((framesV s).1, (framesV s).2, ((framesV s).2 == (s.size : Int))) := impl_frames_l s hs 60 [] 0 (by omega) (by omega) rfl

-- part markText needs laws_markText.f
def markR : Nat → Int → ByteArray → ByteArray
  | 0, _, acc => (⟨#[109]⟩ : ByteArray) ++ acc
  | d + 1, x, acc => if x > 0 then markR d (x / 10) (strOfNums [(48 + x % 10) % 256] ++ acc) else (⟨#[109]⟩ : ByteArray) ++ acc
def markT (m : Int) : ByteArray := markR 19 m ⟨#[]⟩
theorem markText_l : ∀ (d : Nat) (x : Int) (acc : ByteArray), 0 ≤ x → x < 10 ^ d → x ≤ 9223372036854775807 → acc.size + d ≤ 100 → Ev (fun k => laws_markText.l0 k x acc) (markR d x acc) := by
  intro d
  induction d with
  | zero =>
    intro x acc h0 h1 hx hs
    have hp : (10 : Int) ^ 0 = 1 := rfl
    refine Ev.step (fun k => by rw [laws_markText.l0]) ?_
    exact Ev.neg_ (by omega) (Ev.pos_ (by omega) (Ev.now _))
  | succ d ih =>
    intro x acc h0 h1 hx hs
    unfold markR
    refine Ev.step (fun k => by rw [laws_markText.l0]) ?_
    by_cases hp : x > 0
    · rw [if_pos hp]
      refine Ev.pos_ hp ?_
      simp only [Option.bind_some]
      have e1 : wrap64 (48 + Int.tmod x 10) % 256 = (48 + x % 10) % 256 := by rw [Int.tmod_eq_emod_of_nonneg h0, w64 (by omega) (by omega)]
      have e2 : wrap64 (Int.tdiv x 10) = x / 10 := by rw [Int.tdiv_eq_ediv_of_nonneg h0, w64 (by omega) (by omega)]
      have hz : (strOfNums [(48 + x % 10) % 256]).size = 1 := by rw [strOfNums_size]; rfl
      rw [e1, e2]
      refine Ev.pos_ (by omega) (ih _ _ (by omega) (by rw [Int.pow_succ] at h1; omega) (by omega) ?_)
      rw [ByteArray.size_append, hz]; omega
    · rw [if_neg hp]
      exact Ev.neg_ hp (Ev.pos_ (by omega) (Ev.now _))
theorem markText_ {m : Int} (h0 : 0 < m) (h1 : m ≤ 4611686018427387904) : Ev (fun k => laws_markText.f k m) (markT m) := by
  unfold laws_markText.f
  refine Ev.neg_ (by omega) (markText_l 19 m ⟨#[]⟩ (by omega) ?_ (by omega) (by decide))
  have : (10 : Int) ^ 19 = 10000000000000000000 := rfl
  omega

-- part markheldStringS needs laws_markStringS.f laws_heldStringS.f
theorem markStringS_step (xs : List ByteArray) (m : Int) (i : Nat) (r : Int × List ByteArray) (hm : 0 < m) (hB : m + 1 ≤ 4611686018427387904) (hi : i < xs.length) (hn : xs.length ≤ 140737488351232)
    (h : Ev (fun k => laws_markStringS.l0 k (xs.set i (markT m)) (m + 1) ((i + 1 : Nat) : Int)) r) : Ev (fun k => laws_markStringS.l0 k xs m (i : Int)) r := by
  refine Ev.step (fun k => by rw [laws_markStringS.l0]) ?_
  refine Ev.pos_ (by omega) (Ev.bind (markText_ hm (by omega)) (Ev.pos_ (by omega) ?_))
  simp only [wi hi hn, Int.toNat_natCast, w64 (n := m + 1) (by omega) (by omega)]; exact h
theorem heldStringS_step (xs : List ByteArray) (m : Int) (i : Nat) (r : Int) (hm : 0 < m) (hB : m + 1 ≤ 4611686018427387904) (hi : i < xs.length) (hn : xs.length ≤ 140737488351232) (he : xs[i]? = some (markT m))
    (h : Ev (fun k => laws_heldStringS.l0 k xs (m + 1) ((i + 1 : Nat) : Int)) r) : Ev (fun k => laws_heldStringS.l0 k xs m (i : Int)) r := by
  refine Ev.step (fun k => by rw [laws_heldStringS.l0]) ?_
  refine Ev.pos_ (by omega) (Ev.pos_ (by omega) (Ev.bind (markText_ hm (by omega)) ?_))
  rw [rdOf_nat, getD_of _ he]
  refine Ev.pos_ rfl ?_
  simp only [wi hi hn, w64 (n := m + 1) (by omega) (by omega)]; exact h
theorem markheldStringS (l : List ByteArray) (hl : l.length ≤ 140737488351232) : ∃ r l', Ev (fun k => laws_markStringS.f k l 1) (r, l') ∧ Ev (fun k => laws_heldStringS.f k l' 1) r ∧ 0 ≤ r := by
  refine ⟨1 + 1 * l.length, mkL markT 1 l.length 1, ?_, ?_, by omega⟩
  · have := mark_gen laws_markStringS.l0 markT 1 4611686018427387904 (by omega) markStringS_step (fun xs m => Ev.step (f := fun _ => some (m, xs)) (fun k => ?_) (Ev.now _)) l.length l 1 0 (by omega) (by omega) (by omega) hl
    · unfold laws_markStringS.f; simpa using this
    · simp only [laws_markStringS.l0]; rw [if_neg (by omega)]
  · have := held_gen laws_heldStringS.l0 markT 1 4611686018427387904 (by omega) heldStringS_step (fun xs m => Ev.step (f := fun _ => some m) (fun k => ?_) (Ev.now _)) l.length [] 1 (by omega) (by omega) (by simpa using hl)
    · unfold laws_heldStringS.f; simpa using this
    · simp only [laws_heldStringS.l0]; rw [if_neg (by omega)]

theorem FnExactReadFrames : laws_FnExactReadFrames.Pure := by
  intro s hs
  apply Ev.rounds (r := true)
  have hl : (framesV s).1.length ≤ 140737488351232 := by have := framesV_len s; omega
  obtain ⟨r, l', h1, h2, h3⟩ := markheldStringS (framesV s).1 hl
  have he := eqStringS_refl (framesV s).1 hl
  unfold laws_FnExactReadFrames.f spec_ReadFrames.f
  refine Ev.ite_ (fun _ => Ev.now _) (fun _ => ?_)
  refine Ev.bind (Ev.bind (spec_frames s hs) (Ev.now _)) ?_
  refine Ev.bind (impl_frames s hs) ?_
  refine Ev.bind he ?_
  refine Ev.pos_ rfl (Ev.pos_ rfl ?_)
  refine Ev.step (fun k => by rw [laws_FnExactReadFrames.j0]) ?_
  refine Ev.neg_ (by simp) ?_
  refine Ev.bind h1 ?_
  refine Ev.bind h2 ?_
  refine Ev.neg_ (by omega) (Ev.pos_ rfl ?_)
  refine Ev.bind (impl_frames s hs) ?_
  refine Ev.bind he ?_
  refine Ev.pos_ rfl (Ev.pos_ rfl ?_)
  refine Ev.step (fun k => by rw [laws_FnExactReadFrames.j1]) ?_
  refine Ev.neg_ (by simp) ?_
  refine Ev.bind h2 ?_
  exact Ev.neg_ (by omega) (Ev.pos_ rfl (Ev.now _))

end Go.Proofs.Ythbbobokacakjaa.Pure
