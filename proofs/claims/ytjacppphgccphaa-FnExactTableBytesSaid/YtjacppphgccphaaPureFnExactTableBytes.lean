/-
  The plain statement of the law FnExactTableBytes, proved: over numbers and lists alone. No condition beyond the given ones.
-/
import Derived.Test.YtjacppphgccphaaMFnExactTableBytesx16
namespace Go.Proofs.Ytjacppphgccphaa.Pure
open Go Go.RowKit Go.Proofs.Ytjacppphgccphaa.MFnExactTableBytes Go.Proofs.YtjacppphgccphaaW.PrintWords Go.Proofs.YtjacppphgccphaaW.PrintLast Go.Proofs.YtjacppphgccphaaW.PrintMore
set_option linter.unusedVariables false
set_option linter.unusedSimpArgs false

-- part base: plain facts on Go's numbers and on rounds
theorem lt_mn {i a b : Int} : i < mn a b ↔ i < a ∧ i < b := by unfold mn; split <;> omega
theorem mn_le {a b : Int} : mn a b ≤ a ∧ mn a b ≤ b := by unfold mn; split <;> omega
theorem w64 {n : Int} (h0 : -9223372036854775808 ≤ n) (h1 : n ≤ 9223372036854775807) : wrap64 n = n := by unfold wrap64; omega
theorem wrap_u64 (n : Int) : IntKind.u64.wrap n = n % 18446744073709551616 := by simp [IntKind.wrap, IntKind.bits, IntKind.signed]
theorem wu64 {n : Int} (h0 : 0 ≤ n) (h1 : n ≤ 18446744073709551615) : IntKind.u64.wrap n = n := by rw [wrap_u64]; omega
theorem wu32 {n : Int} (h0 : 0 ≤ n) (h1 : n ≤ 4294967295) : IntKind.u32.wrap n = n := by rw [IntKind.wrap_u32]; omega
theorem wraps_u32 (n : Int) (h₀ : 0 ≤ n) (h₁ : n < 2 ^ 32) : IntKind.u32.wrap n = n := by rw [IntKind.wrap_u32]; omega
theorem wraps_i64 (n : Int) (h₀ : 0 ≤ n) (h₁ : n < 2 ^ 63) : IntKind.i64.wrap n = n := by rw [IntKind.wrap_i64]; omega
theorem and127 {b : Int} (h0 : 0 ≤ b) (h1 : b ≤ 255) : Go.bits .and .u8 b 127 = b % 128 := bits_mask .u8 8 (by decide) wraps_u8 7 (by decide) b h0 (by omega)
theorem wf_i64 {n : Int} (h : (Lit.int .i64 n).wf = true) : -9223372036854775808 ≤ n ∧ n ≤ 9223372036854775807 := by
  simp only [Lit.wf, Bool.and_eq_true, decide_eq_true_eq] at h
  exact h
theorem wf_u32 {n : Int} (h : (Lit.int .u32 n).wf = true) : 0 ≤ n ∧ n ≤ 4294967295 := by
  simp only [Lit.wf, Bool.and_eq_true, decide_eq_true_eq] at h
  exact h
theorem bits_or_comm (k : IntKind) (x y : Int) : Go.bits .or k x y = Go.bits .or k y x := by
  simp only [Go.bits, BitVec.or_comm]
theorem and127i {b : Int} (h0 : 0 ≤ b) (h1 : b ≤ 9223372036854775807) : Go.bits .and .i64 b 127 = b % 128 := bits_mask .i64 63 (by decide) wraps_i64 7 (by decide) b h0 (by omega)
theorem or128i {b : Int} (h0 : 0 ≤ b) (h1 : b < 128) : Go.bits .or .i64 b 128 = b + 128 := by
  rw [bits_or_comm, bits_join .i64 63 (by decide) wraps_i64 7 128 b (by omega) (by omega) (by omega) h0 (by omega) (by omega)]; omega
theorem Ev.ite_ {α : Type} {c : Prop} [Decidable c] {g f : Nat → Option α} {r : α} (h : c → Ev g r) (k : ¬c → Ev f r) : Ev (fun n => if c then g n else f n) r := by
  by_cases hc : c
  · simp only [if_pos hc]; exact h hc
  · simp only [if_neg hc]; exact k hc
theorem Ev.pos_ {α : Type} {c : Prop} [Decidable c] {g f : Nat → Option α} {r : α} (hc : c) (h : Ev g r) : Ev (fun n => if c then g n else f n) r := by simp only [if_pos hc]; exact h
theorem Ev.neg_ {α : Type} {c : Prop} [Decidable c] {g f : Nat → Option α} {r : α} (hc : ¬c) (h : Ev f r) : Ev (fun n => if c then g n else f n) r := by simp only [if_neg hc]; exact h
theorem Ev.some_ {α β : Type} {f : Nat → α → Option β} {x : α} {r : β} (h : Ev (fun n => f n x) r) : Ev (fun n => (some x).bind (f n)) r := by simpa only [Option.bind_some] using h
theorem bo_and (b c : Bool) : (if b = true then some c else some false) = some (b && c) := by cases b <;> rfl
theorem bo_andP (p : Prop) [Decidable p] (c : Bool) : (if p then some c else some false) = some (decide p && c) := by by_cases h : p <;> simp [h]
theorem bo_orP (p : Prop) [Decidable p] (c : Bool) : (if p then some true else some c) = some (decide p || c) := by by_cases h : p <;> simp [h]
theorem bo_or (b c : Bool) : (if b = true then some true else some c) = some (b || c) := by cases b <;> rfl
def inB (a lo hi : Int) : Bool := decide (lo ≤ a) && decide (a ≤ hi)
theorem inB_iff {a lo hi : Int} : inB a lo hi = true ↔ lo ≤ a ∧ a ≤ hi := by simp [inB]

-- part listM: loops over lists by their index
def mkL {α : Type} (enc : Int → α) (c : Int) : Nat → Int → List α
  | 0, _ => []
  | d + 1, m => enc m :: mkL enc c d (m + c)
theorem mkL_len {α : Type} (enc : Int → α) (c : Int) : ∀ (d : Nat) (m : Int), (mkL enc c d m).length = d := by
  intro d; induction d with
  | zero => intro m; rfl
  | succ d ih => intro m; simp [mkL, ih]
theorem mark_gen {α : Type} (L : Nat → List α → Int → Int → Option (Int × List α)) (enc : Int → α) (c B : Int) (hc : 0 ≤ c)
    (hstep : ∀ (xs : List α) (m : Int) (i : Nat) (r : Int × List α), 0 < m → m + c ≤ B → i < xs.length → xs.length ≤ 140737488351232 → Ev (fun k => L k (xs.set i (enc m)) (m + c) ((i + 1 : Nat) : Int)) r → Ev (fun k => L k xs m (i : Int)) r)
    (hend : ∀ (xs : List α) (m : Int), Ev (fun k => L k xs m (xs.length : Int)) (m, xs)) :
    ∀ (d : Nat) (xs : List α) (m : Int) (i : Nat), i + d = xs.length → 0 < m → m + c * d ≤ B → xs.length ≤ 140737488351232 → Ev (fun k => L k xs m (i : Int)) (m + c * d, xs.take i ++ mkL enc c d m) := by
  intro d
  induction d with
  | zero =>
    intro xs m i hi hm hB hl
    have := hend xs m
    obtain rfl : i = xs.length := by omega
    simpa [mkL] using this
  | succ d ih =>
    intro xs m i hi hm hB hl
    have hcd : c * ((d + 1 : Nat) : Int) = c * d + c := by rw [Int.natCast_add, Int.mul_add]; simp
    have hcd0 : 0 ≤ c * (d : Int) := Int.mul_nonneg hc (by omega)
    refine hstep xs m i _ hm (by omega) (by omega) hl ?_
    have := ih (xs.set i (enc m)) (m + c) (i + 1) (by simp; omega) (by omega) (by omega) (by simpa using hl)
    have e : (xs.set i (enc m)).take (i + 1) ++ mkL enc c d (m + c) = xs.take i ++ mkL enc c (d + 1) m := by
      rw [List.take_set, List.take_succ_eq_append_getElem (by omega), List.set_append_right _ _ (by simp; omega)]
      simp [mkL, Nat.min_eq_left (show i ≤ xs.length by omega)]
    rw [e] at this
    rw [show m + c * ((d + 1 : Nat) : Int) = m + c + c * d by omega]
    exact this
theorem held_gen {α : Type} (H : Nat → List α → Int → Int → Option Int) (enc : Int → α) (c B : Int) (hc : 0 ≤ c)
    (hstep : ∀ (xs : List α) (m : Int) (i : Nat) (r : Int), 0 < m → m + c ≤ B → i < xs.length → xs.length ≤ 140737488351232 → xs[i]? = some (enc m) → Ev (fun k => H k xs (m + c) ((i + 1 : Nat) : Int)) r → Ev (fun k => H k xs m (i : Int)) r)
    (hend : ∀ (xs : List α) (m : Int), Ev (fun k => H k xs m (xs.length : Int)) m) :
    ∀ (d : Nat) (pre : List α) (m : Int), 0 < m → m + c * d ≤ B → pre.length + d ≤ 140737488351232 → Ev (fun k => H k (pre ++ mkL enc c d m) m (pre.length : Int)) (m + c * d) := by
  intro d
  induction d with
  | zero =>
    intro pre m hm hB hl
    have := hend pre m
    simpa [mkL] using this
  | succ d ih =>
    intro pre m hm hB hl
    have hcd : c * ((d + 1 : Nat) : Int) = c * d + c := by rw [Int.natCast_add, Int.mul_add]; simp
    have hcd0 : 0 ≤ c * (d : Int) := Int.mul_nonneg hc (by omega)
    refine hstep _ m pre.length _ hm (by omega) (by simp [mkL]) (by simp [mkL_len]; omega) (by simp [mkL]) ?_
    have := ih (pre ++ [enc m]) (m + c) (by omega) (by omega) (by simp; omega)
    rw [show m + c * ((d + 1 : Nat) : Int) = m + c + c * d by omega]
    simpa [mkL] using this
theorem to_gen {α β : Type} (L : Nat → List α → List β → Int → Option (List β)) (f : α → β) (z : β) (za : α)
    (hstep : ∀ (xs : List α) (ys : List β) (i : Nat) (r : List β), i < xs.length → i < ys.length → xs.length ≤ 140737488351232 → Ev (fun k => L k xs (ys.set i (f (xs.getD i za))) ((i + 1 : Nat) : Int)) r → Ev (fun k => L k xs ys (i : Int)) r)
    (hend : ∀ (xs : List α) (ys : List β), Ev (fun k => L k xs ys (xs.length : Int)) ys) :
    ∀ (d : Nat) (xs : List α) (i : Nat), i + d = xs.length → xs.length ≤ 140737488351232 → Ev (fun k => L k xs ((xs.take i).map f ++ List.replicate d z) (i : Int)) (xs.map f) := by
  intro d
  induction d with
  | zero =>
    intro xs i hi hl
    obtain rfl : i = xs.length := by omega
    have := hend xs (xs.map f)
    simpa using this
  | succ d ih =>
    intro xs i hi hl
    refine hstep xs _ i _ (by omega) (by simp; omega) hl ?_
    have := ih xs (i + 1) (by omega) hl
    have e : ((xs.take i).map f ++ List.replicate (d + 1) z).set i (f (xs.getD i za)) = (xs.take (i + 1)).map f ++ List.replicate d z := by
      have h0 : i - ((xs.take i).map f).length = 0 := by simp; omega
      rw [List.take_succ_eq_append_getElem (show i < xs.length by omega), List.map_append, List.set_append_right _ _ (by simp; omega), List.append_assoc, h0]
      congr 1
      simp [List.replicate_succ, List.getD_eq_getElem?_getD, List.getElem?_eq_getElem (show i < xs.length by omega)]
    rw [e]
    exact this
theorem eq_gen {α : Type} (E : Nat → List α → List α → Int → Option Bool)
    (hstep : ∀ (xs : List α) (i : Nat), i < xs.length → xs.length ≤ 140737488351232 → Ev (fun k => E k xs xs ((i + 1 : Nat) : Int)) true → Ev (fun k => E k xs xs (i : Int)) true)
    (hend : ∀ (xs : List α), Ev (fun k => E k xs xs (xs.length : Int)) true) :
    ∀ (d : Nat) (xs : List α) (i : Nat), i + d = xs.length → xs.length ≤ 140737488351232 → Ev (fun k => E k xs xs (i : Int)) true := by
  intro d
  induction d with
  | zero => intro xs i hi hl; obtain rfl : i = xs.length := by omega
            exact hend xs
  | succ d ih => intro xs i hi hl; exact hstep xs i (by omega) hl (ih xs (i + 1) (by omega) hl)
theorem sz_gen {α : Type} (Z : Nat → List α → Int → Int → Option Int)
    (hstep : ∀ (xs : List α) (m : Int) (i : Nat), i < xs.length → xs.length ≤ 140737488351232 → (∀ m', ∃ r, Ev (fun k => Z k xs m' ((i + 1 : Nat) : Int)) r) → ∃ r, Ev (fun k => Z k xs m (i : Int)) r)
    (hend : ∀ (xs : List α) (m : Int), ∃ r, Ev (fun k => Z k xs m (xs.length : Int)) r) :
    ∀ (d : Nat) (xs : List α) (m : Int) (i : Nat), i + d = xs.length → xs.length ≤ 140737488351232 → ∃ r, Ev (fun k => Z k xs m (i : Int)) r := by
  intro d
  induction d with
  | zero => intro xs m i hi hl; obtain rfl : i = xs.length := by omega
            exact hend xs m
  | succ d ih => intro xs m i hi hl; exact hstep xs m i (by omega) hl (fun m' => ih xs m' (i + 1) (by omega) hl)
theorem wi {i n : Nat} (h : i < n) (hn : n ≤ 140737488351232) : wrap64 ((i : Int) + 1) = ((i + 1 : Nat) : Int) := by rw [w64 (by omega) (by omega)]; omega
theorem rd_nat (xs : List Int) (i : Nat) : rd xs (i : Int) = xs.getD i 0 := by unfold rd; rw [Int.toNat_natCast]
theorem rdOf_nat {α : Type} (d : α) (xs : List α) (i : Nat) : rdOf d xs (i : Int) = xs.getD i d := by unfold rdOf; rw [Int.toNat_natCast]
theorem getD_of {α : Type} {xs : List α} {i : Nat} {a : α} (d : α) (h : xs[i]? = some a) : xs.getD i d = a := by rw [List.getD_eq_getElem?_getD, h]; rfl

-- part varM: a number's bytes, as a list of numbers
def varL : Nat → Int → List Int
  | 0, x => [x]
  | d + 1, x => if x ≥ 128 then (x % 128 + 128) :: varL d (x / 128) else [x]
def varB (x : Int) : ByteArray := strOfNums (varL 8 x)
theorem varL_len (d : Nat) : ∀ x : Int, 1 ≤ (varL d x).length ∧ (varL d x).length ≤ d + 1 := by
  induction d with
  | zero => intro x; simp [varL]
  | succ d ih =>
    intro x
    unfold varL
    split
    · have := ih (x / 128); simp only [List.length_cons]; omega
    · simp
theorem varB_size (x : Int) : 1 ≤ (varB x).size ∧ (varB x).size ≤ 9 := by
  have := varL_len 8 x; unfold varB; rw [strOfNums_size]; exact this

-- part specVar needs spec_l2Var.f
theorem spec_var_l (d : Nat) : ∀ (x : Int) (acc : List Int), 0 ≤ x → x < 128 ^ (d + 1) → x ≤ 9223372036854775807 → acc.length + d < 1000 →
    Ev (fun k => spec_l2Var.l0 k x acc) (strOfNums (acc ++ varL d x)) := by
  induction d with
  | zero =>
    intro x acc h0 h1 hx ha
    refine Ev.step (f := fun _ => some (strOfNums (acc ++ varL 0 x))) (fun k => ?_) (Ev.now _)
    simp only [spec_l2Var.l0]
    rw [if_neg (by omega), if_pos (by omega), Int.emod_eq_of_lt h0 (by omega)]; rfl
  | succ d ih =>
    intro x acc h0 h1 hx ha
    by_cases hb : x ≥ 128
    · have := ih (x / 128) (acc ++ [x % 128 + 128]) (by omega) (by rw [Int.pow_succ] at h1; omega) (by omega) (by simp; omega)
      have e : acc ++ varL (d + 1) x = acc ++ [x % 128 + 128] ++ varL d (x / 128) := by simp [varL, hb]
      rw [e]
      refine Ev.step (fun k => ?_) this
      simp only [spec_l2Var.l0]
      rw [if_pos (by omega), if_pos (by omega), and127i h0 hx, or128i (by omega) (by omega), Int.emod_eq_of_lt (by omega) (by omega)]
    · refine Ev.step (f := fun _ => some (strOfNums (acc ++ varL (d + 1) x))) (fun k => ?_) (Ev.now _)
      simp only [spec_l2Var.l0, varL]
      rw [if_neg (by omega), if_pos (by omega), if_neg (by omega), Int.emod_eq_of_lt h0 (by omega)]
theorem spec_var {x : Int} (h0 : 0 ≤ x) (hx : x ≤ 9223372036854775807) : Ev (fun k => spec_l2Var.f k x) (varB x) :=
  spec_var_l 8 x [] h0 (by omega) hx (by simp)

-- part implVar needs impl_varBytes.f
theorem impl_var_l (d : Nat) : ∀ (x : Int) (acc : List Int), 0 ≤ x → x < 128 ^ (d + 1) → x ≤ 9223372036854775807 → acc.length + d < 1000 →
    Ev (fun k => impl_varBytes.l0 k x acc) (strOfNums (acc ++ varL d x)) := by
  induction d with
  | zero =>
    intro x acc h0 h1 hx ha
    refine Ev.step (f := fun _ => some (strOfNums (acc ++ varL 0 x))) (fun k => ?_) (Ev.now _)
    simp only [impl_varBytes.l0]
    rw [if_neg (by omega), if_pos (by omega), Int.emod_eq_of_lt h0 (by omega)]; rfl
  | succ d ih =>
    intro x acc h0 h1 hx ha
    by_cases hb : x ≥ 128
    · have := ih (x / 128) (acc ++ [x % 128 + 128]) (by omega) (by rw [Int.pow_succ] at h1; omega) (by omega) (by simp; omega)
      have e : acc ++ varL (d + 1) x = acc ++ [x % 128 + 128] ++ varL d (x / 128) := by simp [varL, hb]
      rw [e]
      refine Ev.step (fun k => ?_) this
      simp only [impl_varBytes.l0]
      rw [if_pos (by omega), if_pos (by omega), Int.tdiv_eq_ediv_of_nonneg h0, Int.tmod_eq_emod_of_nonneg h0, w64 (by omega) (by omega)]
      rw [show (x % 128 + 128) % 256 = x % 128 + 128 by omega]
    · refine Ev.step (f := fun _ => some (strOfNums (acc ++ varL (d + 1) x))) (fun k => ?_) (Ev.now _)
      simp only [impl_varBytes.l0, varL]
      rw [if_neg (by omega), if_pos (by omega), if_neg (by omega), Int.emod_eq_of_lt h0 (by omega)]
theorem impl_var {x : Int} (h0 : 0 ≤ x) (hx : x ≤ 9223372036854775807) : Ev (fun k => impl_varBytes.f k x) (varB x) :=
  impl_var_l 8 x [] h0 (by omega) hx (by simp)

-- part commonM: how many bytes two texts begin with that are the same
def comR (a b : ByteArray) : Nat → Int → Int
  | 0, i => i
  | d + 1, i => if i < (a.size : Int) ∧ i < (b.size : Int) ∧ bt a i = bt b i then comR a b d (i + 1) else i
def comV (a b : ByteArray) : Int := comR a b (a.size + 1) 0
theorem comR_range (a b : ByteArray) : ∀ (d : Nat) (i : Int), 0 ≤ i → i ≤ a.size → i ≤ b.size → i ≤ comR a b d i ∧ comR a b d i ≤ a.size ∧ comR a b d i ≤ b.size := by
  intro d
  induction d with
  | zero => intro i h0 h1 h2; simp [comR]; omega
  | succ d ih =>
    intro i h0 h1 h2
    unfold comR
    split
    · rename_i h; have := ih (i + 1) (by omega) (by omega) (by omega); omega
    · omega
theorem comV_range (a b : ByteArray) : 0 ≤ comV a b ∧ comV a b ≤ a.size ∧ comV a b ≤ b.size := comR_range a b _ 0 (by omega) (by omega) (by omega)

-- part specCommon needs spec_CommonOf.f
theorem spec_common_l (a b : ByteArray) (ha : a.size ≤ 140737488351232) (d : Nat) : ∀ (i : Int), 0 ≤ i → i ≤ a.size → (a.size : Int) + 1 - i = d → Ev (fun k => spec_CommonOf.l0 k a b i) (comR a b d i) := by
  induction d with
  | zero => intro i h0 h1 hd; omega
  | succ d ih =>
    intro i h0 h1 hd
    unfold comR
    have e1 : wrap64 (i + 1) = i + 1 := w64 (by omega) (by omega)
    by_cases h : i < (a.size : Int) ∧ i < (b.size : Int) ∧ bt a i = bt b i
    · rw [if_pos h]
      obtain ⟨p, q, e⟩ := h
      refine Ev.step (fun k => ?_) (ih (i + 1) (by omega) (by omega) (by omega))
      simp only [spec_CommonOf.l0]
      rw [if_pos p, if_pos q, if_pos h0, if_pos e, e1]
    · rw [if_neg h]
      refine Ev.step (f := fun _ => some i) (fun k => ?_) (Ev.now _)
      simp only [spec_CommonOf.l0]
      by_cases p : i < (a.size : Int)
      · rw [if_pos p]
        by_cases q : i < (b.size : Int)
        · rw [if_pos q, if_pos h0, if_neg (fun e => h ⟨p, q, e⟩)]
        · rw [if_neg q]
      · rw [if_neg p]
theorem spec_common (a b : ByteArray) (ha : a.size ≤ 140737488351232) : Ev (fun k => spec_CommonOf.f k a b) (comV a b) := spec_common_l a b ha _ 0 (by omega) (by omega) (by omega)

-- part implCommon needs impl_CommonOf.f
theorem impl_common_l (a b : ByteArray) (ha : a.size ≤ 140737488351232) (d : Nat) : ∀ (i : Int), 0 ≤ i → i ≤ a.size → (a.size : Int) + 1 - i = d → Ev (fun k => impl_CommonOf.l0 k a b i) (comR a b d i) := by
  induction d with
  | zero => intro i h0 h1 hd; omega
  | succ d ih =>
    intro i h0 h1 hd
    unfold comR
    have e1 : wrap64 (i + 1) = i + 1 := w64 (by omega) (by omega)
    by_cases h : i < (a.size : Int) ∧ i < (b.size : Int) ∧ bt a i = bt b i
    · rw [if_pos h]
      obtain ⟨p, q, e⟩ := h
      refine Ev.step (fun k => ?_) (ih (i + 1) (by omega) (by omega) (by omega))
      simp only [impl_CommonOf.l0]
      rw [if_pos (lt_mn.2 ⟨p, q⟩), if_pos h0, if_pos p, if_pos q, if_pos e, e1]
    · rw [if_neg h]
      refine Ev.step (f := fun _ => some i) (fun k => ?_) (Ev.now _)
      simp only [impl_CommonOf.l0]
      by_cases p : i < mn (a.size : Int) (b.size : Int)
      · have p' := lt_mn.1 p
        rw [if_pos p, if_pos h0, if_pos p'.1, if_pos p'.2, if_neg (fun e => h ⟨p'.1, p'.2, e⟩)]
      · rw [if_neg p]
theorem impl_common (a b : ByteArray) (ha : a.size ≤ 140737488351232) : Ev (fun k => impl_CommonOf.f k a b) (comV a b) := impl_common_l a b ha _ 0 (by omega) (by omega) (by omega)

-- part specIn needs spec_l1In.f
theorem spec_in (a lo hi : Int) : spec_l1In.f a lo hi = some (inB a lo hi) := by
  unfold spec_l1In.f inB; rw [bo_andP]

-- part implIn needs impl_in.f
theorem impl_in_ (a lo hi : Int) : impl_in.f a lo hi = some (inB a lo hi) := by
  unfold impl_in.f inB; rw [bo_andP]

-- part goodFilterD: a good filter
def goodFilterB (h : Int) (b : ByteArray) (m : Int) : Bool := inB h 1 8 && (decide ((b.size : Int) = 32) && inB m 0 1000000)

-- part implGoodFilter needs impl_GoodFilter.f
theorem impl_goodFilter (h : Int) (b : ByteArray) (m : Int) : impl_GoodFilter.f h b m = some (goodFilterB h b m) := by
  unfold impl_GoodFilter.f impl_hashesOk.f goodFilterB
  simp only [impl_in_, Option.bind_some, bo_andP, Bool.decide_eq_true]

-- part goodItem
def keyB (k : ByteArray) : Bool := inB (k.size : Int) 1 16
def seqB (q : Int) : Bool := inB q 0 1000000000
def goodItemB (k : ByteArray) (q d : Int) (v : ByteArray) : Bool := keyB k && (seqB q && (inB d 0 1 && (decide ((v.size : Int) ≤ 40) && (decide (d = 1) || (v.toList == ([] : List UInt8))))))

-- part specGoodItem needs spec_GoodItem.f
theorem spec_goodItem (k : ByteArray) (q d : Int) (v : ByteArray) : spec_GoodItem.f k q d v = some (goodItemB k q d v) := by
  unfold spec_GoodItem.f spec_l4Key.f spec_l4Seq.f goodItemB keyB seqB
  simp only [spec_in, Option.bind_some, bo_andP, bo_orP, Bool.decide_eq_true]

-- part implGoodItem needs impl_GoodItem.f
theorem impl_goodItem (k : ByteArray) (q d : Int) (v : ByteArray) : impl_GoodItem.f k q d v = some (goodItemB k q d v) := by
  unfold impl_GoodItem.f impl_isKey.f impl_isSeq.f impl_isValue.f goodItemB keyB seqB
  simp only [impl_in_, Option.bind_some, bo_andP, bo_orP, Bool.decide_eq_true]

-- part specKey needs spec_l4Key.f
theorem spec_key (k : ByteArray) : spec_l4Key.f k = some (keyB k) := by unfold spec_l4Key.f keyB; rw [spec_in]; rfl

-- part implKey needs impl_isKey.f
theorem impl_key (k : ByteArray) : impl_isKey.f k = some (keyB k) := by unfold impl_isKey.f keyB; rw [impl_in_]; rfl

-- part sumM: the table of sums and the sum of a text
def crcStep (n : Int) : Int := if Go.bits .and .u32 n 1 = 1 then Go.bits .xor .u32 (n / 2) 2197175160 else n / 2
def crcIt : Nat → Int → Int
  | 0, n => n
  | d + 1, n => crcIt d (crcStep n)
def crcE (i : Nat) : Int := crcIt 8 (i : Int)
def crcT : List Int := (List.range 256).map crcE
theorem crcT_len : crcT.length = 256 := by simp [crcT]
theorem xor_comm_ (k : IntKind) (x y : Int) : Go.bits .xor k x y = Go.bits .xor k y x := by simp only [Go.bits, BitVec.xor_comm]
theorem bits_u8 (op : BinOp) (x y : Int) : 0 ≤ Go.bits op .u8 x y ∧ Go.bits op .u8 x y < 256 := by
  unfold Go.bits; rw [IntKind.wrap_u8]; exact ⟨Int.emod_nonneg _ (by decide), Int.emod_lt_of_pos _ (by decide)⟩
theorem bits_u32 (op : BinOp) (x y : Int) : 0 ≤ Go.bits op .u32 x y ∧ Go.bits op .u32 x y < 4294967296 := by
  unfold Go.bits; rw [IntKind.wrap_u32]; exact ⟨Int.emod_nonneg _ (by decide), Int.emod_lt_of_pos _ (by decide)⟩
def sumR (s : ByteArray) : Nat → Nat → Int → Int
  | 0, _, x => x
  | d + 1, i, x => sumR s d (i + 1) (Go.bits .xor .u32 (x / 256) (rd crcT (Go.bits .xor .u8 (x % 256) (bt s i))))
def sumOnV (x : Int) (s : ByteArray) : Int := sumR s s.size 0 x
def sumV (s : ByteArray) : Int := Go.bits .xor .u32 4294967295 (sumOnV 4294967295 s)
theorem sumV_range (s : ByteArray) : 0 ≤ sumV s ∧ sumV s < 4294967296 := bits_u32 _ _ _

-- part specTable needs spec_l2Table.f
theorem spec_table_in (d : Nat) : ∀ (T : List Int) (i x j y z : Int) (r : List Int), 0 ≤ j → j + d = 8 → 0 ≤ i → i < T.length →
    Ev (fun k => spec_l2Table.l0 k (T.set i.toNat (crcIt d x)) y (wrap64 (z + 1))) r → Ev (fun k => spec_l2Table.l1 k T i x j y z) r := by
  induction d with
  | zero =>
    intro T i x j y z r h0 hd hi hi' h
    refine Ev.step (fun k => ?_) h
    simp only [spec_l2Table.l1]
    rw [if_neg (by omega), if_pos hi, if_pos hi']; rfl
  | succ d ih =>
    intro T i x j y z r h0 hd hi hi' h
    refine Ev.step (fun k => ?_) (ih T i (crcStep x) (j + 1) y z r (by omega) (by omega) hi hi' h)
    simp only [spec_l2Table.l1]
    rw [if_pos (by omega), w64 (by omega) (by omega)]
    unfold crcStep
    split <;> rfl
theorem spec_table_l (d : Nat) : ∀ (i : Nat), i + d = 256 → Ev (fun k => spec_l2Table.l0 k ((List.range i).map crcE ++ List.replicate d 0) 256 i) crcT := by
  induction d with
  | zero =>
    intro i hi
    obtain rfl : i = 256 := by omega
    refine Ev.step (f := fun _ => some crcT) (fun k => ?_) (Ev.now _)
    simp only [spec_l2Table.l0]; rw [if_neg (by omega)]; simp [crcT]
  | succ d ih =>
    intro i hi
    have e : ((List.range i).map crcE ++ List.replicate (d + 1) 0).set (i : Int).toNat (crcE i) = (List.range (i + 1)).map crcE ++ List.replicate d 0 := by
      rw [Int.toNat_natCast, List.range_succ, List.map_append, List.set_append_right _ _ (by simp)]
      simp [List.replicate_succ]
    refine Ev.step (f := fun k => spec_l2Table.l1 k ((List.range i).map crcE ++ List.replicate (d + 1) 0) i i 0 256 i) (fun k => ?_) ?_
    · simp only [spec_l2Table.l0]; rw [if_pos (by omega), Int.emod_eq_of_lt (by omega) (by omega)]
    · refine spec_table_in 8 _ _ _ _ _ _ _ (by omega) rfl (by omega) (by simp; omega) ?_
      have := ih (i + 1) (by omega)
      rw [show crcIt 8 (i : Int) = crcE i from rfl, e, w64 (by omega) (by omega)]
      exact this
theorem spec_table : Ev (fun k => spec_l2Table.f k) crcT := by
  unfold spec_l2Table.f
  refine Ev.pos_ (by decide) ?_
  show Ev (fun k => spec_l2Table.l0 k (List.replicate 256 0) ((List.replicate 256 (0 : Int)).length : Int) 0) crcT
  rw [List.length_replicate]
  exact spec_table_l 256 0 rfl

-- part implTable needs impl_SumTable.f
theorem impl_table_in (d : Nat) : ∀ (T : List Int) (x z j : Int) (r : List Int), 0 ≤ j → j + d = 8 → T.length < 35184372088832 →
    Ev (fun k => impl_SumTable.l0 k (T ++ [crcIt d x]) ((z + 1) % 4294967296)) r → Ev (fun k => impl_SumTable.l1 k T x z j) r := by
  induction d with
  | zero =>
    intro T x z j r h0 hd hi h
    refine Ev.step (fun k => ?_) h
    simp only [impl_SumTable.l1]
    rw [if_neg (by omega), if_pos hi]; rfl
  | succ d ih =>
    intro T x z j r h0 hd hi h
    refine Ev.step (fun k => ?_) (ih T (crcStep x) z (j + 1) r (by omega) (by omega) hi h)
    simp only [impl_SumTable.l1]
    rw [if_pos (by omega), w64 (by omega) (by omega)]
    unfold crcStep
    split <;> rfl
theorem impl_table_l (d : Nat) : ∀ (i : Nat), i + d = 256 → Ev (fun k => impl_SumTable.l0 k ((List.range i).map crcE) i) crcT := by
  induction d with
  | zero =>
    intro i hi
    obtain rfl : i = 256 := by omega
    refine Ev.step (f := fun _ => some crcT) (fun k => ?_) (Ev.now _)
    simp only [impl_SumTable.l0]; rw [if_neg (by omega)]; rfl
  | succ d ih =>
    intro i hi
    refine Ev.step (f := fun k => impl_SumTable.l1 k ((List.range i).map crcE) i i 0) (fun k => ?_) ?_
    · simp only [impl_SumTable.l0]; rw [if_pos (by omega)]
    · refine impl_table_in 8 _ _ _ _ _ (by omega) rfl (by simp; omega) ?_
      have := ih (i + 1) (by omega)
      rw [Int.emod_eq_of_lt (by omega) (by omega)]
      rw [List.range_succ, List.map_append] at this
      exact this
theorem impl_table : Ev (fun k => impl_SumTable.f k) crcT := impl_table_l 256 0 rfl

-- part specOn needs spec_l2On.f
theorem spec_on_l (s : ByteArray) (hs : s.size ≤ 140737488351232) (d : Nat) : ∀ (i : Nat) (x : Int), i + d = s.size → Ev (fun k => spec_l2On.l0 k crcT x s i) (sumR s d i x) := by
  induction d with
  | zero =>
    intro i x hi
    refine Ev.step (f := fun _ => some x) (fun k => ?_) (Ev.now _)
    simp only [spec_l2On.l0]; rw [if_neg (by omega)]
  | succ d ih =>
    intro i x hi
    have hr := bits_u8 .xor (x % 256) (bt s i)
    refine Ev.step (fun k => ?_) (ih (i + 1) _ (by omega))
    simp only [spec_l2On.l0]
    rw [if_pos (by omega), if_pos (by omega), if_pos hr.1, if_pos (by rw [crcT_len]; exact hr.2), xor_comm_ .u32, w64 (by omega) (by omega)]; rfl
theorem spec_on (x : Int) (s : ByteArray) (hs : s.size ≤ 140737488351232) : Ev (fun k => spec_l2On.f k crcT x s) (sumOnV x s) := spec_on_l s hs _ 0 x (by omega)

-- part implOn needs impl_SumOn.f
theorem impl_on_l (s : ByteArray) (hs : s.size ≤ 140737488351232) (d : Nat) : ∀ (i : Nat) (x : Int), i + d = s.size → Ev (fun k => impl_SumOn.l0 k x s crcT (s.size : Int) i) (sumR s d i x) := by
  induction d with
  | zero =>
    intro i x hi
    refine Ev.step (f := fun _ => some x) (fun k => ?_) (Ev.now _)
    simp only [impl_SumOn.l0]; rw [if_neg (by omega)]
  | succ d ih =>
    intro i x hi
    have hr := bits_u8 .xor (x % 256) (bt s i)
    refine Ev.step (fun k => ?_) (ih (i + 1) _ (by omega))
    simp only [impl_SumOn.l0]
    rw [if_pos (by omega), if_pos (by omega), if_pos (by omega), if_pos hr.1, if_pos (by rw [crcT_len]; exact hr.2), w64 (by omega) (by omega)]; rfl
theorem impl_on (x : Int) (s : ByteArray) (hs : s.size ≤ 140737488351232) : Ev (fun k => impl_SumOn.f k x s) (sumOnV x s) :=
  Ev.bind impl_table (impl_on_l s hs _ 0 x (by omega))

-- part specSum needs spec_l2Sum.f
theorem spec_sum (s : ByteArray) (hs : s.size ≤ 140737488351232) : Ev (fun k => spec_l2Sum.f k s) (sumV s) :=
  Ev.bind spec_table (Ev.bind (spec_on 4294967295 s hs) (Ev.now _))

-- part implSum needs impl_SumOf.f
theorem impl_sum (s : ByteArray) (hs : s.size ≤ 140737488351232) : Ev (fun k => impl_SumOf.f k s) (sumV s) :=
  Ev.bind (impl_on 4294967295 s hs) (Ev.now _)

-- part placesM: the places of a key
def placesR (b : Int) : Nat → Int → List Int
  | 0, _ => []
  | d + 1, a => (a % 256) :: placesR b d ((a + b) % 4294967296)
def placesV (key : ByteArray) (h : Int) : List Int := placesR (Go.bits .or .u32 (sumOnV 0 key) 1) h.toNat (sumV key)
theorem placesR_len (b : Int) : ∀ (d : Nat) (a : Int), (placesR b d a).length = d := by
  intro d; induction d with
  | zero => intro a; rfl
  | succ d ih => intro a; simp [placesR, ih]
theorem placesR_mem (b : Int) : ∀ (d : Nat) (a x : Int), x ∈ placesR b d a → 0 ≤ x ∧ x < 256 := by
  intro d; induction d with
  | zero => intro a x h; cases h
  | succ d ih =>
    intro a x h
    rcases List.mem_cons.1 h with rfl | h
    · omega
    · exact ih _ _ h
theorem placesV_len (key : ByteArray) {h : Int} (h0 : 0 ≤ h) : ((placesV key h).length : Int) = h := by unfold placesV; rw [placesR_len]; omega

-- part specPlaces needs spec_l5Places.f
theorem spec_places_l (h b : Int) (hh : h ≤ 8) : ∀ (d : Nat) (a : Int) (acc : List Int) (i : Int), 0 ≤ i → i + d = h → 0 ≤ a → acc.length + d ≤ 1000 → Ev (fun k => spec_l5Places.l0 k h a b acc i) (acc ++ placesR b d a) := by
  intro d
  induction d with
  | zero =>
    intro a acc i h0 hi ha hl
    refine Ev.step (f := fun _ => some acc) (fun k => ?_) (by simpa [placesR] using Ev.now _)
    simp only [spec_l5Places.l0]; rw [if_neg (by omega)]
  | succ d ih =>
    intro a acc i h0 hi ha hl
    have := ih ((a + b) % 4294967296) (acc ++ [a % 256]) (i + 1) (by omega) (by omega) (Int.emod_nonneg _ (by decide)) (by simp; omega)
    rw [List.append_assoc] at this
    refine Ev.step (fun k => ?_) this
    simp only [spec_l5Places.l0]
    rw [if_pos (by omega), if_pos (by omega), Int.tmod_eq_emod_of_nonneg ha, w64 (by omega) (by omega), w64 (by omega) (by omega)]
theorem spec_places (key : ByteArray) (h : Int) (h0 : 0 ≤ h) (hh : h ≤ 8) (hs : key.size ≤ 140737488351232) : Ev (fun k => spec_l5Places.f k key h) (placesV key h) := by
  unfold spec_l5Places.f
  refine Ev.bind spec_table (Ev.bind (spec_on 4294967295 key hs) (Ev.bind (spec_on 0 key hs) ?_))
  exact spec_places_l h _ hh h.toNat _ [] 0 (by omega) (by omega) (sumV_range key).1 (by simp; omega)

-- part implPlaces needs impl_places.f
theorem impl_places_l (h b : Int) (hh : h ≤ 8) : ∀ (d : Nat) (a : Int) (acc : List Int) (i : Int), 0 ≤ i → i + d = h → 0 ≤ a → acc.length + d ≤ 1000 → Ev (fun k => impl_places.l0 k a b acc h i) (acc ++ placesR b d a) := by
  intro d
  induction d with
  | zero =>
    intro a acc i h0 hi ha hl
    refine Ev.step (f := fun _ => some acc) (fun k => ?_) (by simpa [placesR] using Ev.now _)
    simp only [impl_places.l0]; rw [if_neg (by omega)]
  | succ d ih =>
    intro a acc i h0 hi ha hl
    have := ih ((a + b) % 4294967296) (acc ++ [a % 256]) (i + 1) (by omega) (by omega) (Int.emod_nonneg _ (by decide)) (by simp; omega)
    rw [List.append_assoc] at this
    refine Ev.step (fun k => ?_) this
    simp only [impl_places.l0]
    rw [if_pos (by omega), if_pos (by omega), Int.tmod_eq_emod_of_nonneg ha, w64 (by omega) (by omega), w64 (by omega) (by omega)]
theorem impl_places_ (key : ByteArray) (h : Int) (h0 : 0 ≤ h) (hh : h ≤ 8) (hs : key.size ≤ 140737488351232) : Ev (fun k => impl_places.f k key h) (placesV key h) := by
  unfold impl_places.f
  refine Ev.bind (impl_sum key hs) (Ev.bind (impl_on 0 key hs) ?_)
  exact impl_places_l h _ hh h.toNat _ [] 0 (by omega) (by omega) (sumV_range key).1 (by simp; omega)

-- part wordM: a word's bytes, the lowest first
def lowL : Nat → Int → List Int
  | 0, _ => []
  | d + 1, n => (n % 256) :: lowL d (n / 256)
def lowV (n : Int) (many : Nat) : ByteArray := strOfNums (lowL many n)
def wordV (n : Int) : ByteArray := lowV n 4
theorem lowL_len : ∀ (d : Nat) (n : Int), (lowL d n).length = d := by
  intro d; induction d with
  | zero => intro n; rfl
  | succ d ih => intro n; simp [lowL, ih]
theorem lowV_size (n : Int) (d : Nat) : (lowV n d).size = d := by unfold lowV; rw [strOfNums_size, lowL_len]
theorem wordV_size (n : Int) : (wordV n).size = 4 := lowV_size n 4

-- part specWord needs spec_l2Word.f
theorem spec_word (n : Int) : spec_l2Word.f n = some (wordV n) := by
  unfold spec_l2Word.f wordV lowV
  simp only [lowL]
  rw [show n / 256 / 256 = n / 65536 by omega, show n / 65536 / 256 = n / 16777216 by omega]

-- part implLow needs impl_lowFirst.f
theorem impl_low_l (m : Int) (hm : m ≤ 1000) : ∀ (d : Nat) (n : Int) (acc : List Int) (i : Int), 0 ≤ i → i + d = m → acc.length + d ≤ 2000 → Ev (fun k => impl_lowFirst.l0 k n acc m i) (strOfNums (acc ++ lowL d n)) := by
  intro d
  induction d with
  | zero =>
    intro n acc i h0 hi hl
    refine Ev.step (f := fun _ => some (strOfNums acc)) (fun k => ?_) (by simpa [lowL] using Ev.now _)
    simp only [impl_lowFirst.l0]; rw [if_neg (by omega)]
  | succ d ih =>
    intro n acc i h0 hi hl
    have := ih (n / 256) (acc ++ [n % 256]) (i + 1) (by omega) (by omega) (by simp; omega)
    rw [List.append_assoc] at this
    refine Ev.step (fun k => ?_) this
    simp only [impl_lowFirst.l0]
    rw [if_pos (by omega), if_pos (by omega), w64 (by omega) (by omega)]
theorem impl_low (n : Int) (m : Nat) (hm : m ≤ 1000) : Ev (fun k => impl_lowFirst.f k n m) (lowV n m) :=
  impl_low_l m (by omega) m n [] 0 (by omega) (by omega) (by simp; omega)

-- part frameM: a text's frame
def frameV (s : ByteArray) : ByteArray := (varB s.size ++ wordV (sumV s)) ++ s
theorem app_size (a b : ByteArray) : (a ++ b).size = a.size + b.size := ByteArray.size_append
theorem frameV_size (s : ByteArray) : s.size + 5 ≤ (frameV s).size ∧ (frameV s).size ≤ s.size + 13 := by
  unfold frameV; rw [app_size, app_size, wordV_size]; have := varB_size (s.size : Int); omega

-- part specFrame needs spec_l2Frame.f
theorem spec_frame (s : ByteArray) (hs : s.size ≤ 140737488351232) : Ev (fun k => spec_l2Frame.f k s) (frameV s) := by
  unfold spec_l2Frame.f
  have h1 := varB_size (s.size : Int)
  have h2 := wordV_size (sumV s)
  refine Ev.bind (spec_var (by omega) (by omega)) (Ev.bind (spec_sum s hs) ?_)
  simp only [spec_word, Option.bind_some]
  exact Ev.pos_ (by omega) (Ev.pos_ (by omega) (Ev.now _))

-- part implFrame needs impl_frame.f
theorem impl_frame_ (s : ByteArray) (hs : s.size ≤ 140737488351232) : Ev (fun k => impl_frame.f k s) (frameV s) := by
  unfold impl_frame.f
  have h1 := varB_size (s.size : Int)
  have h2 := wordV_size (sumV s)
  refine Ev.bind (impl_var (by omega) (by omega)) (Ev.bind (impl_sum s hs) (Ev.bind (impl_low (sumV s) 4 (by omega)) ?_))
  exact Ev.pos_ (by have := lowV_size (sumV s) 4; omega) (Ev.pos_ (by have := lowV_size (sumV s) 4; omega) (Ev.now _))

-- part cmpM: items by their order
def cmpV (k1 : ByteArray) (q1 : Int) (k2 : ByteArray) (q2 : Int) : Int :=
  if Op.bytesLess k1.toList k2.toList = true then -1 else if k1.toList = k2.toList then (if q1 > q2 then -1 else if q1 = q2 then 0 else 1) else 1
theorem less_irrefl (a : List UInt8) : Op.bytesLess a a = false := by
  have := Go.Proofs.YtjacppphgccphaaX.less_of a a
  cases h : Op.bytesLess a a <;> simp_all
theorem less_eq {a b : List UInt8} (h1 : ¬ Op.bytesLess a b = true) (h2 : ¬ Op.bytesLess b a = true) : a = b := by
  have := Go.Proofs.YtjacppphgccphaaX.less_of a b
  cases h3 : Op.bytesLess a b <;> simp_all

-- part specCmp needs spec_l4Compare.f
theorem spec_cmp (k1 : ByteArray) (q1 d1 : Int) (v1 k2 : ByteArray) (q2 d2 : Int) (v2 : ByteArray) : Ev (fun k => spec_l4Compare.f k k1 q1 d1 v1 k2 q2 d2 v2) (cmpV k1 q1 k2 q2) := by
  unfold spec_l4Compare.f cmpV
  by_cases h1 : Op.bytesLess k1.toList k2.toList = true
  · rw [if_pos h1]
    exact Ev.pos_ h1 (Ev.step (fun k => by rw [spec_l4Compare.j0]) (Ev.pos_ rfl (Ev.now _)))
  · rw [if_neg h1]
    refine Ev.neg_ h1 ?_
    by_cases h2 : k1.toList = k2.toList
    · rw [if_pos h2]
      refine Ev.pos_ h2 (Ev.step (fun k => by rw [spec_l4Compare.j0]) ?_)
      by_cases h3 : q1 > q2
      · rw [if_pos h3]; exact Ev.pos_ (by simpa using h3) (Ev.now _)
      · rw [if_neg h3]
        refine Ev.neg_ (by simpa using h3) (Ev.pos_ h2 ?_)
        by_cases h4 : q1 = q2
        · simp only [if_pos h4]; exact Ev.now _
        · simp only [if_neg h4]; exact Ev.now _
    · rw [if_neg h2]
      exact Ev.neg_ h2 (Ev.step (fun k => by rw [spec_l4Compare.j0]) (Ev.neg_ (by simp) (Ev.neg_ h2 (Ev.now _))))

-- part implCmp needs impl_itemOrder.f
theorem or_two (a b : Int) : Ev (fun k => cmp_Or_int.f k [a, b]) (if a = 0 then b else a) := by
  unfold cmp_Or_int.f
  refine Ev.step (fun k => by rw [cmp_Or_int.l0]) ?_
  refine Ev.pos_ (by simp) (Ev.pos_ (by omega) (Ev.pos_ (by simp) ?_))
  have e0 : rd [a, b] 0 = a := rfl
  have e1 : rd [a, b] 1 = b := rfl
  have ew : wrap64 (0 + 1) = 1 := by rw [w64 (by omega) (by omega)]; rfl
  rw [e0, ew]
  by_cases h : a = 0
  · rw [if_pos h]
    refine Ev.pos_ h ?_
    refine Ev.step (fun k => by rw [cmp_Or_int.l0]) ?_
    refine Ev.pos_ (by simp) (Ev.pos_ (by omega) (Ev.pos_ (by simp) ?_))
    rw [e1]
    by_cases h' : b = 0
    · refine Ev.pos_ h' ?_
      have ew2 : wrap64 (1 + 1) = 2 := by rw [w64 (by omega) (by omega)]; rfl
      rw [ew2]
      subst h'
      exact Ev.step (fun k => by rw [cmp_Or_int.l0]) (Ev.neg_ (by simp) (Ev.now _))
    · exact Ev.neg_ h' (Ev.now _)
  · rw [if_neg h]; exact Ev.neg_ h (Ev.now _)
theorem impl_cmp (k1 : ByteArray) (q1 d1 : Int) (v1 k2 : ByteArray) (q2 d2 : Int) (v2 : ByteArray) : Ev (fun k => impl_itemOrder.f k k1 q1 d1 v1 k2 q2 d2 v2) (cmpV k1 q1 k2 q2) := by
  unfold impl_itemOrder.f
  have e1 : cmp_Compare_string.f k1 k2 = some (if Op.bytesLess k1.toList k2.toList = true then -1 else if k1.toList = k2.toList then 0 else 1) := by
    unfold cmp_Compare_string.f cmp_isNaN_string.f
    simp only [Option.bind_some]
    by_cases h1 : Op.bytesLess k1.toList k2.toList = true
    · simp [h1]
    · by_cases h2 : Op.bytesLess k2.toList k1.toList = true
      · have h3 : ¬ k1.toList = k2.toList := fun e => by rw [e, less_irrefl] at h2; cases h2
        simp [h1, h2, h3]
      · have h3 := less_eq h1 h2
        simp [h1, h2, h3, less_irrefl]
  have e2 : cmp_Compare_int.f q2 q1 = some (if q1 > q2 then -1 else if q1 = q2 then 0 else 1) := by
    unfold cmp_Compare_int.f cmp_isNaN_int.f
    simp only [Option.bind_some, bne_self_eq_false]
    by_cases h1 : q2 < q1
    · simp [h1]
    · by_cases h2 : q2 > q1
      · have : ¬ q1 = q2 := by omega
        simp [h1, h2, this]
      · obtain rfl : q1 = q2 := by omega
        simp
  simp only [e1, e2, Option.bind_some]
  refine Ev.bind (or_two _ _) ?_
  have : (if (if Op.bytesLess k1.toList k2.toList = true then (-1 : Int) else if k1.toList = k2.toList then 0 else 1) = 0 then (if q1 > q2 then (-1 : Int) else if q1 = q2 then 0 else 1) else (if Op.bytesLess k1.toList k2.toList = true then -1 else if k1.toList = k2.toList then 0 else 1)) = cmpV k1 q1 k2 q2 := by
    unfold cmpV
    by_cases h1 : Op.bytesLess k1.toList k2.toList = true
    · simp [h1]
    · by_cases h3 : k1.toList = k2.toList
      · simp [h3, less_irrefl]
      · simp [h1, h3]
  rw [this]
  exact Ev.now _

-- part toItemS needs laws_toItemS.f
def convItem (a : S23) : S27 := ⟨a.f0, a.f1, a.f2, a.f3⟩
theorem rd_T23_nat (xs : List S23) (i : Nat) : rd_T23 xs (i : Int) = xs.getD i z23 := by unfold rd_T23; rw [Int.toNat_natCast]
theorem toItemS_ (l : List S23) (hl : l.length * 16 ≤ 140737488351232 ∧ l.length ≤ 5864062014805) : Ev (fun k => laws_toItemS.f k l) (l.map convItem) := by
  unfold laws_toItemS.f
  refine Ev.pos_ (by omega) (Ev.pos_ (by omega) ?_)
  have := to_gen laws_toItemS.l0 convItem z27 z23 (fun xs ys i r hi hy hn h => ?_) (fun xs ys => Ev.step (f := fun _ => some ys) (fun k => ?_) (Ev.now _)) l.length l 0 (by omega) (by omega)
  · simpa using this
  · refine Ev.step (fun k => by rw [laws_toItemS.l0]) ?_
    refine Ev.pos_ (by omega) (Ev.pos_ (by omega) ?_)
    simp only [laws_toItem.f, Option.bind_some]
    refine Ev.pos_ (by omega) ?_
    simp only [wi hi hn, Int.toNat_natCast, rd_T23_nat]; exact h
  · simp only [laws_toItemS.l0]; rw [if_neg (by omega)]

-- part szItemS needs laws_szItemS.f
theorem szItem_some (f0 f1 f2 f3) (m : Int) : ∃ r, laws_szItem.f f0 f1 f2 f3 m = some r := by
  unfold laws_szItem.f
  repeat' first | exact ⟨_, rfl⟩ | split
theorem szItemS_some (l : List S23) (m : Int) (hl : l.length ≤ 140737488351232) : ∃ r, Ev (fun k => laws_szItemS.f k l m) r := by
  unfold laws_szItemS.f
  by_cases h : wrap64 (m - (l.length : Int)) < 0
  · exact ⟨-1, Ev.pos_ h (Ev.now _)⟩
  · have := sz_gen laws_szItemS.l0 (fun xs m i hi hn h => ?_) (fun xs m => ⟨m, Ev.step (f := fun _ => some m) (fun k => ?_) (Ev.now _)⟩) l.length l (wrap64 (m - (l.length : Int))) 0 (by omega) hl
    · obtain ⟨r, hr⟩ := this
      exact ⟨r, Ev.neg_ h (by simpa using hr)⟩
    · obtain ⟨r, e⟩ := szItem_some (rd_T23 xs i).f0 (rd_T23 xs i).f1 (rd_T23 xs i).f2 (rd_T23 xs i).f3 m
      by_cases hr : r < 0
      · refine ⟨-1, ?_⟩
        refine Ev.step (fun k => by rw [laws_szItemS.l0]) ?_
        refine Ev.pos_ (by omega) (Ev.pos_ (by omega) ?_)
        simp only [e, Option.bind_some]
        exact Ev.pos_ hr (Ev.now _)
      · obtain ⟨q, hq⟩ := h r
        refine ⟨q, ?_⟩
        refine Ev.step (fun k => by rw [laws_szItemS.l0]) ?_
        refine Ev.pos_ (by omega) (Ev.pos_ (by omega) ?_)
        simp only [e, Option.bind_some]
        refine Ev.neg_ hr ?_
        simp only [wi hi hn]; exact hq
    · simp only [laws_szItemS.l0]; rw [if_neg (by omega)]

-- part eqItemS needs laws_eqItemS.f
theorem eqItemS_refl (l : List S27) (hl : l.length ≤ 140737488351232) : Ev (fun k => laws_eqItemS.f k l l) true := by
  unfold laws_eqItemS.f
  refine Ev.pos_ rfl (eq_gen laws_eqItemS.l0 (fun xs i hi hn h => Ev.step (fun k => ?_) h) (fun xs => Ev.step (f := fun _ => some true) (fun k => ?_) (Ev.now _)) l.length l 0 (by omega) hl)
  · have e : laws_eqItem.f (rd_T27 xs i).f0 (rd_T27 xs i).f1 (rd_T27 xs i).f2 (rd_T27 xs i).f3 (rd_T27 xs i).f0 (rd_T27 xs i).f1 (rd_T27 xs i).f2 (rd_T27 xs i).f3 = some true := by simp [laws_eqItem.f]
    simp only [laws_eqItemS.l0]; rw [if_pos (by omega), if_pos (by omega), if_pos (by omega), e, wi hi hn]; rfl
  · simp only [laws_eqItemS.l0]; rw [if_neg (by omega)]

-- part runM: runs of items
def goodI (a : S27) : Bool := goodItemB a.f0 a.f1 a.f2 a.f3
def cmpI (a b : S27) : Int := cmpV a.f0 a.f1 b.f0 b.f1
def goodRunR (l : List S27) : Nat → Nat → Bool
  | 0, _ => true
  | d + 1, i => if goodI (l.getD i z27) = true then (if i > 0 then (if cmpI (l.getD (i - 1) z27) (l.getD i z27) ≥ 0 then false else goodRunR l d (i + 1)) else goodRunR l d (i + 1)) else false
def goodRunV (l : List S27) : Bool := goodRunR l l.length 0
theorem rdI_nat (xs : List S27) (i : Nat) : rd_T27 xs (i : Int) = xs.getD i z27 := by unfold rd_T27; rw [Int.toNat_natCast]
theorem goodRunR_good (l : List S27) : ∀ (d i : Nat), i + d = l.length → goodRunR l d i = true → ∀ j, i ≤ j → j < l.length → goodI (l.getD j z27) = true := by
  intro d
  induction d with
  | zero => intro i hi h j h1 h2; omega
  | succ d ih =>
    intro i hi h j h1 h2
    unfold goodRunR at h
    by_cases hg : goodI (l.getD i z27) = true
    · rw [if_pos hg] at h
      by_cases hj : j = i
      · subst hj; exact hg
      · refine ih (i + 1) (by omega) ?_ j (by omega) h2
        by_cases h0 : i > 0
        · rw [if_pos h0] at h
          split at h
          · cases h
          · exact h
        · rw [if_neg h0] at h; exact h
    · rw [if_neg hg] at h; cases h
theorem goodRunV_good {l : List S27} (h : goodRunV l = true) (j : Nat) (hj : j < l.length) : goodI (l.getD j z27) = true := goodRunR_good l l.length 0 (by omega) h j (by omega) hj
theorem goodI_iff {a : S27} (h : goodI a = true) : 1 ≤ a.f0.size ∧ a.f0.size ≤ 16 ∧ 0 ≤ a.f1 ∧ a.f1 ≤ 1000000000 ∧ 0 ≤ a.f2 ∧ a.f2 ≤ 1 ∧ a.f3.size ≤ 40 := by
  unfold goodI goodItemB keyB seqB at h
  simp only [Bool.and_eq_true, inB_iff, decide_eq_true_eq] at h
  omega

-- part specRunJ needs spec_GoodRun.f spec_GoodRun.j1
theorem spec_run_l (l : List S27) (hl : l.length ≤ 140737488351232) : ∀ (d i : Nat), i + d = l.length → Ev (fun k => spec_GoodRun.l0 k l l (l.length : Int) i) (goodRunR l d i) := by
  intro d
  induction d with
  | zero =>
    intro i hi
    refine Ev.step (fun k => by rw [spec_GoodRun.l0]) ?_
    exact Ev.neg_ (by omega) (Ev.now _)
  | succ d ih =>
    intro i hi
    unfold goodRunR
    have hn := ih (i + 1) (by omega)
    refine Ev.step (fun k => by rw [spec_GoodRun.l0]) ?_
    refine Ev.pos_ (by omega) (Ev.pos_ (by omega) (Ev.pos_ (by omega) ?_))
    simp only [rdI_nat, spec_goodItem, Option.bind_some]
    by_cases h : goodI (l.getD i z27) = true
    · rw [if_pos h]
      refine Ev.pos_ h ?_
      by_cases h0 : i > 0
      · rw [if_pos h0]
        have ew : wrap64 ((i : Int) - 1) = ((i - 1 : Nat) : Int) := by rw [w64 (by omega) (by omega)]; omega
        refine Ev.pos_ (by omega) ?_
        simp only [ew, rdI_nat]
        refine Ev.pos_ (by omega) (Ev.pos_ (by omega) (Ev.bind (spec_cmp _ _ _ _ _ _ _ _) ?_))
        show Ev (fun k => spec_GoodRun.j1 k l l (l.length : Int) i (decide (cmpI (l.getD (i - 1) z27) (l.getD i z27) ≥ 0))) _
        by_cases hc : cmpI (l.getD (i - 1) z27) (l.getD i z27) ≥ 0
        · rw [if_pos hc]; exact Ev.step (fun k => by rw [spec_GoodRun.j1]) (Ev.pos_ (decide_eq_true hc) (Ev.now _))
        · rw [if_neg hc]; exact Ev.step (fun k => by rw [spec_GoodRun.j1, wi (show i < l.length by omega) hl]) (Ev.neg_ (by simp only [hc]; simp) hn)
      · rw [if_neg h0]
        exact Ev.neg_ (by omega) (Ev.step (fun k => by rw [spec_GoodRun.j1, wi (show i < l.length by omega) hl]) (Ev.neg_ (by simp) hn))
    · rw [if_neg h]; exact Ev.neg_ h (Ev.step (fun k => by rw [spec_GoodRun.j1]) (Ev.pos_ rfl (Ev.now _)))
theorem spec_run (l : List S27) (hl : l.length ≤ 140737488351232) : Ev (fun k => spec_GoodRun.f k l) (goodRunV l) := spec_run_l l hl l.length 0 (by omega)

-- part implRunJ needs impl_GoodRun.f impl_GoodRun.j1
theorem impl_run_l (l : List S27) (hl : l.length ≤ 140737488351232) : ∀ (d i : Nat), i + d = l.length → Ev (fun k => impl_GoodRun.l0 k l l (l.length : Int) i) (goodRunR l d i) := by
  intro d
  induction d with
  | zero =>
    intro i hi
    refine Ev.step (fun k => by rw [impl_GoodRun.l0]) ?_
    exact Ev.neg_ (by omega) (Ev.now _)
  | succ d ih =>
    intro i hi
    unfold goodRunR
    have hn := ih (i + 1) (by omega)
    refine Ev.step (fun k => by rw [impl_GoodRun.l0]) ?_
    refine Ev.pos_ (by omega) (Ev.pos_ (by omega) (Ev.pos_ (by omega) ?_))
    simp only [rdI_nat, impl_goodItem, Option.bind_some]
    by_cases h : goodI (l.getD i z27) = true
    · rw [if_pos h]
      refine Ev.pos_ h ?_
      by_cases h0 : i > 0
      · rw [if_pos h0]
        have ew : wrap64 ((i : Int) - 1) = ((i - 1 : Nat) : Int) := by rw [w64 (by omega) (by omega)]; omega
        refine Ev.pos_ (by omega) ?_
        simp only [ew, rdI_nat]
        refine Ev.pos_ (by omega) (Ev.pos_ (by omega) (Ev.bind (impl_cmp _ _ _ _ _ _ _ _) ?_))
        show Ev (fun k => impl_GoodRun.j1 k l l (l.length : Int) i (decide (cmpI (l.getD (i - 1) z27) (l.getD i z27) ≥ 0))) _
        by_cases hc : cmpI (l.getD (i - 1) z27) (l.getD i z27) ≥ 0
        · rw [if_pos hc]; exact Ev.step (fun k => by rw [impl_GoodRun.j1]) (Ev.pos_ (decide_eq_true hc) (Ev.now _))
        · rw [if_neg hc]; exact Ev.step (fun k => by rw [impl_GoodRun.j1, wi (show i < l.length by omega) hl]) (Ev.neg_ (by simp only [hc]; simp) hn)
      · rw [if_neg h0]
        exact Ev.neg_ (by omega) (Ev.step (fun k => by rw [impl_GoodRun.j1, wi (show i < l.length by omega) hl]) (Ev.neg_ (by simp) hn))
    · rw [if_neg h]; exact Ev.neg_ h (Ev.step (fun k => by rw [impl_GoodRun.j1]) (Ev.pos_ rfl (Ev.now _)))
theorem impl_run (l : List S27) (hl : l.length ≤ 140737488351232) : Ev (fun k => impl_GoodRun.f k l) (goodRunV l) := impl_run_l l hl l.length 0 (by omega)

-- part blockM: a block's bytes
def comI (l : List S27) (i : Nat) : Int := if i % 4 = 0 then 0 else comV (l.getD (i - 1) z27).f0 (l.getD i z27).f0
def itemV (a : S27) (c : Int) : ByteArray :=
  ((((varB c ++ varB ((a.f0.size : Int) - c)) ++ varB (2 * a.f1 + a.f2)) ++ varB (a.f3.size : Int)) ++ a.f0.extract c.toNat a.f0.size) ++ a.f3
def tailV (rs : List Int) : ByteArray := rs.foldl (fun acc r => acc ++ lowV r 2) ⟨#[]⟩
def blockR (l : List S27) : Nat → Nat → ByteArray → List Int → ByteArray × List Int
  | 0, _, s, rs => (s, rs)
  | d + 1, i, s, rs => blockR l d (i + 1) (s ++ itemV (l.getD i z27) (comI l i)) (if i % 4 = 0 then rs ++ [(s.size : Int)] else rs)
def bodyV (p : ByteArray × List Int) : ByteArray := p.1 ++ (tailV p.2 ++ lowV p.2.length 2)
def finV (p : ByteArray × List Int) : ByteArray := bodyV p ++ wordV (sumV (bodyV p))
def blockP (l : List S27) : ByteArray × List Int := blockR l l.length 0 ⟨#[]⟩ []
def blockV (l : List S27) : ByteArray := finV (blockP l)
theorem app_nil (a : ByteArray) : a ++ (⟨#[]⟩ : ByteArray) = a := ByteArray.append_empty
theorem nil_app (a : ByteArray) : (⟨#[]⟩ : ByteArray) ++ a = a := ByteArray.empty_append
theorem tail_snoc (rs : List Int) (r : Int) : tailV (rs ++ [r]) = tailV rs ++ lowV r 2 := by unfold tailV; rw [List.foldl_append]; rfl
theorem foldl_size (rs : List Int) : ∀ acc : ByteArray, (rs.foldl (fun acc r => acc ++ lowV r 2) acc).size = acc.size + 2 * rs.length := by
  induction rs with
  | nil => intro acc; simp
  | cons r rs ih => intro acc; rw [List.foldl_cons, ih, ByteArray.size_append, lowV_size, List.length_cons]; omega
theorem tail_size (rs : List Int) : (tailV rs).size = 2 * rs.length := by unfold tailV; rw [foldl_size]; simp [ByteArray.size]
theorem foldl_from (rs : List Int) : ∀ acc : ByteArray, rs.foldl (fun acc r => acc ++ lowV r 2) acc = acc ++ tailV rs := by
  induction rs with
  | nil => intro acc; unfold tailV; rw [List.foldl_nil, List.foldl_nil, app_nil]
  | cons r rs ih =>
    intro acc
    have h := ih (⟨#[]⟩ ++ lowV r 2)
    rw [List.foldl_cons, ih (acc ++ lowV r 2)]
    unfold tailV at h ⊢
    rw [List.foldl_cons, h, ByteArray.append_assoc, nil_app]
theorem comI_range (l : List S27) (i : Nat) : 0 ≤ comI l i ∧ comI l i ≤ (l.getD i z27).f0.size := by
  unfold comI
  split
  · omega
  · have := comV_range (l.getD (i - 1) z27).f0 (l.getD i z27).f0; omega
theorem itemV_size {a : S27} (h : goodI a = true) {c : Int} (h0 : 0 ≤ c) (h1 : c ≤ a.f0.size) : (itemV a c).size ≤ 92 := by
  have hg := goodI_iff h
  have v1 := varB_size c; have v2 := varB_size ((a.f0.size : Int) - c); have v3 := varB_size (2 * a.f1 + a.f2); have v4 := varB_size (a.f3.size : Int)
  unfold itemV
  simp only [ByteArray.size_append, ByteArray.size_extract]
  omega

-- part specBlock needs spec_l6Block.f
theorem spec_two (n : Int) : spec_l6Two.f n = some (lowV n 2) := by unfold spec_l6Two.f lowV; simp only [lowL]
theorem spec_block_j (l : List S27) (hl : l.length ≤ 40) (s t : ByteArray) (c : Int) (i : Nat) (a : S27) (hg : goodI a = true) (h0 : 0 ≤ c) (h1 : c ≤ a.f0.size) (hs : s.size ≤ 100000) (hi : i < l.length) (r : ByteArray)
    (h : Ev (fun k => spec_l6Block.l0 k l (s ++ itemV a c) t l (l.length : Int) ((i + 1 : Nat) : Int)) r) : Ev (fun k => spec_l6Block.j1 k l s t c l (l.length : Int) i a.f0 a.f1 a.f2 a.f3) r := by
  have hq := goodI_iff hg
  have v1 := varB_size c; have v2 := varB_size ((a.f0.size : Int) - c); have v3 := varB_size (2 * a.f1 + a.f2); have v4 := varB_size (a.f3.size : Int)
  have e1 : wrap64 ((a.f0.size : Int) - c) = (a.f0.size : Int) - c := w64 (by omega) (by omega)
  have e2 : wrap64 (wrap64 (2 * a.f1) + a.f2) = 2 * a.f1 + a.f2 := by rw [w64 (n := 2 * a.f1) (by omega) (by omega), w64 (by omega) (by omega)]
  refine Ev.step (fun k => by rw [spec_l6Block.j1]) ?_
  simp only [e1, e2]
  refine Ev.bind (spec_var h0 (by omega)) (Ev.bind (spec_var (by omega) (by omega)) (Ev.pos_ (by omega) ?_))
  refine Ev.bind (spec_var (by omega) (by omega)) (Ev.pos_ (by omega) ?_)
  refine Ev.bind (spec_var (by omega) (by omega)) (Ev.pos_ (by omega) (Ev.pos_ h0 (Ev.pos_ h1 ?_)))
  refine Ev.pos_ (by omega) (Ev.pos_ (by omega) (Ev.pos_ (by omega) ?_))
  rw [wi hi (by omega)]
  exact h
theorem spec_block_l (l : List S27) (hl : l.length ≤ 40) (hg : ∀ j, j < l.length → goodI (l.getD j z27) = true) : ∀ (d i : Nat) (s : ByteArray) (rs : List Int), i + d = l.length → s.size ≤ i * 92 → rs.length ≤ i →
    Ev (fun k => spec_l6Block.l0 k l s (tailV rs) l (l.length : Int) i) (finV (blockR l d i s rs)) := by
  intro d
  induction d with
  | zero =>
    intro i s rs hi hs hr
    have ht := tail_size rs
    have hw := lowV_size (rs.length : Int) 2
    refine Ev.step (fun k => by rw [spec_l6Block.l0]) ?_
    refine Ev.neg_ (by omega) ?_
    simp only [spec_two, spec_word, Option.bind_some, blockR, finV, bodyV]
    rw [show ((tailV rs).size : Int) / 2 = (rs.length : Int) by omega]
    refine Ev.pos_ (by omega) (Ev.pos_ (by omega) (Ev.bind (spec_sum _ (by simp only [ByteArray.size_append]; omega)) ?_))
    have hz := wordV_size (sumV (s ++ (tailV rs ++ lowV (↑rs.length) 2)))
    exact Ev.pos_ (by omega) (Ev.now _)
  | succ d ih =>
    intro i s rs hi hs hr
    have hgi := hg i (by omega)
    have hc := comI_range l i
    have hsz := itemV_size hgi hc.1 hc.2
    have ht := tail_size rs
    refine Ev.step (fun k => by rw [spec_l6Block.l0]) ?_
    refine Ev.pos_ (by omega) (Ev.pos_ (by omega) (Ev.pos_ (by omega) ?_))
    simp only [rdI_nat]
    have em : Int.tmod (i : Int) 4 = ((i % 4 : Nat) : Int) := by rw [Int.tmod_eq_emod_of_nonneg (by omega)]; omega
    have hn := ih (i + 1) (s ++ itemV (l.getD i z27) (comI l i)) (if i % 4 = 0 then rs ++ [(s.size : Int)] else rs) (by omega) (by rw [ByteArray.size_append]; omega) (by split <;> (try simp only [List.length_append, List.length_singleton]) <;> omega)
    unfold blockR
    by_cases h4 : i % 4 = 0
    · refine Ev.pos_ (by omega) ?_
      have hc0 : comI l i = 0 := by unfold comI; rw [if_pos h4]
      have hw := lowV_size (s.size : Int) 2
      simp only [spec_two, Option.bind_some]
      refine Ev.pos_ (by omega) ?_
      rw [if_pos h4] at hn ⊢
      rw [tail_snoc] at hn
      rw [hc0] at hn ⊢
      exact spec_block_j l hl s _ 0 i _ hgi (by omega) (by omega) (by omega) (by omega) _ hn
    · refine Ev.neg_ (by omega) ?_
      have ew : wrap64 ((i : Int) - 1) = ((i - 1 : Nat) : Int) := by rw [w64 (by omega) (by omega)]; omega
      simp only [ew, rdI_nat]
      have hgp := goodI_iff (hg (i - 1) (by omega))
      refine Ev.pos_ (by omega) (Ev.pos_ (by omega) (Ev.bind (spec_common _ _ (by omega)) ?_))
      have hce : comV (l.getD (i - 1) z27).f0 (l.getD i z27).f0 = comI l i := by unfold comI; rw [if_neg h4]
      rw [if_neg h4] at hn ⊢
      rw [hce]
      exact spec_block_j l hl s _ _ i _ hgi hc.1 hc.2 (by omega) (by omega) _ hn
theorem spec_block (l : List S27) (hl : l.length ≤ 40) (hg : ∀ j, j < l.length → goodI (l.getD j z27) = true) : Ev (fun k => spec_l6Block.f k l) (blockV l) :=
  spec_block_l l hl hg l.length 0 ⟨#[]⟩ [] (by omega) (by decide) (by simp)

-- part implBlock needs impl_block.f
theorem impl_block_j (l : List S27) (hl : l.length ≤ 40) (s : ByteArray) (rs : List Int) (c : Int) (i : Nat) (a : S27) (hg : goodI a = true) (h0 : 0 ≤ c) (h1 : c ≤ a.f0.size) (hs : s.size ≤ 100000) (hi : i < l.length) (r : ByteArray × List Int)
    (h : Ev (fun k => impl_block.l0 k (s ++ itemV a c) rs a.f0 l (l.length : Int) ((i + 1 : Nat) : Int)) r) : Ev (fun k => impl_block.j1 k s rs c l (l.length : Int) i a.f0 a.f1 a.f2 a.f3) r := by
  have hq := goodI_iff hg
  have v1 := varB_size c; have v2 := varB_size ((a.f0.size : Int) - c); have v3 := varB_size (2 * a.f1 + a.f2); have v4 := varB_size (a.f3.size : Int)
  have e1 : wrap64 ((a.f0.size : Int) - c) = (a.f0.size : Int) - c := w64 (by omega) (by omega)
  have e2 : wrap64 (wrap64 (2 * a.f1) + a.f2) = 2 * a.f1 + a.f2 := by rw [w64 (n := 2 * a.f1) (by omega) (by omega), w64 (by omega) (by omega)]
  refine Ev.step (fun k => by rw [impl_block.j1]) ?_
  simp only [e1, e2]
  refine Ev.bind (impl_var h0 (by omega)) (Ev.bind (impl_var (by omega) (by omega)) (Ev.pos_ (by omega) ?_))
  refine Ev.bind (impl_var (by omega) (by omega)) (Ev.pos_ (by omega) ?_)
  refine Ev.bind (impl_var (by omega) (by omega)) (Ev.pos_ (by omega) (Ev.pos_ h0 (Ev.pos_ h1 ?_)))
  refine Ev.pos_ (by omega) (Ev.pos_ (by omega) (Ev.pos_ (by omega) ?_))
  rw [wi hi (by omega)]
  exact h
theorem impl_block_t (s : ByteArray) (rs : List Int) (hs : s.size ≤ 10000) (hr : rs.length ≤ 1000) (hv : ∀ r ∈ rs, 0 ≤ r ∧ r ≤ 100000) : ∀ (d i : Nat) (acc : ByteArray), i + d = rs.length → acc = s ++ tailV (rs.take i) → Ev (fun k => impl_block.l1 k acc rs rs (rs.length : Int) i) (finV (s, rs), rs) := by
  intro d
  induction d with
  | zero =>
    intro i acc hi ha
    obtain rfl : i = rs.length := by omega
    rw [List.take_length] at ha
    subst ha
    have ht := tail_size rs
    refine Ev.step (fun k => by rw [impl_block.l1]) ?_
    refine Ev.neg_ (by omega) ?_
    have hw := lowV_size (rs.length : Int) 2
    rw [show ((rs.length : Int)) % 4294967296 = rs.length from Int.emod_eq_of_lt (by omega) (by omega)]
    refine Ev.bind (impl_low _ 2 (by omega)) ?_
    have e : s ++ tailV rs ++ lowV (rs.length : Int) 2 = bodyV (s, rs) := by unfold bodyV; rw [ByteArray.append_assoc]
    refine Ev.pos_ (by simp only [ByteArray.size_append]; omega) ?_
    rw [e]
    have hb : (bodyV (s, rs)).size = s.size + (2 * rs.length + 2) := by unfold bodyV; simp only [ByteArray.size_append]; omega
    refine Ev.bind (impl_sum _ (by omega)) (Ev.bind (impl_low _ 4 (by omega)) ?_)
    have hz := lowV_size (sumV (bodyV (s, rs))) 4
    exact Ev.pos_ (by simp only [ByteArray.size_append]; omega) (Ev.now _)
  | succ d ih =>
    intro i acc hi ha
    refine Ev.step (fun k => by rw [impl_block.l1]) ?_
    refine Ev.pos_ (by omega) (Ev.pos_ (by omega) (Ev.pos_ (by omega) ?_))
    have hvi := hv (rs[i]'(by omega)) (List.getElem_mem _)
    have er : rd rs (i : Int) % 4294967296 = rs[i]'(by omega) := by
      rw [rd_nat, List.getD_eq_getElem?_getD, List.getElem?_eq_getElem (show i < rs.length by omega)]
      exact Int.emod_eq_of_lt hvi.1 (by show rs[i]'(by omega) < 4294967296; omega)
    rw [er]
    refine Ev.bind (impl_low _ 2 (by omega)) ?_
    have hw := lowV_size (rs[i]'(by omega)) 2
    have hz : acc.size = s.size + 2 * i := by rw [ha, ByteArray.size_append, tail_size, List.length_take]; omega
    refine Ev.pos_ (by omega) ?_
    rw [wi (show i < rs.length by omega) (by omega)]
    refine ih (i + 1) _ (by omega) ?_
    rw [ha, List.take_succ_eq_append_getElem (show i < rs.length by omega), tail_snoc, ByteArray.append_assoc]
theorem impl_block_l (l : List S27) (hl : l.length ≤ 40) (hg : ∀ j, j < l.length → goodI (l.getD j z27) = true) : ∀ (d i : Nat) (s : ByteArray) (rs : List Int) (ahead : ByteArray), i + d = l.length → s.size ≤ i * 92 → rs.length ≤ i → (∀ r ∈ rs, 0 ≤ r ∧ r ≤ 100000) → (0 < i → ahead = (l.getD (i - 1) z27).f0) → ahead.size ≤ 1000 →
    Ev (fun k => impl_block.l0 k s rs ahead l (l.length : Int) i) (finV (blockR l d i s rs), (blockR l d i s rs).2) := by
  intro d
  induction d with
  | zero =>
    intro i s rs ahead hi hs hr hv ha hz
    refine Ev.step (fun k => by rw [impl_block.l0]) ?_
    refine Ev.neg_ (by omega) ?_
    unfold blockR
    refine impl_block_t s rs (by omega) (by omega) hv rs.length 0 s (by omega) ?_
    unfold tailV; rw [List.take_zero, List.foldl_nil, app_nil]
  | succ d ih =>
    intro i s rs ahead hi hs hr hv ha hz
    have hgi := hg i (by omega)
    have hqi := goodI_iff hgi
    have hc := comI_range l i
    have hsz := itemV_size hgi hc.1 hc.2
    refine Ev.step (fun k => by rw [impl_block.l0]) ?_
    refine Ev.pos_ (by omega) (Ev.pos_ (by omega) (Ev.pos_ (by omega) ?_))
    simp only [rdI_nat]
    have em : Int.tmod (i : Int) 4 = ((i % 4 : Nat) : Int) := by rw [Int.tmod_eq_emod_of_nonneg (by omega)]; omega
    have hn := ih (i + 1) (s ++ itemV (l.getD i z27) (comI l i)) (if i % 4 = 0 then rs ++ [(s.size : Int)] else rs) (l.getD i z27).f0 (by omega) (by rw [ByteArray.size_append]; omega) (by split <;> (try simp only [List.length_append, List.length_singleton]) <;> omega)
      (by
        intro r hrm
        split at hrm
        · rcases List.mem_append.1 hrm with h | h
          · exact hv r h
          · simp only [List.mem_singleton] at h; subst h; omega
        · exact hv r hrm) (fun _ => by rw [Nat.add_sub_cancel]) (by omega)
    unfold blockR
    refine Ev.bind (impl_common _ _ (by omega)) ?_
    by_cases h4 : i % 4 = 0
    · refine Ev.pos_ (by omega) ?_
      have hc0 : comI l i = 0 := by unfold comI; rw [if_pos h4]
      refine Ev.pos_ (by omega) ?_
      simp only [if_pos h4] at hn ⊢
      rw [hc0] at hn ⊢
      exact impl_block_j l hl s _ 0 i _ hgi (by omega) (by omega) (by omega) (by omega) _ hn
    · refine Ev.neg_ (by omega) ?_
      have hce : comV ahead (l.getD i z27).f0 = comI l i := by unfold comI; rw [if_neg h4, ha (by omega)]
      simp only [if_neg h4] at hn ⊢
      rw [hce]
      exact impl_block_j l hl s _ _ i _ hgi hc.1 hc.2 (by omega) (by omega) _ hn
theorem impl_block_ (l : List S27) (hl : l.length ≤ 40) (hg : ∀ j, j < l.length → goodI (l.getD j z27) = true) : Ev (fun k => impl_block.f k l) (blockV l, (blockP l).2) :=
  impl_block_l l hl hg l.length 0 ⟨#[]⟩ [] ⟨#[]⟩ (by omega) (by decide) (by simp) (fun r h => by cases h) (fun h => absurd h (by omega)) (by decide)

-- part addM: bits are set
def addBit (xs : List Int) (p : Int) : List Int := xs.set (p / 8).toNat (Go.bits .or .u8 (rd xs (p / 8)) (shl .u8 1 (p % 8)))
def addAll (xs ps : List Int) : List Int := ps.foldl addBit xs
theorem addBit_len (xs : List Int) (p : Int) : (addBit xs p).length = xs.length := by unfold addBit; simp
theorem addAll_len (ps : List Int) : ∀ xs : List Int, (addAll xs ps).length = xs.length := by
  induction ps with
  | nil => intro xs; rfl
  | cons p ps ih => intro xs; show (addAll (addBit xs p) ps).length = _; rw [ih, addBit_len]
theorem addAll_drop (xs ps : List Int) (i : Nat) (h : i < ps.length) : addAll xs (ps.drop i) = addAll (addBit xs (rd ps (i : Int))) (ps.drop (i + 1)) := by
  rw [List.drop_eq_getElem_cons h]
  unfold rd
  rw [List.getD_eq_getElem?_getD, Int.toNat_natCast, List.getElem?_eq_getElem h]; rfl
def addV (h : Int) (b : ByteArray) (m : Int) (key : ByteArray) : Int × ByteArray × Int := (h, strOfNums (addAll (bytesOf b) (placesV key h)), if m < 1000000 then m + 1 else m)
theorem placesV_rd (key : ByteArray) (h : Int) (i : Nat) (hi : i < (placesV key h).length) : 0 ≤ rd (placesV key h) (i : Int) ∧ rd (placesV key h) (i : Int) < 256 := by
  unfold rd
  rw [List.getD_eq_getElem?_getD, Int.toNat_natCast, List.getElem?_eq_getElem hi]
  exact placesR_mem _ _ _ _ (List.getElem_mem hi)
theorem goodFilterB_iff {h : Int} {b : ByteArray} {m : Int} (g : goodFilterB h b m = true) : 1 ≤ h ∧ h ≤ 8 ∧ b.size = 32 ∧ 0 ≤ m ∧ m ≤ 1000000 := by
  unfold goodFilterB at g
  simp only [Bool.and_eq_true, inB_iff, decide_eq_true_eq] at g
  omega

-- part specAdd needs spec_l5Add.f
theorem spec_add_l (h : Int) (b : ByteArray) (m : Int) (hm : 0 ≤ m ∧ m ≤ 1000000) (ps : List Int) (hn : ps.length ≤ 1000) (hp : ∀ i : Nat, i < ps.length → 0 ≤ rd ps (i : Int) ∧ rd ps (i : Int) < 256) : ∀ (d i : Nat) (xs : List Int), i + d = ps.length → xs.length = 32 →
    Ev (fun k => spec_l5Add.l0 k xs ps (ps.length : Int) i h b m) (h, strOfNums (addAll xs (ps.drop i)), if m < 1000000 then m + 1 else m) := by
  intro d
  induction d with
  | zero =>
    intro i xs hi hx
    refine Ev.step (fun k => by rw [spec_l5Add.l0]) ?_
    rw [List.drop_eq_nil_of_le (by omega)]
    refine Ev.neg_ (by omega) (Ev.ite_ (fun hl => ?_) (fun hl => ?_))
    · rw [if_pos hl, w64 (n := m + 1) (by omega) (by omega)]; exact Ev.now _
    · rw [if_neg hl]; exact Ev.now _
  | succ d ih =>
    intro i xs hi hx
    have hr := hp i (by omega)
    refine Ev.step (fun k => by rw [spec_l5Add.l0]) ?_
    rw [w64 (n := (i : Int) + 1) (by omega) (by omega), Int.tdiv_eq_ediv_of_nonneg hr.1, Int.tmod_eq_emod_of_nonneg hr.1, w64 (n := rd ps (i : Int) / 8) (by omega) (by omega), wu64 (n := rd ps (i : Int) % 8) (by omega) (by omega)]
    refine Ev.pos_ (by omega) (Ev.pos_ (by omega) (Ev.pos_ (by omega) (Ev.pos_ (by omega) (Ev.pos_ (by omega) (Ev.pos_ (by omega) ?_)))))
    have := ih (i + 1) (addBit xs (rd ps (i : Int))) (by omega) (by rw [addBit_len]; exact hx)
    rw [← addAll_drop xs ps i (by omega)] at this
    exact this
theorem spec_add (h : Int) (b : ByteArray) (m : Int) (key : ByteArray) (g : goodFilterB h b m = true) (hk : key.size ≤ 140737488351232) : Ev (fun k => spec_l5Add.f k h b m key) (addV h b m key) := by
  have hh := goodFilterB_iff g
  have hl := placesV_len key (h := h) (by omega)
  unfold spec_l5Add.f
  refine Ev.pos_ (by omega) (Ev.bind (spec_places key h (by omega) (by omega) hk) ?_)
  exact spec_add_l h b m (by omega) (placesV key h) (by omega) (placesV_rd key h) (placesV key h).length 0 (bytesOf b) (by omega) (by rw [bytesOf_length]; omega)

-- part implAdd needs impl_AddKey.f
theorem impl_add_l (h : Int) (b : ByteArray) (m : Int) (hm : 0 ≤ m ∧ m ≤ 1000000) (ps : List Int) (hn : ps.length ≤ 1000) (hp : ∀ i : Nat, i < ps.length → 0 ≤ rd ps (i : Int) ∧ rd ps (i : Int) < 256) : ∀ (d i : Nat) (xs : List Int), i + d = ps.length → xs.length = 32 →
    Ev (fun k => impl_AddKey.l0 k xs ps (ps.length : Int) i h b m) (h, strOfNums (addAll xs (ps.drop i)), if m < 1000000 then m + 1 else m, true) := by
  intro d
  induction d with
  | zero =>
    intro i xs hi hx
    refine Ev.step (fun k => by rw [impl_AddKey.l0]) ?_
    rw [List.drop_eq_nil_of_le (by omega)]
    refine Ev.neg_ (by omega) ?_
    rw [w64 (n := m + 1) (by omega) (by omega)]
    have : mn (m + 1) 1000000 = if m < 1000000 then m + 1 else m := by unfold mn; split <;> split <;> omega
    rw [this]; exact Ev.now _
  | succ d ih =>
    intro i xs hi hx
    have hr := hp i (by omega)
    refine Ev.step (fun k => by rw [impl_AddKey.l0]) ?_
    rw [w64 (n := (i : Int) + 1) (by omega) (by omega), Int.tdiv_eq_ediv_of_nonneg hr.1, Int.tmod_eq_emod_of_nonneg hr.1, w64 (n := rd ps (i : Int) / 8) (by omega) (by omega)]
    refine Ev.pos_ (by omega) (Ev.pos_ (by omega) (Ev.pos_ (by omega) (Ev.pos_ (by omega) (Ev.pos_ (by omega) (Ev.pos_ (by omega) ?_)))))
    have := ih (i + 1) (addBit xs (rd ps (i : Int))) (by omega) (by rw [addBit_len]; exact hx)
    rw [← addAll_drop xs ps i (by omega)] at this
    exact this
theorem impl_addKey (h : Int) (b : ByteArray) (m : Int) (key : ByteArray) (hk : key.size ≤ 140737488351232) :
    Ev (fun k => impl_AddKey.f k h b m key) (if goodFilterB h b m = true ∧ keyB key = true then ((addV h b m key).1, (addV h b m key).2.1, (addV h b m key).2.2, true) else (0, ⟨#[]⟩, 0, false)) := by
  unfold impl_AddKey.f
  simp only [impl_goodFilter, impl_key, Option.bind_some]
  by_cases g : goodFilterB h b m = true
  · refine Ev.pos_ g (Ev.step (fun k => by rw [impl_AddKey.j0]) ?_)
    by_cases gk : keyB key = true
    · have hh := goodFilterB_iff g
      have hl := placesV_len key (h := h) (by omega)
      rw [if_pos ⟨g, gk⟩]
      refine Ev.neg_ (by simp [gk]) (Ev.pos_ (by omega) (Ev.bind (impl_places_ key h (by omega) (by omega) hk) ?_))
      exact impl_add_l h b m (by omega) (placesV key h) (by omega) (placesV_rd key h) (placesV key h).length 0 (bytesOf b) (by omega) (by rw [bytesOf_length]; omega)
    · rw [if_neg (fun e => gk e.2)]; exact Ev.pos_ (by simp [gk]) (Ev.now _)
  · rw [if_neg (fun e => g e.1)]
    refine Ev.neg_ g (Ev.step (fun k => by rw [impl_AddKey.j0]) ?_)
    exact Ev.pos_ rfl (Ev.now _)

-- part newM: a new filter
def newV (h : Int) : Int × ByteArray × Int × Bool := if inB h 1 8 = true then (h, strOfNums (List.replicate 32 0), 0, true) else (0, ⟨#[]⟩, 0, false)
theorem newV_good {h : Int} (g : inB h 1 8 = true) : goodFilterB h (strOfNums (List.replicate 32 0)) 0 = true := by
  unfold goodFilterB
  rw [strOfNums_size, g]; rfl
theorem addV_good {h : Int} {b : ByteArray} {m : Int} (key : ByteArray) (g : goodFilterB h b m = true) : goodFilterB (addV h b m key).1 (addV h b m key).2.1 (addV h b m key).2.2 = true := by
  have hh := goodFilterB_iff g
  unfold addV goodFilterB
  rw [strOfNums_size, addAll_len, bytesOf_length]
  have h1 : inB h 1 8 = true := by rw [inB_iff]; omega
  have h2 : inB (if m < 1000000 then m + 1 else m) 0 1000000 = true := by rw [inB_iff]; split <;> omega
  dsimp only
  rw [h1, h2, hh.2.2.1]; rfl

-- part specNew needs spec_NewFilter.f
theorem spec_new (h : Int) : spec_NewFilter.f h = some (newV h) := by
  unfold spec_NewFilter.f spec_l5Hashes.f newV
  simp only [spec_in, Option.bind_some]
  by_cases g : inB h 1 8 = true
  · rw [if_pos g, if_pos (by decide), if_pos g]
  · rw [if_neg g, if_neg g]

-- part implNew needs impl_NewFilter.f
theorem repeat32 : strings_Repeat.f (⟨#[0]⟩ : ByteArray) 32 = some (strOfNums (List.replicate 32 0)) := by
  unfold strings_Repeat.f
  rw [if_pos (by refine ⟨by decide, by decide, ?_⟩; show 1 * 32 ≤ _; decide)]
  rfl
theorem impl_new (h : Int) : impl_NewFilter.f h = some (newV h) := by
  unfold impl_NewFilter.f impl_hashesOk.f newV
  simp only [impl_in_, Option.bind_some, repeat32]
  by_cases g : inB h 1 8 = true
  · rw [if_pos g, if_pos g]
  · rw [if_neg g, if_neg g]

-- part filterM: the filter of keys
def filterR : List ByteArray → Int × ByteArray × Int → Int × ByteArray × Int × Bool
  | [], f => (f.1, f.2.1, f.2.2, true)
  | x :: xs, f => if keyB x = true then filterR xs (addV f.1 f.2.1 f.2.2 x) else (0, ⟨#[]⟩, 0, false)
theorem filterR_drop (l : List ByteArray) (f : Int × ByteArray × Int) (i : Nat) (h : i < l.length) : filterR (l.drop i) f = if keyB (l[i]'h) = true then filterR (l.drop (i + 1)) (addV f.1 f.2.1 f.2.2 (l[i]'h)) else (0, ⟨#[]⟩, 0, false) := by
  rw [List.drop_eq_getElem_cons h]; rfl
def filterV (l : List ByteArray) (h : Int) : Int × ByteArray × Int × Bool :=
  if inB h 1 8 = true ∧ l.length ≤ 200 then filterR l (h, strOfNums (List.replicate 32 0), 0) else (0, ⟨#[]⟩, 0, false)
theorem rdOf_get {α : Type} (d : α) {xs : List α} {i : Nat} (h : i < xs.length) : rdOf d xs (i : Int) = xs[i]'h := by
  rw [rdOf_nat, List.getD_eq_getElem?_getD, List.getElem?_eq_getElem h]; rfl

-- part specFilterOf needs spec_FilterOf.f
theorem spec_filter_l (l : List ByteArray) (hn : l.length ≤ 1000) (hl : ∀ x ∈ l, x.size ≤ 140737488351232) : ∀ (d i : Nat) (h : Int) (b : ByteArray) (m : Int), i + d = l.length → goodFilterB h b m = true →
    Ev (fun k => spec_FilterOf.l0 k l (l.length : Int) i h b m) (filterR (l.drop i) (h, b, m)) := by
  intro d
  induction d with
  | zero =>
    intro i h b m hi g
    refine Ev.step (fun k => by rw [spec_FilterOf.l0]) ?_
    rw [List.drop_eq_nil_of_le (by omega)]
    exact Ev.neg_ (by omega) (Ev.now _)
  | succ d ih =>
    intro i h b m hi g
    refine Ev.step (fun k => by rw [spec_FilterOf.l0]) ?_
    rw [filterR_drop l _ i (by omega), rdOf_get _ (by omega), spec_key, wi (show i < l.length by omega) (by omega)]
    refine Ev.pos_ (by omega) (Ev.pos_ (by omega) (Ev.pos_ (by omega) (Ev.some_ ?_)))
    refine Ev.ite_ (fun gk => ?_) (fun gk => ?_)
    · rw [if_pos gk]
      refine Ev.bind (spec_add h b m (l[i]'(by omega)) g (hl _ (List.getElem_mem _))) ?_
      exact ih (i + 1) _ _ _ (by omega) (addV_good _ g)
    · rw [if_neg gk]; exact Ev.now _
theorem spec_filterOf (l : List ByteArray) (h : Int) (hl : ∀ x ∈ l, x.size ≤ 140737488351232) (hn : l.length ≤ 140737488351232) : Ev (fun k => spec_FilterOf.f k l h) (filterV l h) := by
  unfold spec_FilterOf.f filterV
  rw [spec_new, newV]
  by_cases g : inB h 1 8 = true
  · rw [if_pos g]
    refine Ev.some_ (Ev.pos_ rfl (Ev.step (fun k => by rw [spec_FilterOf.j0]) ?_))
    by_cases hn : l.length ≤ 200
    · rw [if_pos ⟨g, hn⟩]
      refine Ev.neg_ (by simp; omega) ?_
      have := spec_filter_l l (by omega) hl l.length 0 h _ 0 (by omega) (newV_good g)
      simpa using this
    · rw [if_neg (fun e => hn e.2)]
      exact Ev.pos_ (by simp; omega) (Ev.now _)
  · rw [if_neg g, if_neg (fun e => g e.1)]
    exact Ev.some_ (Ev.neg_ (by simp) (Ev.step (fun k => by rw [spec_FilterOf.j0]) (Ev.pos_ rfl (Ev.now _))))

-- part implFilterOf needs impl_FilterOf.f
theorem impl_filter_l (l : List ByteArray) (hn : l.length ≤ 1000) (hl : ∀ x ∈ l, x.size ≤ 140737488351232) : ∀ (d i : Nat) (h : Int) (b : ByteArray) (m : Int), i + d = l.length → goodFilterB h b m = true →
    Ev (fun k => impl_FilterOf.l0 k l (l.length : Int) i h b m) (filterR (l.drop i) (h, b, m)) := by
  intro d
  induction d with
  | zero =>
    intro i h b m hi g
    refine Ev.step (fun k => by rw [impl_FilterOf.l0]) ?_
    rw [List.drop_eq_nil_of_le (by omega)]
    exact Ev.neg_ (by omega) (Ev.now _)
  | succ d ih =>
    intro i h b m hi g
    refine Ev.step (fun k => by rw [impl_FilterOf.l0]) ?_
    rw [filterR_drop l _ i (by omega), rdOf_get _ (by omega), wi (show i < l.length by omega) (by omega)]
    refine Ev.pos_ (by omega) (Ev.pos_ (by omega) (Ev.pos_ (by omega) ?_))
    refine Ev.bind (impl_addKey h b m (l[i]'(by omega)) (hl _ (List.getElem_mem _))) ?_
    by_cases gk : keyB (l[i]'(by omega)) = true
    · rw [if_pos gk, if_pos ⟨g, gk⟩]
      refine Ev.pos_ rfl ?_
      exact ih (i + 1) _ _ _ (by omega) (addV_good _ g)
    · rw [if_neg gk, if_neg (fun e => gk e.2)]; exact Ev.neg_ (by simp) (Ev.now _)
theorem impl_filterOf (l : List ByteArray) (h : Int) (hl : ∀ x ∈ l, x.size ≤ 140737488351232) (hn : l.length ≤ 140737488351232) : Ev (fun k => impl_FilterOf.f k l h) (filterV l h) := by
  unfold impl_FilterOf.f filterV
  rw [impl_new, newV]
  by_cases g : inB h 1 8 = true
  · rw [if_pos g]
    refine Ev.some_ (Ev.pos_ rfl (Ev.step (fun k => by rw [impl_FilterOf.j0]) ?_))
    by_cases hn : l.length ≤ 200
    · rw [if_pos ⟨g, hn⟩]
      refine Ev.neg_ (by simp; omega) ?_
      have := impl_filter_l l (by omega) hl l.length 0 h _ 0 (by omega) (newV_good g)
      simpa using this
    · rw [if_neg (fun e => hn e.2)]
      exact Ev.pos_ (by simp; omega) (Ev.now _)
  · rw [if_neg g, if_neg (fun e => g e.1)]
    exact Ev.some_ (Ev.neg_ (by simp) (Ev.step (fun k => by rw [impl_FilterOf.j0]) (Ev.pos_ rfl (Ev.now _))))

-- part tableM: a table's bytes
def hiT (l : List S27) (i : Nat) : Nat := min (i + 8) l.length
def partT (l : List S27) (i : Nat) : List S27 := (l.take (hiT l i)).drop i
def lastT (l : List S27) (i : Nat) : S27 := l.getD (hiT l i - 1) z27
def entryT (l : List S27) (i : Nat) (s : ByteArray) : ByteArray :=
  (((varB ((lastT l i).f0.size : Int) ++ (lastT l i).f0) ++ varB (lastT l i).f1) ++ varB (s.size : Int)) ++ varB ((blockV (partT l i)).size : Int)
def tabR (l : List S27) : Nat → Nat → ByteArray → ByteArray → ByteArray × ByteArray
  | 0, _, s, x => (s, x)
  | d + 1, i, s, x => if i < l.length then tabR l d (i + 8) (s ++ blockV (partT l i)) (x ++ entryT l i s) else (s, x)
def keysR (l : List S27) : Nat → Nat → List ByteArray → List ByteArray
  | 0, _, acc => acc
  | d + 1, i, acc => keysR l d (i + 1) (if i = 0 then acc ++ [(l.getD i z27).f0] else if (l.getD (i - 1) z27).f0.toList = (l.getD i z27).f0.toList then acc else acc ++ [(l.getD i z27).f0])
def keysT (l : List S27) : List ByteArray := keysR l l.length 0 []
def footT (s : ByteArray) : ByteArray := wordV ((s.size : Int) % 4294967296)
def finT (l : List S27) (p : ByteArray × ByteArray) : ByteArray :=
  ((((p.1 ++ frameV p.2) ++ frameV (filterV (keysT l) 4).2.1) ++ footT p.1) ++ wordV (sumV (footT p.1)))
def tableV (l : List S27) : ByteArray := finT l (tabR l 16 0 ⟨#[]⟩ ⟨#[]⟩)
theorem blockR_size (l : List S27) (hg : ∀ j, j < l.length → goodI (l.getD j z27) = true) : ∀ (d i : Nat) (s : ByteArray) (rs : List Int), i + d = l.length → (blockR l d i s rs).1.size ≤ s.size + 92 * d ∧ (blockR l d i s rs).2.length ≤ rs.length + d := by
  intro d
  induction d with
  | zero => intro i s rs hi; simp [blockR]
  | succ d ih =>
    intro i s rs hi
    have hc := comI_range l i
    have h1 := itemV_size (hg i (by omega)) hc.1 hc.2
    have h2 := ih (i + 1) (s ++ itemV (l.getD i z27) (comI l i)) (if i % 4 = 0 then rs ++ [(s.size : Int)] else rs) (by omega)
    have h3 : (if i % 4 = 0 then rs ++ [(s.size : Int)] else rs).length ≤ rs.length + 1 := by split <;> simp
    unfold blockR
    rw [ByteArray.size_append] at h2
    omega
theorem blockV_size (l : List S27) (hg : ∀ j, j < l.length → goodI (l.getD j z27) = true) : (blockV l).size ≤ 94 * l.length + 6 := by
  have h := blockR_size l hg l.length 0 ⟨#[]⟩ [] (by omega)
  have h0 : (⟨#[]⟩ : ByteArray).size = 0 := rfl
  unfold blockV finV bodyV
  rw [ByteArray.size_append, ByteArray.size_append, ByteArray.size_append, tail_size, lowV_size, wordV_size]
  unfold blockP
  simp only [List.length_nil] at h
  omega
theorem partT_len (l : List S27) (i : Nat) : (partT l i).length = hiT l i - i := by
  unfold partT hiT; rw [List.length_drop, List.length_take]; omega
theorem partT_get (l : List S27) (i j : Nat) (h : j < (partT l i).length) : (partT l i).getD j z27 = l.getD (i + j) z27 := by
  rw [partT_len] at h
  have hh : hiT l i ≤ l.length := by unfold hiT; omega
  unfold partT
  rw [List.getD_eq_getElem?_getD, List.getD_eq_getElem?_getD, List.getElem?_drop, List.getElem?_take_of_lt (by omega)]
theorem keysR_mem (l : List S27) (P : ByteArray → Prop) (hP : ∀ j, j < l.length → P (l.getD j z27).f0) : ∀ (d i : Nat) (acc : List ByteArray), i + d = l.length → acc.length ≤ i → (∀ x ∈ acc, P x) → (keysR l d i acc).length ≤ l.length ∧ ∀ x ∈ keysR l d i acc, P x := by
  intro d
  induction d with
  | zero => intro i acc hi ha hx; unfold keysR; exact ⟨by omega, hx⟩
  | succ d ih =>
    intro i acc hi ha hx
    have hx2 : ∀ x ∈ acc ++ [(l.getD i z27).f0], P x := fun x hm => by
      rcases List.mem_append.1 hm with hm | hm
      · exact hx x hm
      · rw [List.mem_singleton] at hm; subst hm; exact hP i (by omega)
    unfold keysR
    refine ih (i + 1) _ (by omega) ?_ ?_
    · split
      · rw [List.length_append]; simp; omega
      · split
        · omega
        · rw [List.length_append]; simp; omega
    · split
      · exact hx2
      · split
        · exact hx
        · exact hx2
theorem filterR_size : ∀ (l : List ByteArray) (f : Int × ByteArray × Int), f.2.1.size = 32 → (filterR l f).2.1.size ≤ 32 := by
  intro l
  induction l with
  | nil => intro f hf; exact Nat.le_of_eq hf
  | cons x l ih =>
    intro f hf
    unfold filterR
    split
    · refine ih _ ?_
      unfold addV; dsimp only
      rw [strOfNums_size, addAll_len, bytesOf_length]; exact hf
    · exact Nat.zero_le _
theorem filterV_size (l : List ByteArray) (h : Int) : (filterV l h).2.1.size ≤ 32 := by
  unfold filterV
  split
  · exact filterR_size l _ (by rw [strOfNums_size]; rfl)
  · exact Nat.zero_le _
theorem lastT_good (l : List S27) (hg : ∀ j, j < l.length → goodI (l.getD j z27) = true) (i : Nat) (hi : i < l.length) : goodI (lastT l i) = true := by
  unfold lastT; exact hg _ (by unfold hiT; omega)
theorem entryT_size (l : List S27) (hg : ∀ j, j < l.length → goodI (l.getD j z27) = true) (i : Nat) (hi : i < l.length) (s : ByteArray) : (entryT l i s).size ≤ 60 := by
  have hG := goodI_iff (lastT_good l hg i hi)
  have v1 := varB_size ((lastT l i).f0.size : Int); have v2 := varB_size (lastT l i).f1; have v3 := varB_size (s.size : Int); have v4 := varB_size ((blockV (partT l i)).size : Int)
  unfold entryT
  simp only [ByteArray.size_append]
  omega
theorem partT_good (l : List S27) (hg : ∀ j, j < l.length → goodI (l.getD j z27) = true) (i : Nat) : ∀ j, j < (partT l i).length → goodI ((partT l i).getD j z27) = true := fun j hj => by
  rw [partT_get l i j hj]
  refine hg _ ?_
  rw [partT_len] at hj
  have : hiT l i ≤ l.length := by unfold hiT; omega
  omega
theorem partT_size (l : List S27) (hg : ∀ j, j < l.length → goodI (l.getD j z27) = true) (i : Nat) : (blockV (partT l i)).size ≤ 800 := by
  have h := blockV_size (partT l i) (partT_good l hg i)
  have h2 := partT_len l i
  have : hiT l i ≤ i + 8 := by unfold hiT; omega
  omega
theorem footT_size (s : ByteArray) : (footT s).size = 4 := wordV_size _
def tabB (l : List S27) (g : Bool) : ByteArray × Bool := if g = true ∧ 1 ≤ l.length ∧ l.length ≤ 120 then (tableV l, true) else (⟨#[]⟩, false)

-- part specTab needs spec_l7Table.f
theorem spec_keys_l (l : List S27) (hl : l.length ≤ 1000) : ∀ (d i : Nat) (acc : List ByteArray), i + d = l.length → acc.length ≤ i → Ev (fun k => spec_l7Keys.l0 k l acc l (l.length : Int) i) (keysR l d i acc) := by
  intro d
  induction d with
  | zero =>
    intro i acc hi ha
    refine Ev.step (fun k => by rw [spec_l7Keys.l0]) ?_
    exact Ev.neg_ (by omega) (Ev.now _)
  | succ d ih =>
    intro i acc hi ha
    refine Ev.step (fun k => by rw [spec_l7Keys.l0]) ?_
    unfold keysR
    rw [rdI_nat]
    refine Ev.pos_ (by omega) (Ev.pos_ (by omega) (Ev.pos_ (by omega) ?_))
    by_cases h0 : i = 0
    · rw [if_pos h0]
      refine Ev.pos_ (by omega) (Ev.step (fun k => by rw [spec_l7Keys.j1]) ?_)
      rw [wi (show i < l.length by omega) (by omega)]
      exact Ev.pos_ rfl (Ev.pos_ (by omega) (ih (i + 1) _ (by omega) (by simp; omega)))
    · rw [if_neg h0]
      have e : wrap64 ((i : Int) - 1) = ((i - 1 : Nat) : Int) := by rw [w64 (by omega) (by omega)]; omega
      rw [e, rdI_nat]
      refine Ev.neg_ (by omega) (Ev.pos_ (by omega) (Ev.pos_ (by omega) (Ev.step (fun k => by rw [spec_l7Keys.j1]) ?_)))
      rw [wi (show i < l.length by omega) (by omega)]
      by_cases hk : (l.getD (i - 1) z27).f0.toList = (l.getD i z27).f0.toList
      · rw [if_pos hk]; exact Ev.neg_ (by rw [bne_iff_ne]; exact fun e => e hk) (ih (i + 1) _ (by omega) (by omega))
      · rw [if_neg hk]; exact Ev.pos_ (by rw [bne_iff_ne]; exact hk) (Ev.pos_ (by omega) (ih (i + 1) _ (by omega) (by simp; omega)))
theorem spec_keys (l : List S27) (hl : l.length ≤ 1000) : Ev (fun k => spec_l7Keys.f k l) (keysT l) := spec_keys_l l hl l.length 0 [] (by omega) (by simp)
theorem spec_tab_l (l : List S27) (hl : l.length ≤ 120) (hg : ∀ j, j < l.length → goodI (l.getD j z27) = true) : ∀ (d i : Nat) (s x : ByteArray), l.length ≤ i + 8 * d → i ≤ 200 → s.size ≤ 1000 * i → x.size ≤ 1000 * i →
    Ev (fun k => spec_l7Table.l0 k l s x i) (finT l (tabR l d i s x)) := by
  have fin : ∀ (i : Nat) (s x : ByteArray), l.length ≤ i → i ≤ 200 → s.size ≤ 1000 * i → x.size ≤ 1000 * i → Ev (fun k => spec_l7Table.l0 k l s x i) (finT l (s, x)) := by
    intro i s x h1 h2 h3 h4
    obtain ⟨hk1, hk2⟩ := keysR_mem l (fun y => y.size ≤ 140737488351232) (fun j hj => by have := goodI_iff (hg j hj); omega) l.length 0 [] (by omega) (by simp) (by simp)
    have f1 := frameV_size x
    have f2 := frameV_size (filterV (keysT l) 4).2.1
    have f3 := filterV_size (keysT l) 4
    have f4 := footT_size s
    have f5 := wordV_size (sumV (footT s))
    refine Ev.step (fun k => by rw [spec_l7Table.l0]) ?_
    refine Ev.neg_ (by omega) (Ev.bind (spec_keys l (by omega)) (Ev.bind (spec_filterOf (keysT l) 4 hk2 (by show (keysR l l.length 0 []).length ≤ _; omega)) ?_))
    unfold spec_l7Word.f
    rw [spec_word]
    refine Ev.some_ (Ev.bind (spec_frame x (by omega)) (Ev.pos_ (by omega) (Ev.bind (spec_frame _ (by (try dsimp only); omega)) ?_)))
    refine Ev.pos_ (by (try dsimp only); omega) (Ev.pos_ ?_ ?_)
    · have : (wordV ((s.size : Int) % 4294967296)).size = 4 := wordV_size _
      (try dsimp only); omega
    · refine Ev.bind (spec_sum (footT s) (by omega)) ?_
      rw [spec_word]
      refine Ev.some_ (Ev.pos_ ?_ (Ev.now _))
      have : (wordV ((s.size : Int) % 4294967296)).size = 4 := wordV_size _
      (try dsimp only); omega
  intro d
  induction d with
  | zero => intro i s x h1 h2 h3 h4; exact fin i s x (by omega) h2 h3 h4
  | succ d ih =>
    intro i s x h1 h2 h3 h4
    unfold tabR
    by_cases hi : i < l.length
    · rw [if_pos hi]
      have p1 := partT_size l hg i
      have p2 := entryT_size l hg i hi s
      have hh1 : hiT l i ≤ l.length := by unfold hiT; omega
      have hh2 : i < hiT l i := by unfold hiT; omega
      have hh3 : hiT l i ≤ i + 8 := by unfold hiT; omega
      have hr := ih (i + 8) (s ++ blockV (partT l i)) (x ++ entryT l i s) (by omega) (by omega) (by rw [ByteArray.size_append]; omega) (by rw [ByteArray.size_append]; omega)
      have e8 : wrap64 ((i : Int) + 8) = ((i + 8 : Nat) : Int) := by rw [w64 (by omega) (by omega)]; omega
      have j1 : Ev (fun k => spec_l7Table.j1 k l s x i ((hiT l i : Nat) : Int)) (finT l (tabR l d (i + 8) (s ++ blockV (partT l i)) (x ++ entryT l i s))) := by
        have hG := goodI_iff (lastT_good l hg i hi)
        have v1 := varB_size ((lastT l i).f0.size : Int); have v2 := varB_size (lastT l i).f1; have v3 := varB_size (s.size : Int); have v4 := varB_size ((blockV (partT l i)).size : Int)
        have el : wrap64 (((hiT l i : Nat) : Int) - 1) = ((hiT l i - 1 : Nat) : Int) := by rw [w64 (by omega) (by omega)]; omega
        have hp := partT_len l i
        refine Ev.step (fun k => by rw [spec_l7Table.j1]) ?_
        have elast : l.getD (hiT l i - 1) z27 = lastT l i := rfl
        have ep : List.drop i (List.take (hiT l i) l) = partT l i := rfl
        rw [el, rdI_nat, e8, Int.toNat_natCast, Int.toNat_natCast, elast, ep]
        refine Ev.pos_ (by omega) (Ev.pos_ (by omega) (Ev.pos_ (by omega) (Ev.bind (spec_block (partT l i) (by omega) (partT_good l hg i)) ?_)))
        refine Ev.pos_ (by omega) (Ev.pos_ (by omega) (Ev.bind (spec_var (x := ((lastT l i).f0.size : Int)) (by omega) (by omega)) ?_))
        refine Ev.pos_ (by omega) (Ev.bind (spec_var (x := (lastT l i).f1) (by omega) (by omega)) ?_)
        refine Ev.pos_ (by omega) (Ev.bind (spec_var (x := (s.size : Int)) (by omega) (by omega)) ?_)
        refine Ev.pos_ (by omega) (Ev.bind (spec_var (x := ((blockV (partT l i)).size : Int)) (by omega) (by omega)) ?_)
        refine Ev.pos_ (by omega) (Ev.pos_ (by omega) (Ev.pos_ (by omega) ?_))
        exact hr
      refine Ev.step (fun k => by rw [spec_l7Table.l0]) ?_
      rw [e8]
      refine Ev.pos_ (by omega) (Ev.ite_ (fun hc => ?_) (fun hc => ?_))
      · have : (l.length : Int) = ((hiT l i : Nat) : Int) := by unfold hiT; omega
        rw [this]; exact j1
      · have : ((i + 8 : Nat) : Int) = ((hiT l i : Nat) : Int) := by unfold hiT; omega
        rw [this]; exact j1
    · rw [if_neg hi]; exact fin i s x (by omega) h2 h3 h4
theorem spec_tableBytes (l : List S27) (hl : l.length ≤ 140737488351232) : Ev (fun k => spec_TableBytes.f k l) (tabB l (goodRunV l)) := by
  have h0 : (⟨#[]⟩ : ByteArray).size = 0 := rfl
  unfold spec_TableBytes.f spec_l7Good.f tabB
  simp only [spec_in]
  by_cases g : goodRunV l = true
  · by_cases hn : 1 ≤ l.length ∧ l.length ≤ 120
    · rw [if_pos ⟨g, hn⟩]
      refine Ev.bind (Ev.bind (spec_run l hl) (Ev.pos_ g (Ev.now _))) ?_
      refine Ev.pos_ (by rw [inB_iff]; omega) ?_
      have hE : Ev (fun k => spec_l7Table.f k l) (tableV l) := by
        have h := spec_tab_l l hn.2 (fun j hj => goodRunV_good g j hj) 16 0 ⟨#[]⟩ ⟨#[]⟩ (by omega) (by omega) (by omega) (by omega)
        rw [Int.natCast_zero] at h
        unfold spec_l7Table.f
        exact h
      exact Ev.bind hE (Ev.now _)
    · rw [if_neg (fun e => hn e.2)]
      refine Ev.bind (Ev.bind (spec_run l hl) (Ev.pos_ g (Ev.now _))) ?_
      exact Ev.neg_ (by rw [inB_iff]; omega) (Ev.now _)
  · rw [if_neg (fun e => g e.1)]
    refine Ev.bind (Ev.bind (spec_run l hl) (Ev.neg_ g (Ev.now _))) ?_
    exact Ev.neg_ (by simp) (Ev.now _)

-- part implTab needs impl_build.f
theorem impl_keys_l (l : List S27) (hl : l.length ≤ 1000) : ∀ (d i : Nat) (acc : List ByteArray), i + d = l.length → acc.length ≤ i → Ev (fun k => impl_tableKeys.l0 k l acc l (l.length : Int) i) (keysR l d i acc) := by
  intro d
  induction d with
  | zero =>
    intro i acc hi ha
    refine Ev.step (fun k => by rw [impl_tableKeys.l0]) ?_
    exact Ev.neg_ (by omega) (Ev.now _)
  | succ d ih =>
    intro i acc hi ha
    refine Ev.step (fun k => by rw [impl_tableKeys.l0]) ?_
    unfold keysR
    rw [rdI_nat]
    refine Ev.pos_ (by omega) (Ev.pos_ (by omega) (Ev.pos_ (by omega) ?_))
    by_cases h0 : i = 0
    · rw [if_pos h0]
      refine Ev.pos_ (by omega) (Ev.step (fun k => by rw [impl_tableKeys.j1]) ?_)
      rw [wi (show i < l.length by omega) (by omega)]
      exact Ev.pos_ rfl (Ev.pos_ (by omega) (ih (i + 1) _ (by omega) (by simp; omega)))
    · rw [if_neg h0]
      have e : wrap64 ((i : Int) - 1) = ((i - 1 : Nat) : Int) := by rw [w64 (by omega) (by omega)]; omega
      rw [e, rdI_nat]
      refine Ev.neg_ (by omega) (Ev.pos_ (by omega) (Ev.pos_ (by omega) (Ev.step (fun k => by rw [impl_tableKeys.j1]) ?_)))
      rw [wi (show i < l.length by omega) (by omega)]
      by_cases hk : (l.getD (i - 1) z27).f0.toList = (l.getD i z27).f0.toList
      · rw [if_pos hk]; exact Ev.neg_ (by rw [bne_iff_ne]; exact fun e => e hk) (ih (i + 1) _ (by omega) (by omega))
      · rw [if_neg hk]; exact Ev.pos_ (by rw [bne_iff_ne]; exact hk) (Ev.pos_ (by omega) (ih (i + 1) _ (by omega) (by simp; omega)))
theorem impl_keys (l : List S27) (hl : l.length ≤ 1000) : Ev (fun k => impl_tableKeys.f k l) (keysT l) := impl_keys_l l hl l.length 0 [] (by omega) (by simp)
theorem pre_nat {n : Nat} (h1 : 1 ≤ n) (h2 : n ≤ 1000) : wrap64 ((n : Int) - 1) = ((n - 1 : Nat) : Int) := by
  rw [w64 (by omega) (by omega)]; omega
theorem mn_hi (l : List S27) (i : Nat) : mn ((i + 8 : Nat) : Int) (l.length : Int) = ((hiT l i : Nat) : Int) := by
  unfold mn hiT; split <;> omega
theorem last_part (l : List S27) (i : Nat) (hi : i < l.length) : (partT l i).getD ((partT l i).length - 1) z27 = lastT l i := by
  have hp := partT_len l i
  have hh1 : hiT l i ≤ l.length := by unfold hiT; omega
  have hh2 : i < hiT l i := by unfold hiT; omega
  have e1 : i + ((partT l i).length - 1) = hiT l i - 1 := by omega
  rw [partT_get l i _ (by omega), e1]; rfl
theorem wrap_i8 {i : Nat} (h : i ≤ 1000) : wrap64 ((i : Int) + 8) = ((i + 8 : Nat) : Int) := by
  rw [w64 (by omega) (by omega)]; omega
theorem impl_build_step (l : List S27) (y0 : List S27) (y2 : Int) (y3 : ByteArray) (y4 : Int) (i hi : Nat) (s x : ByteArray) (ps : List S103) (P : List S27) (B : ByteArray) (rs : List Int) (L : S27) (r : List S27 × List S103 × Int × ByteArray × Int × ByteArray)
    (h1 : i < l.length) (h2 : hi ≤ l.length) (h3 : i < hi) (em : mn ((i + 8 : Nat) : Int) (l.length : Int) = (hi : Int)) (hP : (l.take hi).drop i = P) (hPl : P.length = hi - i) (hlen : l.length ≤ 120) (hlast : P.getD (P.length - 1) z27 = L)
    (hE : Ev (fun k => impl_block.f k P) (B, rs)) (hB : B.size ≤ 800) (hs : s.size ≤ 1000000) (hx : x.size ≤ 1000000) (hps : ps.length ≤ 1000) (hL0 : L.f0.size ≤ 16) (hL1 : 0 ≤ L.f1) (hL2 : L.f1 ≤ 1000000000)
    (hr : Ev (fun k => impl_build.l0 k l (s ++ B) (x ++ ((((varB (L.f0.size : Int) ++ L.f0) ++ varB L.f1) ++ varB (s.size : Int)) ++ varB (B.size : Int))) ((i + 8 : Nat) : Int) y0 (ps ++ [(⟨L.f0, L.f1, (s.size : Int), (B.size : Int)⟩ : S103)]) y2 y3 y4) r) : Ev (fun k => impl_build.l0 k l s x i y0 ps y2 y3 y4) r := by
  have v1 := varB_size (L.f0.size : Int); have v2 := varB_size L.f1; have v3 := varB_size (s.size : Int); have v4 := varB_size (B.size : Int)
  have hz : Ev (fun k => impl_sized.f k L.f0) (varB (L.f0.size : Int) ++ L.f0) := by
    unfold impl_sized.f
    exact Ev.bind (impl_var (by omega) (by omega)) (Ev.pos_ (by omega) (Ev.now _))
  refine Ev.step (fun k => by rw [impl_build.l0]) ?_
  rw [wrap_i8 (show i ≤ 1000 by omega), em, Int.toNat_natCast, Int.toNat_natCast, hP]
  refine Ev.pos_ (by omega) (Ev.pos_ (by omega) (Ev.pos_ (by omega) (Ev.pos_ (by omega) (Ev.some_ ?_))))
  try dsimp only
  rw [pre_nat (n := P.length) (by omega) (by omega), rdI_nat, hlast]
  refine Ev.bind hE ?_
  refine Ev.pos_ (by omega) (Ev.pos_ (by omega) (Ev.pos_ (by omega) (Ev.bind hz (Ev.bind (impl_var (x := L.f1) (by omega) (by omega)) ?_))))
  refine Ev.pos_ (by rw [ByteArray.size_append]; omega) (Ev.bind (impl_var (x := (s.size : Int)) (by omega) (by omega)) ?_)
  refine Ev.pos_ (by rw [ByteArray.size_append]; omega) (Ev.bind (impl_var (x := (B.size : Int)) (by omega) (by omega)) ?_)
  refine Ev.pos_ (by rw [ByteArray.size_append]; omega) (Ev.pos_ (by rw [ByteArray.size_append]; omega) (Ev.pos_ (by (try dsimp only); omega) ?_))
  exact hr
theorem impl_tab_l (l : List S27) (hl : l.length ≤ 120) (hg : ∀ j, j < l.length → goodI (l.getD j z27) = true) (y0 : List S27) (y2 : Int) (y3 : ByteArray) (y4 : Int) : ∀ (d i : Nat) (s x : ByteArray) (ps : List S103), l.length ≤ i + 8 * d → i ≤ 200 → s.size ≤ 1000 * i → x.size ≤ 1000 * i → ps.length ≤ i →
    ∃ a b c e f, Ev (fun k => impl_build.l0 k l s x i y0 ps y2 y3 y4) (a, b, c, e, f, finT l (tabR l d i s x)) := by
  have fin : ∀ (i : Nat) (s x : ByteArray) (ps : List S103), l.length ≤ i → i ≤ 200 → s.size ≤ 1000 * i → x.size ≤ 1000 * i → ∃ a b c e f, Ev (fun k => impl_build.l0 k l s x i y0 ps y2 y3 y4) (a, b, c, e, f, finT l (s, x)) := by
    intro i s x ps h1 h2 h3 h4
    obtain ⟨hk1, hk2⟩ := keysR_mem l (fun y => y.size ≤ 140737488351232) (fun j hj => by have := goodI_iff (hg j hj); omega) l.length 0 [] (by omega) (by simp) (by simp)
    have f1 := frameV_size x
    have f2 := frameV_size (filterV (keysT l) 4).2.1
    have f3 := filterV_size (keysT l) 4
    have f4 := footT_size s
    have f5 := wordV_size (sumV (footT s))
    refine ⟨y0, ps, (filterV (keysT l) 4).1, (filterV (keysT l) 4).2.1, (filterV (keysT l) 4).2.2.1, Ev.step (fun k => by rw [impl_build.l0]) ?_⟩
    refine Ev.neg_ (by omega) (Ev.bind (impl_keys l (by omega)) (Ev.bind (impl_filterOf (keysT l) 4 hk2 (by show (keysR l l.length 0 []).length ≤ _; omega)) ?_))
    refine Ev.bind (a := footT s) (impl_low _ 4 (by omega)) ?_
    refine Ev.bind (impl_frame_ x (by omega)) (Ev.pos_ (by omega) (Ev.bind (impl_frame_ _ (by (try dsimp only); omega)) ?_))
    refine Ev.pos_ (by (try dsimp only); omega) (Ev.pos_ (by (try dsimp only); omega) ?_)
    refine Ev.bind (impl_sum (footT s) (by omega)) (Ev.bind (a := wordV (sumV (footT s))) (impl_low _ 4 (by omega)) ?_)
    exact Ev.pos_ (by (try dsimp only); omega) (Ev.now _)
  intro d
  induction d with
  | zero => intro i s x ps h1 h2 h3 h4 h5; exact fin i s x ps (by omega) h2 h3 h4
  | succ d ih =>
    intro i s x ps h1 h2 h3 h4 h5
    unfold tabR
    by_cases hi : i < l.length
    · rw [if_pos hi]
      obtain ⟨a, b, c, e, f, hr⟩ := ih (i + 8) (s ++ blockV (partT l i)) (x ++ entryT l i s) (ps ++ [(⟨(lastT l i).f0, (lastT l i).f1, (s.size : Int), ((blockV (partT l i)).size : Int)⟩ : S103)]) (by omega) (by omega) (by rw [ByteArray.size_append]; have := partT_size l hg i; omega) (by rw [ByteArray.size_append]; have := entryT_size l hg i hi s; omega) (by rw [List.length_append, List.length_singleton]; omega)
      have hG := goodI_iff (lastT_good l hg i hi)
      exact ⟨a, b, c, e, f, impl_build_step l y0 y2 y3 y4 i (hiT l i) s x ps (partT l i) (blockV (partT l i)) (blockP (partT l i)).2 (lastT l i) _ hi (by unfold hiT; omega) (by unfold hiT; omega) (mn_hi l i) rfl (partT_len l i) hl (last_part l i hi) (impl_block_ (partT l i) (by rw [partT_len]; unfold hiT; omega) (partT_good l hg i)) (partT_size l hg i) (by omega) (by omega) (by omega) hG.2.1 hG.2.2.1 hG.2.2.2.1 hr⟩
    · rw [if_neg hi]; exact fin i s x ps (by omega) h2 h3 h4
theorem impl_tableBytes (l : List S27) (hl : l.length ≤ 140737488351232) : Ev (fun k => impl_TableBytes.f k l) (tabB l (goodRunV l)) := by
  have h0 : (⟨#[]⟩ : ByteArray).size = 0 := rfl
  unfold impl_TableBytes.f impl_build.f tabB
  simp only [impl_in_, Option.bind_some]
  by_cases hn : 1 ≤ l.length ∧ l.length ≤ 120
  · refine Ev.pos_ (by rw [inB_iff]; omega) (Ev.bind (impl_run l hl) ?_)
    by_cases g : goodRunV l = true
    · rw [if_pos ⟨g, hn⟩]
      obtain ⟨a, b, c, e, f, hE⟩ := impl_tab_l l hn.2 (fun j hj => goodRunV_good g j hj) l 0 ⟨#[]⟩ 0 16 0 ⟨#[]⟩ ⟨#[]⟩ [] (by omega) (by omega) (by omega) (by omega) (by simp)
      exact Ev.pos_ g (Ev.bind hE (Ev.now _))
    · rw [if_neg (fun e => g e.1)]; exact Ev.neg_ g (Ev.now _)
  · rw [if_neg (fun e => hn e.2)]
    exact Ev.neg_ (by rw [inB_iff]; omega) (Ev.now _)

theorem FnExactTableBytes (l : List S23) (hb : l.length * 48 ≤ 140737488351232 ∧ ∀ x ∈ l, x.f0.size ≤ 140737488351232 ∧ (Lit.int .i64 x.f1).wf = true ∧ (Lit.int .i64 x.f2).wf = true ∧ x.f3.size ≤ 140737488351232) : ∃ k, laws_FnExactTableBytes.f k l = some true := by
  apply Ev.rounds (r := true)
  obtain ⟨z, hz⟩ := szItemS_some l 1048576 (by omega)
  have ht := toItemS_ l (by omega)
  have hl : (l.map convItem).length ≤ 140737488351232 := by simp; omega
  have hs := spec_tableBytes (l.map convItem) hl
  have hi := impl_tableBytes (l.map convItem) hl
  generalize tabB (l.map convItem) (goodRunV (l.map convItem)) = R at hs hi
  unfold laws_FnExactTableBytes.f
  refine Ev.bind hz (Ev.ite_ (fun _ => Ev.now _) (fun _ => ?_))
  refine Ev.bind ht ?_
  refine Ev.bind hs ?_
  refine Ev.bind ht ?_
  refine Ev.bind hi ?_
  refine Ev.pos_ rfl ?_
  refine Ev.step (fun k => by rw [laws_FnExactTableBytes.j0]) ?_
  refine Ev.neg_ (by simp) ?_
  refine Ev.bind ht ?_
  refine Ev.bind (eqItemS_refl _ hl) ?_
  exact Ev.pos_ rfl (Ev.now _)

end Go.Proofs.Ytjacppphgccphaa.Pure
