/-
  The plain statement of the law FnExactVarBytes, proved: over numbers and lists alone. No condition beyond the given ones.
-/
import Derived.Test.YthlcfahcpmmjkaaQFnExactVarBytesx1
namespace Go.Proofs.Ythlcfahcpmmjkaa.Pure
open Go Go.RowKit Go.Proofs.Ythlcfahcpmmjkaa.QFnExactVarBytes Go.Proofs.YthlcfahcpmmjkaaW.PrintWords Go.Proofs.YthlcfahcpmmjkaaW.PrintLast Go.Proofs.YthlcfahcpmmjkaaW.PrintMore
set_option linter.unusedVariables false
set_option linter.unusedSimpArgs false

-- part base: plain facts on Go's numbers and on rounds
theorem lt_mn {i a b : Int} : i < mn a b ↔ i < a ∧ i < b := by unfold mn; split <;> omega
theorem mn_le {a b : Int} : mn a b ≤ a ∧ mn a b ≤ b := by unfold mn; split <;> omega
theorem w64 {n : Int} (h0 : -9223372036854775808 ≤ n) (h1 : n ≤ 9223372036854775807) : wrap64 n = n := by unfold wrap64; omega
theorem wrap_u64 (n : Int) : IntKind.u64.wrap n = n % 18446744073709551616 := by simp [IntKind.wrap, IntKind.bits, IntKind.signed]
theorem wu64 {n : Int} (h0 : 0 ≤ n) (h1 : n ≤ 18446744073709551615) : IntKind.u64.wrap n = n := by rw [wrap_u64]; omega
theorem wu32 {n : Int} (h0 : 0 ≤ n) (h1 : n ≤ 4294967295) : IntKind.u32.wrap n = n := by rw [IntKind.wrap_u32]; omega
theorem wraps_u32 (n : Int) (h₀ : 0 ≤ n) (h₁ : n < 2 ^ 32) : IntKind.u32.wrap n = n := by rw [IntKind.wrap_u32]; omega
theorem wraps_i64 (n : Int) (h₀ : 0 ≤ n) (h₁ : n < 2 ^ 63) : IntKind.i64.wrap n = n := by rw [IntKind.wrap_i64]; omega
theorem and127 {b : Int} (h0 : 0 ≤ b) (h1 : b ≤ 255) : Go.bits .and .u8 b 127 = b % 128 := bits_mask .u8 8 (by decide) wraps_u8 7 (by decide) b h0 (by omega)
theorem wf_i64 {n : Int} (h : (Lit.int .i64 n).wf = true) : -9223372036854775808 ≤ n ∧ n ≤ 9223372036854775807 := by
  simp only [Lit.wf, Bool.and_eq_true, decide_eq_true_eq] at h
  exact h
theorem wf_u32 {n : Int} (h : (Lit.int .u32 n).wf = true) : 0 ≤ n ∧ n ≤ 4294967295 := by
  simp only [Lit.wf, Bool.and_eq_true, decide_eq_true_eq] at h
  exact h
theorem bits_or_comm (k : IntKind) (x y : Int) : Go.bits .or k x y = Go.bits .or k y x := by
  simp only [Go.bits, BitVec.or_comm]
theorem and127i {b : Int} (h0 : 0 ≤ b) (h1 : b ≤ 9223372036854775807) : Go.bits .and .i64 b 127 = b % 128 := bits_mask .i64 63 (by decide) wraps_i64 7 (by decide) b h0 (by omega)
theorem or128i {b : Int} (h0 : 0 ≤ b) (h1 : b < 128) : Go.bits .or .i64 b 128 = b + 128 := by
  rw [bits_or_comm, bits_join .i64 63 (by decide) wraps_i64 7 128 b (by omega) (by omega) (by omega) h0 (by omega) (by omega)]; omega
theorem Ev.ite_ {α : Type} {c : Prop} [Decidable c] {g f : Nat → Option α} {r : α} (h : c → Ev g r) (k : ¬c → Ev f r) : Ev (fun n => if c then g n else f n) r := by
  by_cases hc : c
  · simp only [if_pos hc]; exact h hc
  · simp only [if_neg hc]; exact k hc
theorem Ev.pos_ {α : Type} {c : Prop} [Decidable c] {g f : Nat → Option α} {r : α} (hc : c) (h : Ev g r) : Ev (fun n => if c then g n else f n) r := by simp only [if_pos hc]; exact h
theorem Ev.neg_ {α : Type} {c : Prop} [Decidable c] {g f : Nat → Option α} {r : α} (hc : ¬c) (h : Ev f r) : Ev (fun n => if c then g n else f n) r := by simp only [if_neg hc]; exact h
theorem Ev.some_ {α β : Type} {f : Nat → α → Option β} {x : α} {r : β} (h : Ev (fun n => f n x) r) : Ev (fun n => (some x).bind (f n)) r := by simpa only [Option.bind_some] using h

-- part varM: a number's bytes, as a list of numbers
def varL : Nat → Int → List Int
  | 0, x => [x]
  | d + 1, x => if x ≥ 128 then (x % 128 + 128) :: varL d (x / 128) else [x]
def varB (x : Int) : ByteArray := strOfNums (varL 8 x)
theorem varL_len (d : Nat) : ∀ x : Int, 1 ≤ (varL d x).length ∧ (varL d x).length ≤ d + 1 := by
  induction d with
  | zero => intro x; simp [varL]
  | succ d ih =>
    intro x
    unfold varL
    split
    · have := ih (x / 128); simp only [List.length_cons]; omega
    · simp
theorem varB_size (x : Int) : 1 ≤ (varB x).size ∧ (varB x).size ≤ 9 := by
  have := varL_len 8 x; unfold varB; rw [strOfNums_size]; exact this

-- part specVar needs spec_l2Var.f
theorem spec_var_l (d : Nat) : ∀ (x : Int) (acc : List Int), 0 ≤ x → x < 128 ^ (d + 1) → x ≤ 9223372036854775807 → acc.length + d < 1000 →
    Ev (fun k => spec_l2Var.l0 k x acc) (strOfNums (acc ++ varL d x)) := by
  induction d with
  | zero =>
    intro x acc h0 h1 hx ha
    refine Ev.step (f := fun _ => some (strOfNums (acc ++ varL 0 x))) (fun k => ?_) (Ev.now _)
    simp only [spec_l2Var.l0]
    rw [if_neg (by omega), if_pos (by omega), Int.emod_eq_of_lt h0 (by omega)]; rfl
  | succ d ih =>
    intro x acc h0 h1 hx ha
    by_cases hb : x ≥ 128
    · have := ih (x / 128) (acc ++ [x % 128 + 128]) (by omega) (by rw [Int.pow_succ] at h1; omega) (by omega) (by simp; omega)
      have e : acc ++ varL (d + 1) x = acc ++ [x % 128 + 128] ++ varL d (x / 128) := by simp [varL, hb]
      rw [e]
      refine Ev.step (fun k => ?_) this
      simp only [spec_l2Var.l0]
      rw [if_pos (by omega), if_pos (by omega), and127i h0 hx, or128i (by omega) (by omega), Int.emod_eq_of_lt (by omega) (by omega)]
    · refine Ev.step (f := fun _ => some (strOfNums (acc ++ varL (d + 1) x))) (fun k => ?_) (Ev.now _)
      simp only [spec_l2Var.l0, varL]
      rw [if_neg (by omega), if_pos (by omega), if_neg (by omega), Int.emod_eq_of_lt h0 (by omega)]
theorem spec_var {x : Int} (h0 : 0 ≤ x) (hx : x ≤ 9223372036854775807) : Ev (fun k => spec_l2Var.f k x) (varB x) :=
  spec_var_l 8 x [] h0 (by omega) hx (by simp)

-- part implVar needs impl_varBytes.f
theorem impl_var_l (d : Nat) : ∀ (x : Int) (acc : List Int), 0 ≤ x → x < 128 ^ (d + 1) → x ≤ 9223372036854775807 → acc.length + d < 1000 →
    Ev (fun k => impl_varBytes.l0 k x acc) (strOfNums (acc ++ varL d x)) := by
  induction d with
  | zero =>
    intro x acc h0 h1 hx ha
    refine Ev.step (f := fun _ => some (strOfNums (acc ++ varL 0 x))) (fun k => ?_) (Ev.now _)
    simp only [impl_varBytes.l0]
    rw [if_neg (by omega), if_pos (by omega), Int.emod_eq_of_lt h0 (by omega)]; rfl
  | succ d ih =>
    intro x acc h0 h1 hx ha
    by_cases hb : x ≥ 128
    · have := ih (x / 128) (acc ++ [x % 128 + 128]) (by omega) (by rw [Int.pow_succ] at h1; omega) (by omega) (by simp; omega)
      have e : acc ++ varL (d + 1) x = acc ++ [x % 128 + 128] ++ varL d (x / 128) := by simp [varL, hb]
      rw [e]
      refine Ev.step (fun k => ?_) this
      simp only [impl_varBytes.l0]
      rw [if_pos (by omega), if_pos (by omega), Int.tdiv_eq_ediv_of_nonneg h0, Int.tmod_eq_emod_of_nonneg h0, w64 (by omega) (by omega)]
      rw [show (x % 128 + 128) % 256 = x % 128 + 128 by omega]
    · refine Ev.step (f := fun _ => some (strOfNums (acc ++ varL (d + 1) x))) (fun k => ?_) (Ev.now _)
      simp only [impl_varBytes.l0, varL]
      rw [if_neg (by omega), if_pos (by omega), if_neg (by omega), Int.emod_eq_of_lt h0 (by omega)]
theorem impl_var {x : Int} (h0 : 0 ≤ x) (hx : x ≤ 9223372036854775807) : Ev (fun k => impl_varBytes.f k x) (varB x) :=
  impl_var_l 8 x [] h0 (by omega) hx (by simp)

theorem FnExactVarBytes : laws_FnExactVarBytes.Pure := by
  intro x hx
  obtain ⟨hl, hh⟩ := wf_i64 hx
  apply Ev.rounds (r := true)
  unfold laws_FnExactVarBytes.f spec_VarBytes.f impl_VarBytes.f
  by_cases h : x < 0
  · simp only [if_pos h, Option.bind_some]; exact Ev.now _
  · simp only [if_neg h]
    refine Ev.bind (Ev.bind (spec_var (by omega) hh) (Ev.now _)) ?_
    refine Ev.bind (Ev.bind (impl_var (by omega) hh) (Ev.now _)) ?_
    simp; exact Ev.now _

end Go.Proofs.Ythlcfahcpmmjkaa.Pure
