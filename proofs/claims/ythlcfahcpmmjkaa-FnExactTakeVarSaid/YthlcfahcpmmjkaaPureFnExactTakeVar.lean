/-
  The plain statement of the law FnExactTakeVar, proved: over numbers and lists alone. No condition beyond the given ones.
-/
import Derived.Test.YthlcfahcpmmjkaaPFnExactTakeVarx1
namespace Go.Proofs.Ythlcfahcpmmjkaa.Pure
open Go Go.RowKit Go.Proofs.Ythlcfahcpmmjkaa.PFnExactTakeVar Go.Proofs.YthlcfahcpmmjkaaW.PrintWords Go.Proofs.YthlcfahcpmmjkaaW.PrintLast Go.Proofs.YthlcfahcpmmjkaaW.PrintMore
set_option linter.unusedVariables false
set_option linter.unusedSimpArgs false

-- part base: plain facts on Go's numbers and on rounds
theorem lt_mn {i a b : Int} : i < mn a b ↔ i < a ∧ i < b := by unfold mn; split <;> omega
theorem mn_le {a b : Int} : mn a b ≤ a ∧ mn a b ≤ b := by unfold mn; split <;> omega
theorem w64 {n : Int} (h0 : -9223372036854775808 ≤ n) (h1 : n ≤ 9223372036854775807) : wrap64 n = n := by unfold wrap64; omega
theorem wrap_u64 (n : Int) : IntKind.u64.wrap n = n % 18446744073709551616 := by simp [IntKind.wrap, IntKind.bits, IntKind.signed]
theorem wu64 {n : Int} (h0 : 0 ≤ n) (h1 : n ≤ 18446744073709551615) : IntKind.u64.wrap n = n := by rw [wrap_u64]; omega
theorem wu32 {n : Int} (h0 : 0 ≤ n) (h1 : n ≤ 4294967295) : IntKind.u32.wrap n = n := by rw [IntKind.wrap_u32]; omega
theorem wraps_u32 (n : Int) (h₀ : 0 ≤ n) (h₁ : n < 2 ^ 32) : IntKind.u32.wrap n = n := by rw [IntKind.wrap_u32]; omega
theorem wraps_i64 (n : Int) (h₀ : 0 ≤ n) (h₁ : n < 2 ^ 63) : IntKind.i64.wrap n = n := by rw [IntKind.wrap_i64]; omega
theorem and127 {b : Int} (h0 : 0 ≤ b) (h1 : b ≤ 255) : Go.bits .and .u8 b 127 = b % 128 := bits_mask .u8 8 (by decide) wraps_u8 7 (by decide) b h0 (by omega)
theorem wf_i64 {n : Int} (h : (Lit.int .i64 n).wf = true) : -9223372036854775808 ≤ n ∧ n ≤ 9223372036854775807 := by
  simp only [Lit.wf, Bool.and_eq_true, decide_eq_true_eq] at h
  exact h
theorem wf_u32 {n : Int} (h : (Lit.int .u32 n).wf = true) : 0 ≤ n ∧ n ≤ 4294967295 := by
  simp only [Lit.wf, Bool.and_eq_true, decide_eq_true_eq] at h
  exact h
theorem bits_or_comm (k : IntKind) (x y : Int) : Go.bits .or k x y = Go.bits .or k y x := by
  simp only [Go.bits, BitVec.or_comm]
theorem and127i {b : Int} (h0 : 0 ≤ b) (h1 : b ≤ 9223372036854775807) : Go.bits .and .i64 b 127 = b % 128 := bits_mask .i64 63 (by decide) wraps_i64 7 (by decide) b h0 (by omega)
theorem or128i {b : Int} (h0 : 0 ≤ b) (h1 : b < 128) : Go.bits .or .i64 b 128 = b + 128 := by
  rw [bits_or_comm, bits_join .i64 63 (by decide) wraps_i64 7 128 b (by omega) (by omega) (by omega) h0 (by omega) (by omega)]; omega
theorem Ev.ite_ {α : Type} {c : Prop} [Decidable c] {g f : Nat → Option α} {r : α} (h : c → Ev g r) (k : ¬c → Ev f r) : Ev (fun n => if c then g n else f n) r := by
  by_cases hc : c
  · simp only [if_pos hc]; exact h hc
  · simp only [if_neg hc]; exact k hc
theorem Ev.pos_ {α : Type} {c : Prop} [Decidable c] {g f : Nat → Option α} {r : α} (hc : c) (h : Ev g r) : Ev (fun n => if c then g n else f n) r := by simp only [if_pos hc]; exact h
theorem Ev.neg_ {α : Type} {c : Prop} [Decidable c] {g f : Nat → Option α} {r : α} (hc : ¬c) (h : Ev f r) : Ev (fun n => if c then g n else f n) r := by simp only [if_neg hc]; exact h
theorem Ev.some_ {α β : Type} {f : Nat → α → Option β} {x : α} {r : β} (h : Ev (fun n => f n x) r) : Ev (fun n => (some x).bind (f n)) r := by simpa only [Option.bind_some] using h

-- part takeM: the number at a text's front
def takeR (s : ByteArray) : Nat → Int → Int → Int × Int
  | 0, _, _ => (0, 0)
  | d + 1, n, i => if i < (s.size : Int) then
      (if bt s i < 128 then (if i > 0 ∧ bt s i = 0 then (0, 0) else (Go.bits .or .i64 n (shl .i64 (bt s i % 128) (7 * i)), i + 1))
        else takeR s d (Go.bits .or .i64 n (shl .i64 (bt s i % 128) (7 * i))) (i + 1))
      else (0, 0)
def takeV (s : ByteArray) : Int × Int := takeR s 9 0 0

-- part specTake needs spec_l2Take.f
theorem spec_take_l (s : ByteArray) (d : Nat) : ∀ (n i : Int), 0 ≤ i → i ≤ 9 → 9 - i = d → Ev (fun k => spec_l2Take.l0 k s n i) (takeR s d n i) := by
  induction d with
  | zero =>
    intro n i h0 h9 hd
    refine Ev.step (f := fun k => spec_l2Take.j1 k s n i false) (fun k => ?_) (Ev.step (f := fun _ => some (0, 0)) (fun k => ?_) (Ev.now _))
    · simp only [spec_l2Take.l0]; rw [if_neg (by omega)]
    · simp only [spec_l2Take.j1]; rfl
  | succ d ih =>
    intro n i h0 h9 hd
    have e7 : wrap64 (7 * i) = 7 * i := w64 (by omega) (by omega)
    have e1 : wrap64 (i + 1) = i + 1 := w64 (by omega) (by omega)
    have u7 : IntKind.u64.wrap (7 * i) = 7 * i := wu64 (by omega) (by omega)
    obtain ⟨b0, b1⟩ := bt_range s i
    have ea := and127 b0 b1
    have ea' : wrap64 (bt s i % 128) = bt s i % 128 := w64 (by omega) (by omega)
    refine Ev.step (f := fun k => spec_l2Take.j1 k s n i (decide (i < (s.size : Int)))) (fun k => ?_) ?_
    · simp only [spec_l2Take.l0]; rw [if_pos (by omega)]
    · unfold takeR
      by_cases hl : i < (s.size : Int)
      · rw [if_pos hl]
        refine Ev.step (fun k => ?_) (f := fun k => if bt s i < 128 then (if i > 0 ∧ bt s i = 0 then some (0, 0) else some (Go.bits .or .i64 n (shl .i64 (bt s i % 128) (7 * i)), i + 1))
          else spec_l2Take.l0 k s (Go.bits .or .i64 n (shl .i64 (bt s i % 128) (7 * i))) (i + 1)) ?_
        · simp only [spec_l2Take.j1]
          rw [if_pos (by simpa using hl), if_pos h0, if_pos hl, e7, u7, if_pos (by omega), ea, ea', e1]
          by_cases hb : bt s i < 128
          · rw [if_pos hb, if_pos hb]
            by_cases hi : i > 0
            · rw [if_pos hi]
              by_cases hz : bt s i = 0
              · rw [if_pos hz, if_pos ⟨hi, hz⟩]
              · rw [if_neg hz, if_neg (fun h => hz h.2)]
            · rw [if_neg hi, if_neg (fun h => hi h.1)]
          · rw [if_neg hb, if_neg hb]
        · by_cases hb : bt s i < 128
          · simp only [if_pos hb]
            split <;> exact Ev.now _
          · simp only [if_neg hb]
            exact ih _ _ (by omega) (by omega) (by omega)
      · rw [if_neg hl]
        refine Ev.step (f := fun _ => some (0, 0)) (fun k => ?_) (Ev.now _)
        simp only [spec_l2Take.j1]
        rw [if_neg (by simpa using hl)]
theorem spec_take (s : ByteArray) : Ev (fun k => spec_l2Take.f k s) (takeV s) := spec_take_l s 9 0 0 (by omega) (by omega) (by omega)

-- part implTake needs impl_TakeVar.f
theorem impl_take_l (s : ByteArray) (d : Nat) : ∀ (n i : Int), 0 ≤ i → i ≤ 9 → 9 - i = d → Ev (fun k => impl_TakeVar.l0 k s n i) (takeR s d n i) := by
  induction d with
  | zero =>
    intro n i h0 h9 hd
    refine Ev.step (f := fun _ => some (0, 0)) (fun k => ?_) (Ev.now _)
    simp only [impl_TakeVar.l0]; rw [if_neg (by rw [lt_mn]; omega)]
  | succ d ih =>
    intro n i h0 h9 hd
    have e7 : wrap64 (7 * i) = 7 * i := w64 (by omega) (by omega)
    have e1 : wrap64 (i + 1) = i + 1 := w64 (by omega) (by omega)
    obtain ⟨b0, b1⟩ := bt_range s i
    have eb : wrap64 (bt s i) = bt s i := w64 (by omega) (by omega)
    have et : Int.tmod (bt s i) 128 = bt s i % 128 := Int.tmod_eq_emod_of_nonneg b0
    unfold takeR
    by_cases hl : i < (s.size : Int)
    · rw [if_pos hl]
      refine Ev.step (fun k => ?_) (f := fun k => if bt s i < 128 then (if i > 0 ∧ bt s i = 0 then some (0, 0) else some (Go.bits .or .i64 n (shl .i64 (bt s i % 128) (7 * i)), i + 1))
        else impl_TakeVar.l0 k s (Go.bits .or .i64 n (shl .i64 (bt s i % 128) (7 * i))) (i + 1)) ?_
      · simp only [impl_TakeVar.l0]
        rw [if_pos (by rw [lt_mn]; omega), if_pos h0, if_pos hl, e7, if_pos (by omega), eb, et, e1]
        by_cases hb : bt s i < 128
        · rw [if_pos hb, if_pos hb]
          by_cases hi : i > 0
          · rw [if_pos hi]
            by_cases hz : bt s i = 0
            · rw [if_pos hz, if_pos ⟨hi, hz⟩]
            · rw [if_neg hz, if_neg (fun h => hz h.2)]
          · rw [if_neg hi, if_neg (fun h => hi h.1)]
        · rw [if_neg hb, if_neg hb]
      · by_cases hb : bt s i < 128
        · simp only [if_pos hb]
          split <;> exact Ev.now _
        · simp only [if_neg hb]
          exact ih _ _ (by omega) (by omega) (by omega)
    · rw [if_neg hl]
      refine Ev.step (f := fun _ => some (0, 0)) (fun k => ?_) (Ev.now _)
      simp only [impl_TakeVar.l0]
      rw [if_neg (by rw [lt_mn]; omega)]
theorem impl_take (s : ByteArray) : Ev (fun k => impl_TakeVar.f k s) (takeV s) := impl_take_l s 9 0 0 (by omega) (by omega) (by omega)

theorem FnExactTakeVar : laws_FnExactTakeVar.Pure := by
  intro s hs
  apply Ev.rounds (r := true)
  unfold laws_FnExactTakeVar.f spec_TakeVar.f
  refine Ev.ite_ (fun _ => Ev.now _) (fun _ => ?_)
  refine Ev.bind (Ev.bind (spec_take s) (Ev.now _)) ?_
  refine Ev.bind (impl_take s) ?_
  simp; exact Ev.now _

end Go.Proofs.Ythlcfahcpmmjkaa.Pure
