/-
  The plain statement of the law FnExactNewDisk, proved: over numbers and lists alone. No condition beyond the given ones.
-/
import Derived.Test.YtocmgmolbfhkaaaMFnExactNewDiskx4
namespace Go.Proofs.Ytocmgmolbfhkaaa.Pure
open Go Go.RowKit Go.Proofs.Ytocmgmolbfhkaaa.MFnExactNewDisk Go.Proofs.YtocmgmolbfhkaaaW.PrintWords Go.Proofs.YtocmgmolbfhkaaaW.PrintLast Go.Proofs.YtocmgmolbfhkaaaW.PrintMore
set_option linter.unusedVariables false
set_option linter.unusedSimpArgs false

-- part base: plain facts on Go's numbers and on rounds
theorem lt_mn {i a b : Int} : i < mn a b ↔ i < a ∧ i < b := by unfold mn; split <;> omega
theorem mn_le {a b : Int} : mn a b ≤ a ∧ mn a b ≤ b := by unfold mn; split <;> omega
theorem w64 {n : Int} (h0 : -9223372036854775808 ≤ n) (h1 : n ≤ 9223372036854775807) : wrap64 n = n := by unfold wrap64; omega
theorem wrap_u64 (n : Int) : IntKind.u64.wrap n = n % 18446744073709551616 := by simp [IntKind.wrap, IntKind.bits, IntKind.signed]
theorem wu64 {n : Int} (h0 : 0 ≤ n) (h1 : n ≤ 18446744073709551615) : IntKind.u64.wrap n = n := by rw [wrap_u64]; omega
theorem wu32 {n : Int} (h0 : 0 ≤ n) (h1 : n ≤ 4294967295) : IntKind.u32.wrap n = n := by rw [IntKind.wrap_u32]; omega
theorem wraps_u32 (n : Int) (h₀ : 0 ≤ n) (h₁ : n < 2 ^ 32) : IntKind.u32.wrap n = n := by rw [IntKind.wrap_u32]; omega
theorem wraps_i64 (n : Int) (h₀ : 0 ≤ n) (h₁ : n < 2 ^ 63) : IntKind.i64.wrap n = n := by rw [IntKind.wrap_i64]; omega
theorem and127 {b : Int} (h0 : 0 ≤ b) (h1 : b ≤ 255) : Go.bits .and .u8 b 127 = b % 128 := bits_mask .u8 8 (by decide) wraps_u8 7 (by decide) b h0 (by omega)
theorem wf_i64 {n : Int} (h : (Lit.int .i64 n).wf = true) : -9223372036854775808 ≤ n ∧ n ≤ 9223372036854775807 := by
  simp only [Lit.wf, Bool.and_eq_true, decide_eq_true_eq] at h
  exact h
theorem wf_u32 {n : Int} (h : (Lit.int .u32 n).wf = true) : 0 ≤ n ∧ n ≤ 4294967295 := by
  simp only [Lit.wf, Bool.and_eq_true, decide_eq_true_eq] at h
  exact h
theorem bits_or_comm (k : IntKind) (x y : Int) : Go.bits .or k x y = Go.bits .or k y x := by
  simp only [Go.bits, BitVec.or_comm]
theorem and127i {b : Int} (h0 : 0 ≤ b) (h1 : b ≤ 9223372036854775807) : Go.bits .and .i64 b 127 = b % 128 := bits_mask .i64 63 (by decide) wraps_i64 7 (by decide) b h0 (by omega)
theorem or128i {b : Int} (h0 : 0 ≤ b) (h1 : b < 128) : Go.bits .or .i64 b 128 = b + 128 := by
  rw [bits_or_comm, bits_join .i64 63 (by decide) wraps_i64 7 128 b (by omega) (by omega) (by omega) h0 (by omega) (by omega)]; omega
theorem Ev.ite_ {α : Type} {c : Prop} [Decidable c] {g f : Nat → Option α} {r : α} (h : c → Ev g r) (k : ¬c → Ev f r) : Ev (fun n => if c then g n else f n) r := by
  by_cases hc : c
  · simp only [if_pos hc]; exact h hc
  · simp only [if_neg hc]; exact k hc
theorem Ev.pos_ {α : Type} {c : Prop} [Decidable c] {g f : Nat → Option α} {r : α} (hc : c) (h : Ev g r) : Ev (fun n => if c then g n else f n) r := by simp only [if_pos hc]; exact h
theorem Ev.neg_ {α : Type} {c : Prop} [Decidable c] {g f : Nat → Option α} {r : α} (hc : ¬c) (h : Ev f r) : Ev (fun n => if c then g n else f n) r := by simp only [if_neg hc]; exact h
theorem Ev.some_ {α β : Type} {f : Nat → α → Option β} {x : α} {r : β} (h : Ev (fun n => f n x) r) : Ev (fun n => (some x).bind (f n)) r := by simpa only [Option.bind_some] using h
theorem bo_and (b c : Bool) : (if b = true then some c else some false) = some (b && c) := by cases b <;> rfl
theorem bo_andP (p : Prop) [Decidable p] (c : Bool) : (if p then some c else some false) = some (decide p && c) := by by_cases h : p <;> simp [h]
theorem bo_orP (p : Prop) [Decidable p] (c : Bool) : (if p then some true else some c) = some (decide p || c) := by by_cases h : p <;> simp [h]
theorem bo_or (b c : Bool) : (if b = true then some true else some c) = some (b || c) := by cases b <;> rfl
def inB (a lo hi : Int) : Bool := decide (lo ≤ a) && decide (a ≤ hi)
theorem inB_iff {a lo hi : Int} : inB a lo hi = true ↔ lo ≤ a ∧ a ≤ hi := by simp [inB]

-- part specIn needs spec_l1In.f
theorem spec_in (a lo hi : Int) : spec_l1In.f a lo hi = some (inB a lo hi) := by
  unfold spec_l1In.f inB; rw [bo_andP]

-- part implIn needs impl_in.f
theorem impl_in_ (a lo hi : Int) : impl_in.f a lo hi = some (inB a lo hi) := by
  unfold impl_in.f inB; rw [bo_andP]

theorem eqDisk_nil (c : Int) : Ev (fun k => laws_eqDisk.f k [] [] [] c [] [] [] c) true := by
  have e1 : Ev (fun k => laws_eqBlobS.f k [] []) true := by
    unfold laws_eqBlobS.f
    refine Ev.pos_ rfl (Ev.step (fun k => by rw [laws_eqBlobS.l0]) ?_)
    exact Ev.neg_ (by decide) (Ev.now _)
  have e2 : Ev (fun k => laws_eqNameS.f k [] []) true := by
    unfold laws_eqNameS.f
    refine Ev.pos_ rfl (Ev.step (fun k => by rw [laws_eqNameS.l0]) ?_)
    exact Ev.neg_ (by decide) (Ev.now _)
  unfold laws_eqDisk.f
  exact Ev.bind e1 (Ev.pos_ rfl (Ev.bind e2 (Ev.pos_ rfl (Ev.bind e2 (Ev.pos_ rfl (Ev.pos_ rfl (Ev.now _)))))))
theorem markDisk_nil (c : Int) : Ev (fun k => laws_markDisk.f k [] [] [] c 1) (1, [], [], []) := by
  have e1 : Ev (fun k => laws_markBlobS.f k [] 1) (1, []) := by
    unfold laws_markBlobS.f
    refine Ev.step (fun k => by rw [laws_markBlobS.l0]) ?_
    exact Ev.neg_ (by decide) (Ev.now _)
  have e2 : Ev (fun k => laws_markNameS.f k [] 1) (1, []) := by
    unfold laws_markNameS.f
    refine Ev.step (fun k => by rw [laws_markNameS.l0]) ?_
    exact Ev.neg_ (by decide) (Ev.now _)
  unfold laws_markDisk.f
  exact Ev.bind e1 (Ev.bind e2 (Ev.bind e2 (Ev.now _)))
theorem heldDisk_nil (c : Int) : Ev (fun k => laws_heldDisk.f k [] [] [] c 1) 1 := by
  have e1 : Ev (fun k => laws_heldBlobS.f k [] 1) 1 := by
    unfold laws_heldBlobS.f
    refine Ev.step (fun k => by rw [laws_heldBlobS.l0]) ?_
    exact Ev.neg_ (by decide) (Ev.now _)
  have e2 : Ev (fun k => laws_heldNameS.f k [] 1) 1 := by
    unfold laws_heldNameS.f
    refine Ev.step (fun k => by rw [laws_heldNameS.l0]) ?_
    exact Ev.neg_ (by decide) (Ev.now _)
  unfold laws_heldDisk.f
  exact Ev.bind e1 (Ev.neg_ (by decide) (Ev.bind e2 (Ev.neg_ (by decide) (Ev.bind e2 (Ev.neg_ (by decide) (Ev.now _))))))
theorem FnExactNewDisk : laws_FnExactNewDisk.Pure := by
  intro n hn
  apply Ev.rounds (r := true)
  obtain ⟨c, b, h1, h2⟩ : ∃ c b, spec_NewDisk.f n = some ([], [], [], c, b) ∧ impl_NewDisk.f n = some ([], [], [], c, b) := by
    unfold spec_NewDisk.f impl_NewDisk.f
    simp only [spec_in, impl_in_, Option.bind_some]
    by_cases h : inB n 0 100000 = true
    · exact ⟨n, true, by rw [if_pos h], by rw [if_pos h]⟩
    · exact ⟨0, false, by rw [if_neg h], by rw [if_neg h]⟩
  unfold laws_FnExactNewDisk.f
  rw [h1, h2]
  refine Ev.some_ (Ev.some_ (Ev.bind (eqDisk_nil c) (Ev.pos_ rfl ?_)))
  simp only [bne_self_eq_false]
  refine Ev.step (fun k => by rw [laws_FnExactNewDisk.j0]) ?_
  refine Ev.neg_ (by decide) (Ev.bind (markDisk_nil c) (Ev.bind (heldDisk_nil c) (Ev.neg_ (by decide) (Ev.pos_ rfl ?_))))
  rw [h2]
  refine Ev.some_ (Ev.bind (eqDisk_nil c) (Ev.pos_ rfl ?_))
  simp only [bne_self_eq_false]
  refine Ev.step (fun k => by rw [laws_FnExactNewDisk.j1]) ?_
  exact Ev.neg_ (by decide) (Ev.bind (heldDisk_nil c) (Ev.neg_ (by decide) (Ev.pos_ rfl (Ev.now _))))

end Go.Proofs.Ytocmgmolbfhkaaa.Pure
