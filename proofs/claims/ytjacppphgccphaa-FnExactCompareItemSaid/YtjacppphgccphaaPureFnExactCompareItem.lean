/-
  The plain statement of the law FnExactCompareItem, proved: over numbers and lists alone. No condition beyond the given ones.
-/
import Derived.Test.YtjacppphgccphaaMFnExactCompareItemx3
namespace Go.Proofs.Ytjacppphgccphaa.Pure
open Go Go.RowKit Go.Proofs.Ytjacppphgccphaa.MFnExactCompareItem Go.Proofs.YtjacppphgccphaaW.PrintWords Go.Proofs.YtjacppphgccphaaW.PrintLast Go.Proofs.YtjacppphgccphaaW.PrintMore
set_option linter.unusedVariables false
set_option linter.unusedSimpArgs false

-- part base: plain facts on Go's numbers and on rounds
theorem lt_mn {i a b : Int} : i < mn a b ↔ i < a ∧ i < b := by unfold mn; split <;> omega
theorem mn_le {a b : Int} : mn a b ≤ a ∧ mn a b ≤ b := by unfold mn; split <;> omega
theorem w64 {n : Int} (h0 : -9223372036854775808 ≤ n) (h1 : n ≤ 9223372036854775807) : wrap64 n = n := by unfold wrap64; omega
theorem wrap_u64 (n : Int) : IntKind.u64.wrap n = n % 18446744073709551616 := by simp [IntKind.wrap, IntKind.bits, IntKind.signed]
theorem wu64 {n : Int} (h0 : 0 ≤ n) (h1 : n ≤ 18446744073709551615) : IntKind.u64.wrap n = n := by rw [wrap_u64]; omega
theorem wu32 {n : Int} (h0 : 0 ≤ n) (h1 : n ≤ 4294967295) : IntKind.u32.wrap n = n := by rw [IntKind.wrap_u32]; omega
theorem wraps_u32 (n : Int) (h₀ : 0 ≤ n) (h₁ : n < 2 ^ 32) : IntKind.u32.wrap n = n := by rw [IntKind.wrap_u32]; omega
theorem wraps_i64 (n : Int) (h₀ : 0 ≤ n) (h₁ : n < 2 ^ 63) : IntKind.i64.wrap n = n := by rw [IntKind.wrap_i64]; omega
theorem and127 {b : Int} (h0 : 0 ≤ b) (h1 : b ≤ 255) : Go.bits .and .u8 b 127 = b % 128 := bits_mask .u8 8 (by decide) wraps_u8 7 (by decide) b h0 (by omega)
theorem wf_i64 {n : Int} (h : (Lit.int .i64 n).wf = true) : -9223372036854775808 ≤ n ∧ n ≤ 9223372036854775807 := by
  simp only [Lit.wf, Bool.and_eq_true, decide_eq_true_eq] at h
  exact h
theorem wf_u32 {n : Int} (h : (Lit.int .u32 n).wf = true) : 0 ≤ n ∧ n ≤ 4294967295 := by
  simp only [Lit.wf, Bool.and_eq_true, decide_eq_true_eq] at h
  exact h
theorem bits_or_comm (k : IntKind) (x y : Int) : Go.bits .or k x y = Go.bits .or k y x := by
  simp only [Go.bits, BitVec.or_comm]
theorem and127i {b : Int} (h0 : 0 ≤ b) (h1 : b ≤ 9223372036854775807) : Go.bits .and .i64 b 127 = b % 128 := bits_mask .i64 63 (by decide) wraps_i64 7 (by decide) b h0 (by omega)
theorem or128i {b : Int} (h0 : 0 ≤ b) (h1 : b < 128) : Go.bits .or .i64 b 128 = b + 128 := by
  rw [bits_or_comm, bits_join .i64 63 (by decide) wraps_i64 7 128 b (by omega) (by omega) (by omega) h0 (by omega) (by omega)]; omega
theorem Ev.ite_ {α : Type} {c : Prop} [Decidable c] {g f : Nat → Option α} {r : α} (h : c → Ev g r) (k : ¬c → Ev f r) : Ev (fun n => if c then g n else f n) r := by
  by_cases hc : c
  · simp only [if_pos hc]; exact h hc
  · simp only [if_neg hc]; exact k hc
theorem Ev.pos_ {α : Type} {c : Prop} [Decidable c] {g f : Nat → Option α} {r : α} (hc : c) (h : Ev g r) : Ev (fun n => if c then g n else f n) r := by simp only [if_pos hc]; exact h
theorem Ev.neg_ {α : Type} {c : Prop} [Decidable c] {g f : Nat → Option α} {r : α} (hc : ¬c) (h : Ev f r) : Ev (fun n => if c then g n else f n) r := by simp only [if_neg hc]; exact h
theorem Ev.some_ {α β : Type} {f : Nat → α → Option β} {x : α} {r : β} (h : Ev (fun n => f n x) r) : Ev (fun n => (some x).bind (f n)) r := by simpa only [Option.bind_some] using h
theorem bo_and (b c : Bool) : (if b = true then some c else some false) = some (b && c) := by cases b <;> rfl
theorem bo_andP (p : Prop) [Decidable p] (c : Bool) : (if p then some c else some false) = some (decide p && c) := by by_cases h : p <;> simp [h]
theorem bo_orP (p : Prop) [Decidable p] (c : Bool) : (if p then some true else some c) = some (decide p || c) := by by_cases h : p <;> simp [h]
theorem bo_or (b c : Bool) : (if b = true then some true else some c) = some (b || c) := by cases b <;> rfl
def inB (a lo hi : Int) : Bool := decide (lo ≤ a) && decide (a ≤ hi)
theorem inB_iff {a lo hi : Int} : inB a lo hi = true ↔ lo ≤ a ∧ a ≤ hi := by simp [inB]

-- part specIn needs spec_l1In.f
theorem spec_in (a lo hi : Int) : spec_l1In.f a lo hi = some (inB a lo hi) := by
  unfold spec_l1In.f inB; rw [bo_andP]

-- part implIn needs impl_in.f
theorem impl_in_ (a lo hi : Int) : impl_in.f a lo hi = some (inB a lo hi) := by
  unfold impl_in.f inB; rw [bo_andP]

-- part goodItem
def keyB (k : ByteArray) : Bool := inB (k.size : Int) 1 16
def seqB (q : Int) : Bool := inB q 0 1000000000
def goodItemB (k : ByteArray) (q d : Int) (v : ByteArray) : Bool := keyB k && (seqB q && (inB d 0 1 && (decide ((v.size : Int) ≤ 40) && (decide (d = 1) || (v.toList == ([] : List UInt8))))))

-- part specGoodItem needs spec_GoodItem.f
theorem spec_goodItem (k : ByteArray) (q d : Int) (v : ByteArray) : spec_GoodItem.f k q d v = some (goodItemB k q d v) := by
  unfold spec_GoodItem.f spec_l4Key.f spec_l4Seq.f goodItemB keyB seqB
  simp only [spec_in, Option.bind_some, bo_andP, bo_orP, Bool.decide_eq_true]

-- part implGoodItem needs impl_GoodItem.f
theorem impl_goodItem (k : ByteArray) (q d : Int) (v : ByteArray) : impl_GoodItem.f k q d v = some (goodItemB k q d v) := by
  unfold impl_GoodItem.f impl_isKey.f impl_isSeq.f impl_isValue.f goodItemB keyB seqB
  simp only [impl_in_, Option.bind_some, bo_andP, bo_orP, Bool.decide_eq_true]

-- part cmpM: items by their order
def cmpV (k1 : ByteArray) (q1 : Int) (k2 : ByteArray) (q2 : Int) : Int :=
  if Op.bytesLess k1.toList k2.toList = true then -1 else if k1.toList = k2.toList then (if q1 > q2 then -1 else if q1 = q2 then 0 else 1) else 1
theorem less_irrefl (a : List UInt8) : Op.bytesLess a a = false := by
  have := Go.Proofs.YtjacppphgccphaaX.less_of a a
  cases h : Op.bytesLess a a <;> simp_all
theorem less_eq {a b : List UInt8} (h1 : ¬ Op.bytesLess a b = true) (h2 : ¬ Op.bytesLess b a = true) : a = b := by
  have := Go.Proofs.YtjacppphgccphaaX.less_of a b
  cases h3 : Op.bytesLess a b <;> simp_all

-- part specCmp needs spec_l4Compare.f
theorem spec_cmp (k1 : ByteArray) (q1 d1 : Int) (v1 k2 : ByteArray) (q2 d2 : Int) (v2 : ByteArray) : Ev (fun k => spec_l4Compare.f k k1 q1 d1 v1 k2 q2 d2 v2) (cmpV k1 q1 k2 q2) := by
  unfold spec_l4Compare.f cmpV
  by_cases h1 : Op.bytesLess k1.toList k2.toList = true
  · rw [if_pos h1]
    exact Ev.pos_ h1 (Ev.step (fun k => by rw [spec_l4Compare.j0]) (Ev.pos_ rfl (Ev.now _)))
  · rw [if_neg h1]
    refine Ev.neg_ h1 ?_
    by_cases h2 : k1.toList = k2.toList
    · rw [if_pos h2]
      refine Ev.pos_ h2 (Ev.step (fun k => by rw [spec_l4Compare.j0]) ?_)
      by_cases h3 : q1 > q2
      · rw [if_pos h3]; exact Ev.pos_ (by simpa using h3) (Ev.now _)
      · rw [if_neg h3]
        refine Ev.neg_ (by simpa using h3) (Ev.pos_ h2 ?_)
        by_cases h4 : q1 = q2
        · simp only [if_pos h4]; exact Ev.now _
        · simp only [if_neg h4]; exact Ev.now _
    · rw [if_neg h2]
      exact Ev.neg_ h2 (Ev.step (fun k => by rw [spec_l4Compare.j0]) (Ev.neg_ (by simp) (Ev.neg_ h2 (Ev.now _))))

-- part implCmp needs impl_itemOrder.f
theorem or_two (a b : Int) : Ev (fun k => cmp_Or_int.f k [a, b]) (if a = 0 then b else a) := by
  unfold cmp_Or_int.f
  refine Ev.step (fun k => by rw [cmp_Or_int.l0]) ?_
  refine Ev.pos_ (by simp) (Ev.pos_ (by omega) (Ev.pos_ (by simp) ?_))
  have e0 : rd [a, b] 0 = a := rfl
  have e1 : rd [a, b] 1 = b := rfl
  have ew : wrap64 (0 + 1) = 1 := by rw [w64 (by omega) (by omega)]; rfl
  rw [e0, ew]
  by_cases h : a = 0
  · rw [if_pos h]
    refine Ev.pos_ h ?_
    refine Ev.step (fun k => by rw [cmp_Or_int.l0]) ?_
    refine Ev.pos_ (by simp) (Ev.pos_ (by omega) (Ev.pos_ (by simp) ?_))
    rw [e1]
    by_cases h' : b = 0
    · refine Ev.pos_ h' ?_
      have ew2 : wrap64 (1 + 1) = 2 := by rw [w64 (by omega) (by omega)]; rfl
      rw [ew2]
      subst h'
      exact Ev.step (fun k => by rw [cmp_Or_int.l0]) (Ev.neg_ (by simp) (Ev.now _))
    · exact Ev.neg_ h' (Ev.now _)
  · rw [if_neg h]; exact Ev.neg_ h (Ev.now _)
theorem impl_cmp (k1 : ByteArray) (q1 d1 : Int) (v1 k2 : ByteArray) (q2 d2 : Int) (v2 : ByteArray) : Ev (fun k => impl_itemOrder.f k k1 q1 d1 v1 k2 q2 d2 v2) (cmpV k1 q1 k2 q2) := by
  unfold impl_itemOrder.f
  have e1 : cmp_Compare_string.f k1 k2 = some (if Op.bytesLess k1.toList k2.toList = true then -1 else if k1.toList = k2.toList then 0 else 1) := by
    unfold cmp_Compare_string.f cmp_isNaN_string.f
    simp only [Option.bind_some]
    by_cases h1 : Op.bytesLess k1.toList k2.toList = true
    · simp [h1]
    · by_cases h2 : Op.bytesLess k2.toList k1.toList = true
      · have h3 : ¬ k1.toList = k2.toList := fun e => by rw [e, less_irrefl] at h2; cases h2
        simp [h1, h2, h3]
      · have h3 := less_eq h1 h2
        simp [h1, h2, h3, less_irrefl]
  have e2 : cmp_Compare_int.f q2 q1 = some (if q1 > q2 then -1 else if q1 = q2 then 0 else 1) := by
    unfold cmp_Compare_int.f cmp_isNaN_int.f
    simp only [Option.bind_some, bne_self_eq_false]
    by_cases h1 : q2 < q1
    · simp [h1]
    · by_cases h2 : q2 > q1
      · have : ¬ q1 = q2 := by omega
        simp [h1, h2, this]
      · obtain rfl : q1 = q2 := by omega
        simp
  simp only [e1, e2, Option.bind_some]
  refine Ev.bind (or_two _ _) ?_
  have : (if (if Op.bytesLess k1.toList k2.toList = true then (-1 : Int) else if k1.toList = k2.toList then 0 else 1) = 0 then (if q1 > q2 then (-1 : Int) else if q1 = q2 then 0 else 1) else (if Op.bytesLess k1.toList k2.toList = true then -1 else if k1.toList = k2.toList then 0 else 1)) = cmpV k1 q1 k2 q2 := by
    unfold cmpV
    by_cases h1 : Op.bytesLess k1.toList k2.toList = true
    · simp [h1]
    · by_cases h3 : k1.toList = k2.toList
      · simp [h3, less_irrefl]
      · simp [h1, h3]
  rw [this]
  exact Ev.now _

theorem FnExactCompareItem (k1 : ByteArray) (q1 d1 : Int) (v1 k2 : ByteArray) (q2 d2 : Int) (v2 : ByteArray)
    (_ : k1.size ≤ 140737488351232 ∧ (Lit.int .i64 q1).wf = true ∧ (Lit.int .i64 d1).wf = true ∧ v1.size ≤ 140737488351232)
    (_ : k2.size ≤ 140737488351232 ∧ (Lit.int .i64 q2).wf = true ∧ (Lit.int .i64 d2).wf = true ∧ v2.size ≤ 140737488351232) : ∃ k, laws_FnExactCompareItem.f k k1 q1 d1 v1 k2 q2 d2 v2 = some true := by
  apply Ev.rounds (r := true)
  have hsz : ∀ k q d v a, ∃ r, laws_szItem.f k q d v a = some r := by
    intro k q d v a; unfold laws_szItem.f; split
    · exact ⟨_, rfl⟩
    · split <;> exact ⟨_, rfl⟩
  unfold laws_FnExactCompareItem.f laws_toItem.f spec_CompareItem.f impl_CompareItem.f
  obtain ⟨r1, e1⟩ := hsz k1 q1 d1 v1 1048576
  obtain ⟨r2, e2⟩ := hsz k2 q2 d2 v2 r1
  simp only [e1, e2, Option.bind_some, spec_goodItem, impl_goodItem]
  refine Ev.ite_ (fun _ => Ev.now _) (fun _ => Ev.ite_ (fun _ => Ev.now _) (fun _ => ?_))
  by_cases h1 : goodItemB k1 q1 d1 v1 = true
  · by_cases h2 : goodItemB k2 q2 d2 v2 = true
    · simp only [if_pos h1, if_pos h2]
      refine Ev.bind (Ev.bind (spec_cmp k1 q1 d1 v1 k2 q2 d2 v2) (Ev.now _)) ?_
      refine Ev.bind (Ev.bind (impl_cmp k1 q1 d1 v1 k2 q2 d2 v2) (Ev.now _)) ?_
      simp; exact Ev.now _
    · simp only [if_pos h1, if_neg h2, Option.bind_some]; simp; exact Ev.now _
  · simp only [if_neg h1, Option.bind_some]; simp; exact Ev.now _

end Go.Proofs.Ytjacppphgccphaa.Pure
