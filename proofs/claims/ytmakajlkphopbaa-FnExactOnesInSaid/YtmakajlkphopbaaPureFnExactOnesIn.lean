/-
  The plain statement of the law FnExactOnesIn, proved: over numbers and lists alone. No condition beyond the given ones.
-/
import Derived.Test.YtmakajlkphopbaaMFnExactOnesInx1
namespace Go.Proofs.Ytmakajlkphopbaa.Pure
open Go Go.RowKit Go.Proofs.Ytmakajlkphopbaa.MFnExactOnesIn Go.Proofs.YtmakajlkphopbaaW.PrintWords Go.Proofs.YtmakajlkphopbaaW.PrintLast Go.Proofs.YtmakajlkphopbaaW.PrintMore
set_option linter.unusedVariables false
set_option linter.unusedSimpArgs false

-- part base: plain facts on Go's numbers and on rounds
theorem lt_mn {i a b : Int} : i < mn a b ↔ i < a ∧ i < b := by unfold mn; split <;> omega
theorem mn_le {a b : Int} : mn a b ≤ a ∧ mn a b ≤ b := by unfold mn; split <;> omega
theorem w64 {n : Int} (h0 : -9223372036854775808 ≤ n) (h1 : n ≤ 9223372036854775807) : wrap64 n = n := by unfold wrap64; omega
theorem wrap_u64 (n : Int) : IntKind.u64.wrap n = n % 18446744073709551616 := by simp [IntKind.wrap, IntKind.bits, IntKind.signed]
theorem wu64 {n : Int} (h0 : 0 ≤ n) (h1 : n ≤ 18446744073709551615) : IntKind.u64.wrap n = n := by rw [wrap_u64]; omega
theorem wu32 {n : Int} (h0 : 0 ≤ n) (h1 : n ≤ 4294967295) : IntKind.u32.wrap n = n := by rw [IntKind.wrap_u32]; omega
theorem wraps_u32 (n : Int) (h₀ : 0 ≤ n) (h₁ : n < 2 ^ 32) : IntKind.u32.wrap n = n := by rw [IntKind.wrap_u32]; omega
theorem wraps_i64 (n : Int) (h₀ : 0 ≤ n) (h₁ : n < 2 ^ 63) : IntKind.i64.wrap n = n := by rw [IntKind.wrap_i64]; omega
theorem and127 {b : Int} (h0 : 0 ≤ b) (h1 : b ≤ 255) : Go.bits .and .u8 b 127 = b % 128 := bits_mask .u8 8 (by decide) wraps_u8 7 (by decide) b h0 (by omega)
theorem wf_i64 {n : Int} (h : (Lit.int .i64 n).wf = true) : -9223372036854775808 ≤ n ∧ n ≤ 9223372036854775807 := by
  simp only [Lit.wf, Bool.and_eq_true, decide_eq_true_eq] at h
  exact h
theorem wf_u32 {n : Int} (h : (Lit.int .u32 n).wf = true) : 0 ≤ n ∧ n ≤ 4294967295 := by
  simp only [Lit.wf, Bool.and_eq_true, decide_eq_true_eq] at h
  exact h
theorem bits_or_comm (k : IntKind) (x y : Int) : Go.bits .or k x y = Go.bits .or k y x := by
  simp only [Go.bits, BitVec.or_comm]
theorem and127i {b : Int} (h0 : 0 ≤ b) (h1 : b ≤ 9223372036854775807) : Go.bits .and .i64 b 127 = b % 128 := bits_mask .i64 63 (by decide) wraps_i64 7 (by decide) b h0 (by omega)
theorem or128i {b : Int} (h0 : 0 ≤ b) (h1 : b < 128) : Go.bits .or .i64 b 128 = b + 128 := by
  rw [bits_or_comm, bits_join .i64 63 (by decide) wraps_i64 7 128 b (by omega) (by omega) (by omega) h0 (by omega) (by omega)]; omega
theorem Ev.ite_ {α : Type} {c : Prop} [Decidable c] {g f : Nat → Option α} {r : α} (h : c → Ev g r) (k : ¬c → Ev f r) : Ev (fun n => if c then g n else f n) r := by
  by_cases hc : c
  · simp only [if_pos hc]; exact h hc
  · simp only [if_neg hc]; exact k hc
theorem Ev.pos_ {α : Type} {c : Prop} [Decidable c] {g f : Nat → Option α} {r : α} (hc : c) (h : Ev g r) : Ev (fun n => if c then g n else f n) r := by simp only [if_pos hc]; exact h
theorem Ev.neg_ {α : Type} {c : Prop} [Decidable c] {g f : Nat → Option α} {r : α} (hc : ¬c) (h : Ev f r) : Ev (fun n => if c then g n else f n) r := by simp only [if_neg hc]; exact h
theorem Ev.some_ {α β : Type} {f : Nat → α → Option β} {x : α} {r : β} (h : Ev (fun n => f n x) r) : Ev (fun n => (some x).bind (f n)) r := by simpa only [Option.bind_some] using h
theorem bo_and (b c : Bool) : (if b = true then some c else some false) = some (b && c) := by cases b <;> rfl
theorem bo_andP (p : Prop) [Decidable p] (c : Bool) : (if p then some c else some false) = some (decide p && c) := by by_cases h : p <;> simp [h]
theorem bo_orP (p : Prop) [Decidable p] (c : Bool) : (if p then some true else some c) = some (decide p || c) := by by_cases h : p <;> simp [h]
theorem bo_or (b c : Bool) : (if b = true then some true else some c) = some (b || c) := by cases b <;> rfl
def inB (a lo hi : Int) : Bool := decide (lo ≤ a) && decide (a ≤ hi)
theorem inB_iff {a lo hi : Int} : inB a lo hi = true ↔ lo ≤ a ∧ a ≤ hi := by simp [inB]

-- part specIn needs spec_l1In.f
theorem spec_in (a lo hi : Int) : spec_l1In.f a lo hi = some (inB a lo hi) := by
  unfold spec_l1In.f inB; rw [bo_andP]

-- part implIn needs impl_in.f
theorem impl_in_ (a lo hi : Int) : impl_in.f a lo hi = some (inB a lo hi) := by
  unfold impl_in.f inB; rw [bo_andP]

-- part goodFilter needs spec_GoodFilter.f impl_GoodFilter.f
def goodFilterB (h : Int) (b : ByteArray) (m : Int) : Bool := inB h 1 8 && (decide ((b.size : Int) = 32) && inB m 0 1000000)
theorem spec_goodFilter (h : Int) (b : ByteArray) (m : Int) : spec_GoodFilter.f h b m = some (goodFilterB h b m) := by
  unfold spec_GoodFilter.f spec_l5Hashes.f goodFilterB
  simp only [spec_in, Option.bind_some, bo_andP, Bool.decide_eq_true]
theorem impl_goodFilter (h : Int) (b : ByteArray) (m : Int) : impl_GoodFilter.f h b m = some (goodFilterB h b m) := by
  unfold impl_GoodFilter.f impl_hashesOk.f goodFilterB
  simp only [impl_in_, Option.bind_some, bo_andP, Bool.decide_eq_true]

-- part onesM: how many bits are set
def pop : Nat → Int → Int
  | 0, _ => 0
  | d + 1, x => x % 2 + pop d (x / 2)
theorem pop_zero : ∀ d, pop d 0 = 0 := by
  intro d; induction d with
  | zero => rfl
  | succ d ih => simp [pop, ih]
theorem pop_range : ∀ (d : Nat) (x : Int), 0 ≤ pop d x ∧ pop d x ≤ d := by
  intro d; induction d with
  | zero => intro x; simp [pop]
  | succ d ih => intro x; have := ih (x / 2); unfold pop; omega
def bitAt (s : ByteArray) (k : Nat) : Int := (bt s ((k / 8 : Nat) : Int) / 2 ^ (k % 8)) % 2
def countR (s : ByteArray) : Nat → Nat → Int
  | 0, _ => 0
  | d + 1, k => bitAt s k + countR s d (k + 1)
theorem bitAt_range (s : ByteArray) (k : Nat) : 0 ≤ bitAt s k ∧ bitAt s k < 2 := by unfold bitAt; omega
theorem countR_range (s : ByteArray) : ∀ (d k : Nat), 0 ≤ countR s d k ∧ countR s d k ≤ d := by
  intro d; induction d with
  | zero => intro k; simp [countR]
  | succ d ih => intro k; have := ih (k + 1); have := bitAt_range s k; unfold countR; omega
theorem and1 {b : Int} (h0 : 0 ≤ b) (h1 : b ≤ 255) : Go.bits .and .u8 b 1 = b % 2 := bits_mask .u8 8 (by decide) wraps_u8 1 (by decide) b h0 (by omega)
theorem count_byte (s : ByteArray) (d i : Nat) : countR s (8 + d) (8 * i) = pop 8 (bt s i) + countR s d (8 * (i + 1)) := by
  have e : ∀ j, j < 8 → bitAt s (8 * i + j) = (bt s i / 2 ^ j) % 2 := by
    intro j hj
    unfold bitAt
    rw [show (8 * i + j) / 8 = i by omega, show (8 * i + j) % 8 = j by omega]
  have e0 := e 0 (by omega); have e1 := e 1 (by omega); have e2 := e 2 (by omega); have e3 := e 3 (by omega)
  have e4 := e 4 (by omega); have e5 := e 5 (by omega); have e6 := e 6 (by omega); have e7 := e 7 (by omega)
  rw [show 8 + d = d + 1 + 1 + 1 + 1 + 1 + 1 + 1 + 1 by omega]
  simp only [countR, pop, Nat.add_assoc, Nat.reduceAdd]
  simp only [Nat.add_zero] at e0
  rw [e0, e1, e2, e3, e4, e5, e6, e7, show 8 * (i + 1) = 8 * i + 8 by omega]
  omega
def onesV (h : Int) (b : ByteArray) (m : Int) : Int × Bool := if goodFilterB h b m = true then (countR b 256 0, true) else (0, false)
theorem goodFilterB_size {h : Int} {b : ByteArray} {m : Int} (hg : goodFilterB h b m = true) : 1 ≤ h ∧ h ≤ 8 ∧ b.size = 32 ∧ 0 ≤ m ∧ m ≤ 1000000 := by
  unfold goodFilterB at hg
  simp only [Bool.and_eq_true, decide_eq_true_eq, inB_iff] at hg
  omega

-- part specOnes needs spec_OnesIn.f
theorem spec_ones_in (h : Int) (b : ByteArray) (m : Int) : ∀ (d : Nat) (x n i : Int) (r : Int × Bool), 0 ≤ x → x < 2 ^ d → d ≤ 8 → 0 ≤ n → n + d ≤ 10000 → 0 ≤ i → i ≤ 1000 →
    Ev (fun k => spec_OnesIn.l0 k (n + pop d x) (i + 1) h b m) r → Ev (fun k => spec_OnesIn.l1 k n i x h b m) r := by
  intro d
  induction d with
  | zero =>
    intro x n i r h0 h1 hd hn hn' hi hi' hr
    refine Ev.step (fun k => by rw [spec_OnesIn.l1]) ?_
    have : (2 : Int) ^ 0 = 1 := rfl
    refine Ev.neg_ (by omega) ?_
    rw [w64 (by omega) (by omega)]
    simpa [pop] using hr
  | succ d ih =>
    intro x n i r h0 h1 hd hn hn' hi hi' hr
    have hx : x ≤ 255 := by
      have : ∀ j : Nat, j < 8 → (2 : Int) ^ (j + 1) ≤ 256 := by decide
      have := this d (by omega); omega
    refine Ev.step (fun k => by rw [spec_OnesIn.l1]) ?_
    by_cases hp : x > 0
    · refine Ev.pos_ hp ?_
      rw [and1 h0 hx, w64 (n := x % 2) (by omega) (by omega), w64 (by omega) (by omega)]
      refine ih (x / 2) (n + x % 2) i r (by omega) (by rw [Int.pow_succ] at h1; omega) (by omega) (by omega) (by omega) hi hi' ?_
      · rw [show n + x % 2 + pop d (x / 2) = n + pop (d + 1) x by simp only [pop]; omega]; exact hr
    · refine Ev.neg_ hp ?_
      obtain rfl : x = 0 := by omega
      rw [w64 (by omega) (by omega)]
      rw [pop_zero] at hr
      simpa using hr
theorem spec_ones_l (h : Int) (b : ByteArray) (m : Int) (hb : b.size = 32) : ∀ (d i : Nat) (n : Int), i + d = 32 → 0 ≤ n → n ≤ 8 * i → Ev (fun k => spec_OnesIn.l0 k n i h b m) (n + countR b (8 * d) (8 * i), true) := by
  intro d
  induction d with
  | zero =>
    intro i n hi hn hn'
    refine Ev.step (fun k => by rw [spec_OnesIn.l0]) ?_
    refine Ev.neg_ (by omega) ?_
    simpa [countR] using Ev.now _
  | succ d ih =>
    intro i n hi hn hn'
    obtain ⟨b0, b1⟩ := bt_range b i
    refine Ev.step (fun k => by rw [spec_OnesIn.l0]) ?_
    refine Ev.pos_ (by omega) (Ev.pos_ (by omega) ?_)
    refine spec_ones_in h b m 8 _ n i _ b0 (by have : (2 : Int) ^ 8 = 256 := rfl; omega) (by omega) hn (by omega) (by omega) (by omega) ?_
    have hp := pop_range 8 (bt b i)
    have := ih (i + 1) (n + pop 8 (bt b i)) (by omega) (by omega) (by omega)
    rw [show 8 * (d + 1) = 8 + 8 * d by omega, count_byte, show ((i : Int) + 1) = ((i + 1 : Nat) : Int) by omega, ← Int.add_assoc]
    exact this
theorem spec_ones (h : Int) (b : ByteArray) (m : Int) : Ev (fun k => spec_OnesIn.f k h b m) (onesV h b m) := by
  unfold spec_OnesIn.f onesV
  simp only [spec_goodFilter, Option.bind_some]
  by_cases hg : goodFilterB h b m = true
  · simp only [if_pos hg]
    have := spec_ones_l h b m (goodFilterB_size hg).2.2.1 32 0 0 rfl (by omega) (by omega)
    simpa using this
  · simp only [if_neg hg]; exact Ev.now _

-- part implOnes needs impl_OnesIn.f
theorem impl_has {b : ByteArray} (h m : Int) (k : Nat) (hk : k < 8 * b.size) (hs : b.size ≤ 1000) : impl_Filter_has.f h b m k = some ((bitAt b k == 1), h, b, m) := by
  unfold impl_Filter_has.f
  have e1 : wrap64 (Int.tdiv (k : Int) 8) = ((k / 8 : Nat) : Int) := by rw [Int.tdiv_eq_ediv_of_nonneg (by omega), w64 (by omega) (by omega)]; omega
  have e2 : Int.tmod (k : Int) 8 = ((k % 8 : Nat) : Int) := by rw [Int.tmod_eq_emod_of_nonneg (by omega)]; omega
  obtain ⟨b0, b1⟩ := bt_range b ((k / 8 : Nat) : Int)
  have e3 : shr .u8 (bt b ((k / 8 : Nat) : Int)) ((k % 8 : Nat) : Int) = bt b ((k / 8 : Nat) : Int) / 2 ^ (k % 8) := by
    unfold shr
    rw [Int.toNat_natCast, Nat.min_eq_left (by have : IntKind.u8.bits = 8 := rfl; omega)]
  have hp : (0 : Int) < 2 ^ (k % 8) := Int.pow_pos (by decide)
  have h4 : 0 ≤ bt b ((k / 8 : Nat) : Int) / 2 ^ (k % 8) := Int.ediv_nonneg b0 (by omega)
  have h5 : bt b ((k / 8 : Nat) : Int) / 2 ^ (k % 8) ≤ 255 := Int.le_trans (Int.ediv_le_self _ b0) b1
  rw [e1, e2, if_pos (by omega), if_pos (by omega), if_pos (by omega), e3, and1 h4 h5]
  rfl
theorem impl_ones_l (h : Int) (b : ByteArray) (m : Int) (hb : b.size = 32) : ∀ (d i : Nat) (n : Int), i + d = 256 → 0 ≤ n → n ≤ i → Ev (fun k => impl_OnesIn.l0 k n i h b m) (n + countR b d i, true) := by
  intro d
  induction d with
  | zero =>
    intro i n hi hn hn'
    refine Ev.step (fun k => by rw [impl_OnesIn.l0]) ?_
    refine Ev.neg_ (by omega) ?_
    simpa [countR] using Ev.now _
  | succ d ih =>
    intro i n hi hn hn'
    refine Ev.step (fun k => by rw [impl_OnesIn.l0]) ?_
    refine Ev.pos_ (by omega) ?_
    rw [impl_has h m i (by omega) (by omega)]
    have hr := bitAt_range b i
    have ew : wrap64 ((i : Int) + 1) = ((i + 1 : Nat) : Int) := by rw [w64 (by omega) (by omega)]; omega
    have en : wrap64 (n + 1) = n + 1 := w64 (by omega) (by omega)
    simp only [Option.bind_some, ew, en, countR]
    by_cases h1 : bitAt b i = 1
    · refine Ev.pos_ (by simpa using h1) ?_
      have := ih (i + 1) (n + 1) (by omega) (by omega) (by omega)
      rw [h1, ← Int.add_assoc]; exact this
    · refine Ev.neg_ (by simpa using h1) ?_
      have := ih (i + 1) n (by omega) (by omega) (by omega)
      rw [show bitAt b i = 0 by omega, Int.zero_add]; exact this
theorem impl_ones (h : Int) (b : ByteArray) (m : Int) : Ev (fun k => impl_OnesIn.f k h b m) (onesV h b m) := by
  unfold impl_OnesIn.f onesV
  simp only [impl_goodFilter, Option.bind_some]
  by_cases hg : goodFilterB h b m = true
  · simp only [if_pos hg]
    have := impl_ones_l h b m (goodFilterB_size hg).2.2.1 256 0 0 rfl (by omega) (by omega)
    simpa using this
  · simp only [if_neg hg]; exact Ev.now _

theorem FnExactOnesIn (h : Int) (b : ByteArray) (m : Int) (_ : (Lit.int .i64 h).wf = true ∧ b.size ≤ 140737488351232 ∧ (Lit.int .i64 m).wf = true) : ∃ k, laws_FnExactOnesIn.f k h b m = some true := by
  apply Ev.rounds (r := true)
  have key : Ev (fun k => (spec_OnesIn.f k h b m).bind fun bt126 => (impl_OnesIn.f k h b m).bind fun bt131 => if bt131.1 = bt126.1 then (if (bt131.2 != bt126.2) = true then some false else some true) else some false) true := by
    refine Ev.bind (spec_ones h b m) (Ev.bind (impl_ones h b m) ?_)
    simp; exact Ev.now _
  unfold laws_FnExactOnesIn.f laws_szFilter.f laws_toFilter.f
  simp only [Option.bind_some]
  split
  · simp; exact Ev.now _
  · simp only [Option.bind_some]; exact Ev.ite_ (fun _ => Ev.now _) (fun _ => key)

end Go.Proofs.Ytmakajlkphopbaa.Pure
