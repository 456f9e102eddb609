/-
  The plain statement of the law FnExactJoinFilters, proved: over numbers and lists alone. No condition beyond the given ones.
-/
import Derived.Test.YtmakajlkphopbaaMFnExactJoinFiltersx3
namespace Go.Proofs.Ytmakajlkphopbaa.Pure
open Go Go.RowKit Go.Proofs.Ytmakajlkphopbaa.MFnExactJoinFilters Go.Proofs.YtmakajlkphopbaaW.PrintWords Go.Proofs.YtmakajlkphopbaaW.PrintLast Go.Proofs.YtmakajlkphopbaaW.PrintMore
set_option linter.unusedVariables false
set_option linter.unusedSimpArgs false

-- part base: plain facts on Go's numbers and on rounds
theorem lt_mn {i a b : Int} : i < mn a b ↔ i < a ∧ i < b := by unfold mn; split <;> omega
theorem mn_le {a b : Int} : mn a b ≤ a ∧ mn a b ≤ b := by unfold mn; split <;> omega
theorem w64 {n : Int} (h0 : -9223372036854775808 ≤ n) (h1 : n ≤ 9223372036854775807) : wrap64 n = n := by unfold wrap64; omega
theorem wrap_u64 (n : Int) : IntKind.u64.wrap n = n % 18446744073709551616 := by simp [IntKind.wrap, IntKind.bits, IntKind.signed]
theorem wu64 {n : Int} (h0 : 0 ≤ n) (h1 : n ≤ 18446744073709551615) : IntKind.u64.wrap n = n := by rw [wrap_u64]; omega
theorem wu32 {n : Int} (h0 : 0 ≤ n) (h1 : n ≤ 4294967295) : IntKind.u32.wrap n = n := by rw [IntKind.wrap_u32]; omega
theorem wraps_u32 (n : Int) (h₀ : 0 ≤ n) (h₁ : n < 2 ^ 32) : IntKind.u32.wrap n = n := by rw [IntKind.wrap_u32]; omega
theorem wraps_i64 (n : Int) (h₀ : 0 ≤ n) (h₁ : n < 2 ^ 63) : IntKind.i64.wrap n = n := by rw [IntKind.wrap_i64]; omega
theorem and127 {b : Int} (h0 : 0 ≤ b) (h1 : b ≤ 255) : Go.bits .and .u8 b 127 = b % 128 := bits_mask .u8 8 (by decide) wraps_u8 7 (by decide) b h0 (by omega)
theorem wf_i64 {n : Int} (h : (Lit.int .i64 n).wf = true) : -9223372036854775808 ≤ n ∧ n ≤ 9223372036854775807 := by
  simp only [Lit.wf, Bool.and_eq_true, decide_eq_true_eq] at h
  exact h
theorem wf_u32 {n : Int} (h : (Lit.int .u32 n).wf = true) : 0 ≤ n ∧ n ≤ 4294967295 := by
  simp only [Lit.wf, Bool.and_eq_true, decide_eq_true_eq] at h
  exact h
theorem bits_or_comm (k : IntKind) (x y : Int) : Go.bits .or k x y = Go.bits .or k y x := by
  simp only [Go.bits, BitVec.or_comm]
theorem and127i {b : Int} (h0 : 0 ≤ b) (h1 : b ≤ 9223372036854775807) : Go.bits .and .i64 b 127 = b % 128 := bits_mask .i64 63 (by decide) wraps_i64 7 (by decide) b h0 (by omega)
theorem or128i {b : Int} (h0 : 0 ≤ b) (h1 : b < 128) : Go.bits .or .i64 b 128 = b + 128 := by
  rw [bits_or_comm, bits_join .i64 63 (by decide) wraps_i64 7 128 b (by omega) (by omega) (by omega) h0 (by omega) (by omega)]; omega
theorem Ev.ite_ {α : Type} {c : Prop} [Decidable c] {g f : Nat → Option α} {r : α} (h : c → Ev g r) (k : ¬c → Ev f r) : Ev (fun n => if c then g n else f n) r := by
  by_cases hc : c
  · simp only [if_pos hc]; exact h hc
  · simp only [if_neg hc]; exact k hc
theorem Ev.pos_ {α : Type} {c : Prop} [Decidable c] {g f : Nat → Option α} {r : α} (hc : c) (h : Ev g r) : Ev (fun n => if c then g n else f n) r := by simp only [if_pos hc]; exact h
theorem Ev.neg_ {α : Type} {c : Prop} [Decidable c] {g f : Nat → Option α} {r : α} (hc : ¬c) (h : Ev f r) : Ev (fun n => if c then g n else f n) r := by simp only [if_neg hc]; exact h
theorem Ev.some_ {α β : Type} {f : Nat → α → Option β} {x : α} {r : β} (h : Ev (fun n => f n x) r) : Ev (fun n => (some x).bind (f n)) r := by simpa only [Option.bind_some] using h
theorem bo_and (b c : Bool) : (if b = true then some c else some false) = some (b && c) := by cases b <;> rfl
theorem bo_andP (p : Prop) [Decidable p] (c : Bool) : (if p then some c else some false) = some (decide p && c) := by by_cases h : p <;> simp [h]
theorem bo_orP (p : Prop) [Decidable p] (c : Bool) : (if p then some true else some c) = some (decide p || c) := by by_cases h : p <;> simp [h]
theorem bo_or (b c : Bool) : (if b = true then some true else some c) = some (b || c) := by cases b <;> rfl
def inB (a lo hi : Int) : Bool := decide (lo ≤ a) && decide (a ≤ hi)
theorem inB_iff {a lo hi : Int} : inB a lo hi = true ↔ lo ≤ a ∧ a ≤ hi := by simp [inB]

-- part specIn needs spec_l1In.f
theorem spec_in (a lo hi : Int) : spec_l1In.f a lo hi = some (inB a lo hi) := by
  unfold spec_l1In.f inB; rw [bo_andP]

-- part implIn needs impl_in.f
theorem impl_in_ (a lo hi : Int) : impl_in.f a lo hi = some (inB a lo hi) := by
  unfold impl_in.f inB; rw [bo_andP]

-- part goodFilter needs spec_GoodFilter.f impl_GoodFilter.f
def goodFilterB (h : Int) (b : ByteArray) (m : Int) : Bool := inB h 1 8 && (decide ((b.size : Int) = 32) && inB m 0 1000000)
theorem spec_goodFilter (h : Int) (b : ByteArray) (m : Int) : spec_GoodFilter.f h b m = some (goodFilterB h b m) := by
  unfold spec_GoodFilter.f spec_l5Hashes.f goodFilterB
  simp only [spec_in, Option.bind_some, bo_andP, Bool.decide_eq_true]
theorem impl_goodFilter (h : Int) (b : ByteArray) (m : Int) : impl_GoodFilter.f h b m = some (goodFilterB h b m) := by
  unfold impl_GoodFilter.f impl_hashesOk.f goodFilterB
  simp only [impl_in_, Option.bind_some, bo_andP, Bool.decide_eq_true]

-- part joinM: filters are joined
def joinR (b : ByteArray) : Nat → Nat → List Int → List Int
  | 0, _, xs => xs
  | d + 1, i, xs => joinR b d (i + 1) (xs.set i (Go.bits .or .u8 (rd xs (i : Int)) (bt b (i : Int))))
def joinM (m n : Int) : Int := if m + n > 1000000 then 1000000 else m + n
def joinG (h : Int) (b : ByteArray) (m : Int) (g : Int) (c : ByteArray) (n : Int) : Bool := goodFilterB h b m && (goodFilterB g c n && !(h != g))
def joinV (h : Int) (b : ByteArray) (m : Int) (g : Int) (c : ByteArray) (n : Int) : Int × ByteArray × Int × Bool :=
  if joinG h b m g c n = true then (h, strOfNums (joinR c 32 0 (bytesOf b)), joinM m n, true) else (0, ⟨#[]⟩, 0, false)
theorem goodFilterB_parts {h : Int} {b : ByteArray} {m : Int} (g : goodFilterB h b m = true) : 1 ≤ h ∧ h ≤ 8 ∧ b.size = 32 ∧ 0 ≤ m ∧ m ≤ 1000000 := by
  unfold goodFilterB at g
  simp only [Bool.and_eq_true, inB_iff, decide_eq_true_eq] at g
  omega

-- part specJoin needs spec_JoinFilters.f
theorem spec_join_l (h : Int) (b : ByteArray) (m : Int) (g : Int) (c : ByteArray) (n : Int) (hm : 0 ≤ m ∧ m ≤ 1000000) (hn : 0 ≤ n ∧ n ≤ 1000000) (hc : c.size = 32) : ∀ (d i : Nat) (xs : List Int), i + d = 32 → xs.length = 32 →
    Ev (fun k => spec_JoinFilters.l0 k xs 32 i h b m g c n) (h, strOfNums (joinR c d i xs), joinM m n, true) := by
  intro d
  induction d with
  | zero =>
    intro i xs hi hx
    refine Ev.step (fun k => by rw [spec_JoinFilters.l0]) ?_
    unfold joinM joinR
    refine Ev.neg_ (by omega) ?_
    rw [w64 (n := m + n) (by omega) (by omega)]
    refine Ev.ite_ (fun hl => ?_) (fun hl => ?_)
    · rw [if_pos hl]; exact Ev.now _
    · rw [if_neg hl]; exact Ev.now _
  | succ d ih =>
    intro i xs hi hx
    refine Ev.step (fun k => by rw [spec_JoinFilters.l0]) ?_
    rw [w64 (n := (i : Int) + 1) (by omega) (by omega), Int.toNat_natCast]
    refine Ev.pos_ (by omega) (Ev.pos_ (by omega) (Ev.pos_ (by omega) (Ev.pos_ (by omega) ?_)))
    exact ih (i + 1) _ (by omega) (by simpa using hx)
theorem spec_join (h : Int) (b : ByteArray) (m : Int) (g : Int) (c : ByteArray) (n : Int) : Ev (fun k => spec_JoinFilters.f k h b m g c n) (joinV h b m g c n) := by
  unfold spec_JoinFilters.f joinV joinG
  simp only [spec_goodFilter, Option.bind_some]
  have no : Ev (fun k => spec_JoinFilters.j0 k true h b m g c n) (0, ⟨#[]⟩, 0, false) := by
    refine Ev.step (fun k => by rw [spec_JoinFilters.j0]) ?_
    exact Ev.pos_ rfl (Ev.now _)
  by_cases g1 : goodFilterB h b m = true
  · by_cases g2 : goodFilterB g c n = true
    · refine Ev.pos_ g1 (Ev.pos_ g2 ?_)
      have p1 := goodFilterB_parts g1
      have p2 := goodFilterB_parts g2
      by_cases e : (h != g) = true
      · rw [e]; simp only [g1, g2, Bool.not_true, Bool.and_false, Bool.false_eq_true, if_false]; exact no
      · simp only [Bool.not_eq_true] at e
        rw [e]
        simp only [g1, g2, Bool.not_false, Bool.and_true, if_true]
        refine Ev.step (fun k => by rw [spec_JoinFilters.j0]) ?_
        refine Ev.neg_ (by decide) (Ev.pos_ (by omega) (Ev.some_ ?_))
        rw [bytesOf_length, p1.2.2.1]
        exact spec_join_l h b m g c n (by omega) (by omega) p2.2.2.1 32 0 (bytesOf b) (by omega) (by rw [bytesOf_length]; exact p1.2.2.1)
    · refine Ev.pos_ g1 (Ev.neg_ g2 ?_)
      simp only [Bool.not_eq_true] at g2
      simp only [g2, Bool.false_and, Bool.and_false, Bool.false_eq_true, if_false]; exact no
  · refine Ev.neg_ g1 ?_
    simp only [Bool.not_eq_true] at g1
    simp only [g1, Bool.false_and, Bool.false_eq_true, if_false]; exact no

-- part implJoin needs impl_JoinFilters.f
theorem impl_join_l (h : Int) (b : ByteArray) (m : Int) (g : Int) (c : ByteArray) (n : Int) (hm : 0 ≤ m ∧ m ≤ 1000000) (hn : 0 ≤ n ∧ n ≤ 1000000) (hc : c.size = 32) : ∀ (d i : Nat) (xs : List Int), i + d = 32 → xs.length = 32 →
    Ev (fun k => impl_JoinFilters.l0 k xs 32 i h b m g c n) (h, strOfNums (joinR c d i xs), joinM m n, true) := by
  intro d
  induction d with
  | zero =>
    intro i xs hi hx
    refine Ev.step (fun k => by rw [impl_JoinFilters.l0]) ?_
    unfold joinM joinR
    refine Ev.neg_ (by omega) ?_
    rw [w64 (n := m + n) (by omega) (by omega)]
    have : mn (m + n) 1000000 = if m + n > 1000000 then 1000000 else m + n := by unfold mn; by_cases q : m + n < 1000000 <;> by_cases r : m + n > 1000000 <;> simp [q, r] <;> omega
    rw [this]; exact Ev.now _
  | succ d ih =>
    intro i xs hi hx
    refine Ev.step (fun k => by rw [impl_JoinFilters.l0]) ?_
    rw [w64 (n := (i : Int) + 1) (by omega) (by omega), Int.toNat_natCast]
    refine Ev.pos_ (by omega) (Ev.pos_ (by omega) (Ev.pos_ (by omega) (Ev.pos_ (by omega) ?_)))
    exact ih (i + 1) _ (by omega) (by simpa using hx)
theorem impl_join (h : Int) (b : ByteArray) (m : Int) (g : Int) (c : ByteArray) (n : Int) : Ev (fun k => impl_JoinFilters.f k h b m g c n) (joinV h b m g c n) := by
  unfold impl_JoinFilters.f joinV joinG
  simp only [impl_goodFilter, Option.bind_some]
  have no : Ev (fun k => impl_JoinFilters.j0 k true h b m g c n) (0, ⟨#[]⟩, 0, false) := by
    refine Ev.step (fun k => by rw [impl_JoinFilters.j0]) ?_
    exact Ev.pos_ rfl (Ev.now _)
  by_cases g1 : goodFilterB h b m = true
  · by_cases g2 : goodFilterB g c n = true
    · refine Ev.pos_ g1 (Ev.pos_ g2 ?_)
      have p1 := goodFilterB_parts g1
      have p2 := goodFilterB_parts g2
      by_cases e : (h != g) = true
      · rw [e]; simp only [g1, g2, Bool.not_true, Bool.and_false, Bool.false_eq_true, if_false]; exact no
      · simp only [Bool.not_eq_true] at e
        rw [e]
        simp only [g1, g2, Bool.not_false, Bool.and_true, if_true]
        refine Ev.step (fun k => by rw [impl_JoinFilters.j0]) ?_
        refine Ev.neg_ (by decide) (Ev.pos_ (by omega) (Ev.some_ ?_))
        rw [bytesOf_length, p1.2.2.1]
        exact impl_join_l h b m g c n (by omega) (by omega) p2.2.2.1 32 0 (bytesOf b) (by omega) (by rw [bytesOf_length]; exact p1.2.2.1)
    · refine Ev.pos_ g1 (Ev.neg_ g2 ?_)
      simp only [Bool.not_eq_true] at g2
      simp only [g2, Bool.false_and, Bool.and_false, Bool.false_eq_true, if_false]; exact no
  · refine Ev.neg_ g1 ?_
    simp only [Bool.not_eq_true] at g1
    simp only [g1, Bool.false_and, Bool.false_eq_true, if_false]; exact no

theorem szFilter_some (h : Int) (b : ByteArray) (m x : Int) : ∃ r, laws_szFilter.f h b m x = some r := by
  unfold laws_szFilter.f; split; exact ⟨_, rfl⟩; exact ⟨_, rfl⟩
theorem FnExactJoinFilters (h : Int) (b : ByteArray) (m : Int) (g : Int) (c : ByteArray) (n : Int) (_ : (Lit.int .i64 h).wf = true ∧ b.size ≤ 140737488351232 ∧ (Lit.int .i64 m).wf = true) (_ : (Lit.int .i64 g).wf = true ∧ c.size ≤ 140737488351232 ∧ (Lit.int .i64 n).wf = true) : ∃ k, laws_FnExactJoinFilters.f k h b m g c n = some true := by
  apply Ev.rounds (r := true)
  have eqF : ∀ x y z, laws_eqFilter.f x y z x y z = some true := fun x y z => by unfold laws_eqFilter.f; rw [if_pos rfl, if_pos rfl, if_pos rfl]
  obtain ⟨r1, e1⟩ := szFilter_some h b m 1048576
  obtain ⟨r2, e2⟩ := szFilter_some g c n r1
  unfold laws_FnExactJoinFilters.f laws_toFilter.f
  rw [e1]
  refine Ev.some_ (Ev.ite_ (fun _ => Ev.now _) (fun _ => ?_))
  rw [e2]
  refine Ev.some_ (Ev.ite_ (fun _ => Ev.now _) (fun _ => Ev.some_ (Ev.some_ (Ev.bind (spec_join h b m g c n) (Ev.some_ (Ev.some_ (Ev.bind (impl_join h b m g c n) ?_)))))))
  rw [eqF]
  refine Ev.some_ (Ev.pos_ rfl ?_)
  simp only [bne_self_eq_false]
  refine Ev.step (fun k => by rw [laws_FnExactJoinFilters.j0]) ?_
  exact Ev.neg_ (by decide) (Ev.now _)

end Go.Proofs.Ytmakajlkphopbaa.Pure
