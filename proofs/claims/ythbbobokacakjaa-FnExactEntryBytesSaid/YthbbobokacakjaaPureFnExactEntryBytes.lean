/-
  The plain statement of the law FnExactEntryBytes, proved: over numbers and lists alone. No condition beyond the given ones.
-/
import Derived.Test.YthbbobokacakjaaMFnExactEntryBytesx2
namespace Go.Proofs.Ythbbobokacakjaa.Pure
open Go Go.RowKit Go.Proofs.Ythbbobokacakjaa.MFnExactEntryBytes Go.Proofs.YthbbobokacakjaaW.PrintWords Go.Proofs.YthbbobokacakjaaW.PrintLast Go.Proofs.YthbbobokacakjaaW.PrintMore
set_option linter.unusedVariables false
set_option linter.unusedSimpArgs false

-- part base: plain facts on Go's numbers and on rounds
theorem lt_mn {i a b : Int} : i < mn a b ↔ i < a ∧ i < b := by unfold mn; split <;> omega
theorem mn_le {a b : Int} : mn a b ≤ a ∧ mn a b ≤ b := by unfold mn; split <;> omega
theorem w64 {n : Int} (h0 : -9223372036854775808 ≤ n) (h1 : n ≤ 9223372036854775807) : wrap64 n = n := by unfold wrap64; omega
theorem wrap_u64 (n : Int) : IntKind.u64.wrap n = n % 18446744073709551616 := by simp [IntKind.wrap, IntKind.bits, IntKind.signed]
theorem wu64 {n : Int} (h0 : 0 ≤ n) (h1 : n ≤ 18446744073709551615) : IntKind.u64.wrap n = n := by rw [wrap_u64]; omega
theorem wu32 {n : Int} (h0 : 0 ≤ n) (h1 : n ≤ 4294967295) : IntKind.u32.wrap n = n := by rw [IntKind.wrap_u32]; omega
theorem wraps_u32 (n : Int) (h₀ : 0 ≤ n) (h₁ : n < 2 ^ 32) : IntKind.u32.wrap n = n := by rw [IntKind.wrap_u32]; omega
theorem wraps_i64 (n : Int) (h₀ : 0 ≤ n) (h₁ : n < 2 ^ 63) : IntKind.i64.wrap n = n := by rw [IntKind.wrap_i64]; omega
theorem and127 {b : Int} (h0 : 0 ≤ b) (h1 : b ≤ 255) : Go.bits .and .u8 b 127 = b % 128 := bits_mask .u8 8 (by decide) wraps_u8 7 (by decide) b h0 (by omega)
theorem wf_i64 {n : Int} (h : (Lit.int .i64 n).wf = true) : -9223372036854775808 ≤ n ∧ n ≤ 9223372036854775807 := by
  simp only [Lit.wf, Bool.and_eq_true, decide_eq_true_eq] at h
  exact h
theorem wf_u32 {n : Int} (h : (Lit.int .u32 n).wf = true) : 0 ≤ n ∧ n ≤ 4294967295 := by
  simp only [Lit.wf, Bool.and_eq_true, decide_eq_true_eq] at h
  exact h
theorem bits_or_comm (k : IntKind) (x y : Int) : Go.bits .or k x y = Go.bits .or k y x := by
  simp only [Go.bits, BitVec.or_comm]
theorem and127i {b : Int} (h0 : 0 ≤ b) (h1 : b ≤ 9223372036854775807) : Go.bits .and .i64 b 127 = b % 128 := bits_mask .i64 63 (by decide) wraps_i64 7 (by decide) b h0 (by omega)
theorem or128i {b : Int} (h0 : 0 ≤ b) (h1 : b < 128) : Go.bits .or .i64 b 128 = b + 128 := by
  rw [bits_or_comm, bits_join .i64 63 (by decide) wraps_i64 7 128 b (by omega) (by omega) (by omega) h0 (by omega) (by omega)]; omega
theorem Ev.ite_ {α : Type} {c : Prop} [Decidable c] {g f : Nat → Option α} {r : α} (h : c → Ev g r) (k : ¬c → Ev f r) : Ev (fun n => if c then g n else f n) r := by
  by_cases hc : c
  · simp only [if_pos hc]; exact h hc
  · simp only [if_neg hc]; exact k hc
theorem Ev.pos_ {α : Type} {c : Prop} [Decidable c] {g f : Nat → Option α} {r : α} (hc : c) (h : Ev g r) : Ev (fun n => if c then g n else f n) r := by simp only [if_pos hc]; exact h
theorem Ev.neg_ {α : Type} {c : Prop} [Decidable c] {g f : Nat → Option α} {r : α} (hc : ¬c) (h : Ev f r) : Ev (fun n => if c then g n else f n) r := by simp only [if_neg hc]; exact h
theorem Ev.some_ {α β : Type} {f : Nat → α → Option β} {x : α} {r : β} (h : Ev (fun n => f n x) r) : Ev (fun n => (some x).bind (f n)) r := by simpa only [Option.bind_some] using h
theorem bo_and (b c : Bool) : (if b = true then some c else some false) = some (b && c) := by cases b <;> rfl
theorem bo_andP (p : Prop) [Decidable p] (c : Bool) : (if p then some c else some false) = some (decide p && c) := by by_cases h : p <;> simp [h]
theorem bo_orP (p : Prop) [Decidable p] (c : Bool) : (if p then some true else some c) = some (decide p || c) := by by_cases h : p <;> simp [h]
theorem bo_or (b c : Bool) : (if b = true then some true else some c) = some (b || c) := by cases b <;> rfl
def inB (a lo hi : Int) : Bool := decide (lo ≤ a) && decide (a ≤ hi)
theorem inB_iff {a lo hi : Int} : inB a lo hi = true ↔ lo ≤ a ∧ a ≤ hi := by simp [inB]

-- part varM: a number's bytes, as a list of numbers
def varL : Nat → Int → List Int
  | 0, x => [x]
  | d + 1, x => if x ≥ 128 then (x % 128 + 128) :: varL d (x / 128) else [x]
def varB (x : Int) : ByteArray := strOfNums (varL 8 x)
theorem varL_len (d : Nat) : ∀ x : Int, 1 ≤ (varL d x).length ∧ (varL d x).length ≤ d + 1 := by
  induction d with
  | zero => intro x; simp [varL]
  | succ d ih =>
    intro x
    unfold varL
    split
    · have := ih (x / 128); simp only [List.length_cons]; omega
    · simp
theorem varB_size (x : Int) : 1 ≤ (varB x).size ∧ (varB x).size ≤ 9 := by
  have := varL_len 8 x; unfold varB; rw [strOfNums_size]; exact this

-- part specVar needs spec_l2Var.f
theorem spec_var_l (d : Nat) : ∀ (x : Int) (acc : List Int), 0 ≤ x → x < 128 ^ (d + 1) → x ≤ 9223372036854775807 → acc.length + d < 1000 →
    Ev (fun k => spec_l2Var.l0 k x acc) (strOfNums (acc ++ varL d x)) := by
  induction d with
  | zero =>
    intro x acc h0 h1 hx ha
    refine Ev.step (f := fun _ => some (strOfNums (acc ++ varL 0 x))) (fun k => ?_) (Ev.now _)
    simp only [spec_l2Var.l0]
    rw [if_neg (by omega), if_pos (by omega), Int.emod_eq_of_lt h0 (by omega)]; rfl
  | succ d ih =>
    intro x acc h0 h1 hx ha
    by_cases hb : x ≥ 128
    · have := ih (x / 128) (acc ++ [x % 128 + 128]) (by omega) (by rw [Int.pow_succ] at h1; omega) (by omega) (by simp; omega)
      have e : acc ++ varL (d + 1) x = acc ++ [x % 128 + 128] ++ varL d (x / 128) := by simp [varL, hb]
      rw [e]
      refine Ev.step (fun k => ?_) this
      simp only [spec_l2Var.l0]
      rw [if_pos (by omega), if_pos (by omega), and127i h0 hx, or128i (by omega) (by omega), Int.emod_eq_of_lt (by omega) (by omega)]
    · refine Ev.step (f := fun _ => some (strOfNums (acc ++ varL (d + 1) x))) (fun k => ?_) (Ev.now _)
      simp only [spec_l2Var.l0, varL]
      rw [if_neg (by omega), if_pos (by omega), if_neg (by omega), Int.emod_eq_of_lt h0 (by omega)]
theorem spec_var {x : Int} (h0 : 0 ≤ x) (hx : x ≤ 9223372036854775807) : Ev (fun k => spec_l2Var.f k x) (varB x) :=
  spec_var_l 8 x [] h0 (by omega) hx (by simp)

-- part implVar needs impl_varBytes.f
theorem impl_var_l (d : Nat) : ∀ (x : Int) (acc : List Int), 0 ≤ x → x < 128 ^ (d + 1) → x ≤ 9223372036854775807 → acc.length + d < 1000 →
    Ev (fun k => impl_varBytes.l0 k x acc) (strOfNums (acc ++ varL d x)) := by
  induction d with
  | zero =>
    intro x acc h0 h1 hx ha
    refine Ev.step (f := fun _ => some (strOfNums (acc ++ varL 0 x))) (fun k => ?_) (Ev.now _)
    simp only [impl_varBytes.l0]
    rw [if_neg (by omega), if_pos (by omega), Int.emod_eq_of_lt h0 (by omega)]; rfl
  | succ d ih =>
    intro x acc h0 h1 hx ha
    by_cases hb : x ≥ 128
    · have := ih (x / 128) (acc ++ [x % 128 + 128]) (by omega) (by rw [Int.pow_succ] at h1; omega) (by omega) (by simp; omega)
      have e : acc ++ varL (d + 1) x = acc ++ [x % 128 + 128] ++ varL d (x / 128) := by simp [varL, hb]
      rw [e]
      refine Ev.step (fun k => ?_) this
      simp only [impl_varBytes.l0]
      rw [if_pos (by omega), if_pos (by omega), Int.tdiv_eq_ediv_of_nonneg h0, Int.tmod_eq_emod_of_nonneg h0, w64 (by omega) (by omega)]
      rw [show (x % 128 + 128) % 256 = x % 128 + 128 by omega]
    · refine Ev.step (f := fun _ => some (strOfNums (acc ++ varL (d + 1) x))) (fun k => ?_) (Ev.now _)
      simp only [impl_varBytes.l0, varL]
      rw [if_neg (by omega), if_pos (by omega), if_neg (by omega), Int.emod_eq_of_lt h0 (by omega)]
theorem impl_var {x : Int} (h0 : 0 ≤ x) (hx : x ≤ 9223372036854775807) : Ev (fun k => impl_varBytes.f k x) (varB x) :=
  impl_var_l 8 x [] h0 (by omega) hx (by simp)

-- part specIn needs spec_l1In.f
theorem spec_in (a lo hi : Int) : spec_l1In.f a lo hi = some (inB a lo hi) := by
  unfold spec_l1In.f inB; rw [bo_andP]

-- part implIn needs impl_in.f
theorem impl_in_ (a lo hi : Int) : impl_in.f a lo hi = some (inB a lo hi) := by
  unfold impl_in.f inB; rw [bo_andP]

-- part entryM
def entryB (t : Int) (d : ByteArray) : Bool := inB t 1 1000000 && decide ((d.size : Int) ≤ 100)
def entryV (i t : Int) (d : ByteArray) : ByteArray := (varB i ++ varB t) ++ d
theorem entryB_iff {t : Int} {d : ByteArray} : entryB t d = true ↔ 1 ≤ t ∧ t ≤ 1000000 ∧ d.size ≤ 100 := by
  unfold entryB inB; simp only [Bool.and_eq_true, decide_eq_true_eq]; omega

-- part specEntry needs spec_l3Entry.f
theorem spec_entry (t : Int) (d : ByteArray) : spec_l3Entry.f t d = some (entryB t d) := by
  unfold spec_l3Entry.f entryB
  simp only [spec_in, Option.bind_some, bo_and]

-- part implEntry needs impl_goodEntry.f
theorem impl_entry (t : Int) (d : ByteArray) : impl_goodEntry.f t d = some (entryB t d) := by
  unfold impl_goodEntry.f entryB
  simp only [impl_in_, Option.bind_some, bo_and]

-- part specEntryBytes needs spec_EntryBytes.f
theorem spec_entryBytes (i t : Int) (d : ByteArray) (hd : d.size ≤ 140737488351232) :
    Ev (fun k => spec_EntryBytes.f k i t d) (if inB i 1 2000000 = true ∧ entryB t d = true then (entryV i t d, true) else (⟨#[]⟩, false)) := by
  unfold spec_EntryBytes.f
  simp only [spec_in, spec_entry, Option.bind_some]
  by_cases h1 : inB i 1 2000000 = true
  · refine Ev.pos_ h1 ?_
    by_cases h2 : entryB t d = true
    · rw [if_pos ⟨h1, h2⟩]
      have hi := inB_iff.1 h1
      have he := entryB_iff.1 h2
      have v1 := varB_size i
      have v2 := varB_size t
      refine Ev.step (fun k => by rw [spec_EntryBytes.j0]) (Ev.neg_ (by simp [h2]) ?_)
      refine Ev.bind (spec_var (by omega) (by omega)) (Ev.bind (spec_var (by omega) (by omega)) ?_)
      exact Ev.pos_ (by omega) (Ev.pos_ (by omega) (Ev.now _))
    · rw [if_neg (fun h => h2 h.2)]
      exact Ev.step (fun k => by rw [spec_EntryBytes.j0]) (Ev.pos_ (by simp [h2]) (Ev.now _))
  · refine Ev.neg_ h1 ?_
    rw [if_neg (fun h => h1 h.1)]
    exact Ev.step (fun k => by rw [spec_EntryBytes.j0]) (Ev.pos_ rfl (Ev.now _))

-- part implEntryV needs impl_entryBytes.f
theorem impl_entryV (i t : Int) (d : ByteArray) (hi : 0 ≤ i) (hi' : i ≤ 9223372036854775807) (ht : 0 ≤ t) (ht' : t ≤ 9223372036854775807) (hd : d.size ≤ 140737488351232) : Ev (fun k => impl_entryBytes.f k i t d) (entryV i t d) := by
  unfold impl_entryBytes.f
  have v1 := varB_size i
  have v2 := varB_size t
  refine Ev.bind (impl_var (by omega) (by omega)) (Ev.bind (impl_var (by omega) (by omega)) ?_)
  exact Ev.pos_ (by omega) (Ev.pos_ (by omega) (Ev.now _))

-- part implEntryBytes needs impl_EntryBytes.f
theorem impl_entryBytes_ (i t : Int) (d : ByteArray) (hd : d.size ≤ 140737488351232) :
    Ev (fun k => impl_EntryBytes.f k i t d) (if inB i 1 2000000 = true ∧ entryB t d = true then (entryV i t d, true) else (⟨#[]⟩, false)) := by
  unfold impl_EntryBytes.f
  simp only [impl_in_, impl_entry, Option.bind_some]
  by_cases h1 : inB i 1 2000000 = true
  · refine Ev.pos_ h1 ?_
    by_cases h2 : entryB t d = true
    · rw [if_pos ⟨h1, h2⟩]
      have hi := inB_iff.1 h1
      have he := entryB_iff.1 h2
      refine Ev.pos_ h2 ?_
      exact Ev.bind (impl_entryV i t d (by omega) (by omega) (by omega) (by omega) hd) (Ev.now _)
    · rw [if_neg (fun h => h2 h.2)]
      exact Ev.neg_ h2 (Ev.now _)
  · refine Ev.neg_ h1 ?_
    rw [if_neg (fun h => h1 h.1)]
    exact Ev.now _

theorem FnExactEntryBytes (i t : Int) (d : ByteArray) (hi : (Lit.int .i64 i).wf = true) (he : (Lit.int .i64 t).wf = true ∧ d.size ≤ 140737488351232) : ∃ k, laws_FnExactEntryBytes.f k i t d = some true := by
  apply Ev.rounds (r := true)
  unfold laws_FnExactEntryBytes.f laws_szEntry.f laws_toEntry.f
  simp only [Option.bind_some]
  have key : Ev (fun k => (spec_EntryBytes.f k i t d).bind fun bt140 => (impl_EntryBytes.f k i t d).bind fun bt144 => if bt144.1.toList = bt140.1.toList then (if (bt144.2 != bt140.2) = true then some false else some true) else some false) true := by
    refine Ev.bind (spec_entryBytes i t d he.2) (Ev.bind (impl_entryBytes_ i t d he.2) ?_)
    simp; exact Ev.now _
  split
  · simp; exact Ev.now _
  · simp only [Option.bind_some]; exact Ev.ite_ (fun _ => Ev.now _) (fun _ => key)

end Go.Proofs.Ythbbobokacakjaa.Pure
