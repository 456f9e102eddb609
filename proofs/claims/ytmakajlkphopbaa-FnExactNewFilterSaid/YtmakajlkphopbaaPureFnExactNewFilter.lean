/-
  The plain statement of the law FnExactNewFilter, proved: over numbers and lists alone. No condition beyond the given ones.
-/
import Derived.Test.YtmakajlkphopbaaMFnExactNewFilterx1
namespace Go.Proofs.Ytmakajlkphopbaa.Pure
open Go Go.RowKit Go.Proofs.Ytmakajlkphopbaa.MFnExactNewFilter Go.Proofs.YtmakajlkphopbaaW.PrintWords Go.Proofs.YtmakajlkphopbaaW.PrintLast Go.Proofs.YtmakajlkphopbaaW.PrintMore
set_option linter.unusedVariables false
set_option linter.unusedSimpArgs false

-- part base: plain facts on Go's numbers and on rounds
theorem lt_mn {i a b : Int} : i < mn a b ↔ i < a ∧ i < b := by unfold mn; split <;> omega
theorem mn_le {a b : Int} : mn a b ≤ a ∧ mn a b ≤ b := by unfold mn; split <;> omega
theorem w64 {n : Int} (h0 : -9223372036854775808 ≤ n) (h1 : n ≤ 9223372036854775807) : wrap64 n = n := by unfold wrap64; omega
theorem wrap_u64 (n : Int) : IntKind.u64.wrap n = n % 18446744073709551616 := by simp [IntKind.wrap, IntKind.bits, IntKind.signed]
theorem wu64 {n : Int} (h0 : 0 ≤ n) (h1 : n ≤ 18446744073709551615) : IntKind.u64.wrap n = n := by rw [wrap_u64]; omega
theorem wu32 {n : Int} (h0 : 0 ≤ n) (h1 : n ≤ 4294967295) : IntKind.u32.wrap n = n := by rw [IntKind.wrap_u32]; omega
theorem wraps_u32 (n : Int) (h₀ : 0 ≤ n) (h₁ : n < 2 ^ 32) : IntKind.u32.wrap n = n := by rw [IntKind.wrap_u32]; omega
theorem wraps_i64 (n : Int) (h₀ : 0 ≤ n) (h₁ : n < 2 ^ 63) : IntKind.i64.wrap n = n := by rw [IntKind.wrap_i64]; omega
theorem and127 {b : Int} (h0 : 0 ≤ b) (h1 : b ≤ 255) : Go.bits .and .u8 b 127 = b % 128 := bits_mask .u8 8 (by decide) wraps_u8 7 (by decide) b h0 (by omega)
theorem wf_i64 {n : Int} (h : (Lit.int .i64 n).wf = true) : -9223372036854775808 ≤ n ∧ n ≤ 9223372036854775807 := by
  simp only [Lit.wf, Bool.and_eq_true, decide_eq_true_eq] at h
  exact h
theorem wf_u32 {n : Int} (h : (Lit.int .u32 n).wf = true) : 0 ≤ n ∧ n ≤ 4294967295 := by
  simp only [Lit.wf, Bool.and_eq_true, decide_eq_true_eq] at h
  exact h
theorem bits_or_comm (k : IntKind) (x y : Int) : Go.bits .or k x y = Go.bits .or k y x := by
  simp only [Go.bits, BitVec.or_comm]
theorem and127i {b : Int} (h0 : 0 ≤ b) (h1 : b ≤ 9223372036854775807) : Go.bits .and .i64 b 127 = b % 128 := bits_mask .i64 63 (by decide) wraps_i64 7 (by decide) b h0 (by omega)
theorem or128i {b : Int} (h0 : 0 ≤ b) (h1 : b < 128) : Go.bits .or .i64 b 128 = b + 128 := by
  rw [bits_or_comm, bits_join .i64 63 (by decide) wraps_i64 7 128 b (by omega) (by omega) (by omega) h0 (by omega) (by omega)]; omega
theorem Ev.ite_ {α : Type} {c : Prop} [Decidable c] {g f : Nat → Option α} {r : α} (h : c → Ev g r) (k : ¬c → Ev f r) : Ev (fun n => if c then g n else f n) r := by
  by_cases hc : c
  · simp only [if_pos hc]; exact h hc
  · simp only [if_neg hc]; exact k hc
theorem Ev.pos_ {α : Type} {c : Prop} [Decidable c] {g f : Nat → Option α} {r : α} (hc : c) (h : Ev g r) : Ev (fun n => if c then g n else f n) r := by simp only [if_pos hc]; exact h
theorem Ev.neg_ {α : Type} {c : Prop} [Decidable c] {g f : Nat → Option α} {r : α} (hc : ¬c) (h : Ev f r) : Ev (fun n => if c then g n else f n) r := by simp only [if_neg hc]; exact h
theorem Ev.some_ {α β : Type} {f : Nat → α → Option β} {x : α} {r : β} (h : Ev (fun n => f n x) r) : Ev (fun n => (some x).bind (f n)) r := by simpa only [Option.bind_some] using h
theorem bo_and (b c : Bool) : (if b = true then some c else some false) = some (b && c) := by cases b <;> rfl
theorem bo_andP (p : Prop) [Decidable p] (c : Bool) : (if p then some c else some false) = some (decide p && c) := by by_cases h : p <;> simp [h]
theorem bo_orP (p : Prop) [Decidable p] (c : Bool) : (if p then some true else some c) = some (decide p || c) := by by_cases h : p <;> simp [h]
theorem bo_or (b c : Bool) : (if b = true then some true else some c) = some (b || c) := by cases b <;> rfl
def inB (a lo hi : Int) : Bool := decide (lo ≤ a) && decide (a ≤ hi)
theorem inB_iff {a lo hi : Int} : inB a lo hi = true ↔ lo ≤ a ∧ a ≤ hi := by simp [inB]

-- part specIn needs spec_l1In.f
theorem spec_in (a lo hi : Int) : spec_l1In.f a lo hi = some (inB a lo hi) := by
  unfold spec_l1In.f inB; rw [bo_andP]

-- part implIn needs impl_in.f
theorem impl_in_ (a lo hi : Int) : impl_in.f a lo hi = some (inB a lo hi) := by
  unfold impl_in.f inB; rw [bo_andP]

-- part goodFilterD: a good filter
def goodFilterB (h : Int) (b : ByteArray) (m : Int) : Bool := inB h 1 8 && (decide ((b.size : Int) = 32) && inB m 0 1000000)

-- part sumM: the table of sums and the sum of a text
def crcStep (n : Int) : Int := if Go.bits .and .u32 n 1 = 1 then Go.bits .xor .u32 (n / 2) 2197175160 else n / 2
def crcIt : Nat → Int → Int
  | 0, n => n
  | d + 1, n => crcIt d (crcStep n)
def crcE (i : Nat) : Int := crcIt 8 (i : Int)
def crcT : List Int := (List.range 256).map crcE
theorem crcT_len : crcT.length = 256 := by simp [crcT]
theorem xor_comm_ (k : IntKind) (x y : Int) : Go.bits .xor k x y = Go.bits .xor k y x := by simp only [Go.bits, BitVec.xor_comm]
theorem bits_u8 (op : BinOp) (x y : Int) : 0 ≤ Go.bits op .u8 x y ∧ Go.bits op .u8 x y < 256 := by
  unfold Go.bits; rw [IntKind.wrap_u8]; exact ⟨Int.emod_nonneg _ (by decide), Int.emod_lt_of_pos _ (by decide)⟩
theorem bits_u32 (op : BinOp) (x y : Int) : 0 ≤ Go.bits op .u32 x y ∧ Go.bits op .u32 x y < 4294967296 := by
  unfold Go.bits; rw [IntKind.wrap_u32]; exact ⟨Int.emod_nonneg _ (by decide), Int.emod_lt_of_pos _ (by decide)⟩
def sumR (s : ByteArray) : Nat → Nat → Int → Int
  | 0, _, x => x
  | d + 1, i, x => sumR s d (i + 1) (Go.bits .xor .u32 (x / 256) (rd crcT (Go.bits .xor .u8 (x % 256) (bt s i))))
def sumOnV (x : Int) (s : ByteArray) : Int := sumR s s.size 0 x
def sumV (s : ByteArray) : Int := Go.bits .xor .u32 4294967295 (sumOnV 4294967295 s)
theorem sumV_range (s : ByteArray) : 0 ≤ sumV s ∧ sumV s < 4294967296 := bits_u32 _ _ _

-- part placesM: the places of a key
def placesR (b : Int) : Nat → Int → List Int
  | 0, _ => []
  | d + 1, a => (a % 256) :: placesR b d ((a + b) % 4294967296)
def placesV (key : ByteArray) (h : Int) : List Int := placesR (Go.bits .or .u32 (sumOnV 0 key) 1) h.toNat (sumV key)
theorem placesR_len (b : Int) : ∀ (d : Nat) (a : Int), (placesR b d a).length = d := by
  intro d; induction d with
  | zero => intro a; rfl
  | succ d ih => intro a; simp [placesR, ih]
theorem placesR_mem (b : Int) : ∀ (d : Nat) (a x : Int), x ∈ placesR b d a → 0 ≤ x ∧ x < 256 := by
  intro d; induction d with
  | zero => intro a x h; cases h
  | succ d ih =>
    intro a x h
    rcases List.mem_cons.1 h with rfl | h
    · omega
    · exact ih _ _ h
theorem placesV_len (key : ByteArray) {h : Int} (h0 : 0 ≤ h) : ((placesV key h).length : Int) = h := by unfold placesV; rw [placesR_len]; omega

-- part addM: bits are set
def addBit (xs : List Int) (p : Int) : List Int := xs.set (p / 8).toNat (Go.bits .or .u8 (rd xs (p / 8)) (shl .u8 1 (p % 8)))
def addAll (xs ps : List Int) : List Int := ps.foldl addBit xs
theorem addBit_len (xs : List Int) (p : Int) : (addBit xs p).length = xs.length := by unfold addBit; simp
theorem addAll_len (ps : List Int) : ∀ xs : List Int, (addAll xs ps).length = xs.length := by
  induction ps with
  | nil => intro xs; rfl
  | cons p ps ih => intro xs; show (addAll (addBit xs p) ps).length = _; rw [ih, addBit_len]
theorem addAll_drop (xs ps : List Int) (i : Nat) (h : i < ps.length) : addAll xs (ps.drop i) = addAll (addBit xs (rd ps (i : Int))) (ps.drop (i + 1)) := by
  rw [List.drop_eq_getElem_cons h]
  unfold rd
  rw [List.getD_eq_getElem?_getD, Int.toNat_natCast, List.getElem?_eq_getElem h]; rfl
def addV (h : Int) (b : ByteArray) (m : Int) (key : ByteArray) : Int × ByteArray × Int := (h, strOfNums (addAll (bytesOf b) (placesV key h)), if m < 1000000 then m + 1 else m)
theorem placesV_rd (key : ByteArray) (h : Int) (i : Nat) (hi : i < (placesV key h).length) : 0 ≤ rd (placesV key h) (i : Int) ∧ rd (placesV key h) (i : Int) < 256 := by
  unfold rd
  rw [List.getD_eq_getElem?_getD, Int.toNat_natCast, List.getElem?_eq_getElem hi]
  exact placesR_mem _ _ _ _ (List.getElem_mem hi)
theorem goodFilterB_iff {h : Int} {b : ByteArray} {m : Int} (g : goodFilterB h b m = true) : 1 ≤ h ∧ h ≤ 8 ∧ b.size = 32 ∧ 0 ≤ m ∧ m ≤ 1000000 := by
  unfold goodFilterB at g
  simp only [Bool.and_eq_true, inB_iff, decide_eq_true_eq] at g
  omega

-- part newM: a new filter
def newV (h : Int) : Int × ByteArray × Int × Bool := if inB h 1 8 = true then (h, strOfNums (List.replicate 32 0), 0, true) else (0, ⟨#[]⟩, 0, false)
theorem newV_good {h : Int} (g : inB h 1 8 = true) : goodFilterB h (strOfNums (List.replicate 32 0)) 0 = true := by
  unfold goodFilterB
  rw [strOfNums_size, g]; rfl
theorem addV_good {h : Int} {b : ByteArray} {m : Int} (key : ByteArray) (g : goodFilterB h b m = true) : goodFilterB (addV h b m key).1 (addV h b m key).2.1 (addV h b m key).2.2 = true := by
  have hh := goodFilterB_iff g
  unfold addV goodFilterB
  rw [strOfNums_size, addAll_len, bytesOf_length]
  have h1 : inB h 1 8 = true := by rw [inB_iff]; omega
  have h2 : inB (if m < 1000000 then m + 1 else m) 0 1000000 = true := by rw [inB_iff]; split <;> omega
  dsimp only
  rw [h1, h2, hh.2.2.1]; rfl

-- part specNew needs spec_NewFilter.f
theorem spec_new (h : Int) : spec_NewFilter.f h = some (newV h) := by
  unfold spec_NewFilter.f spec_l5Hashes.f newV
  simp only [spec_in, Option.bind_some]
  by_cases g : inB h 1 8 = true
  · rw [if_pos g, if_pos (by decide), if_pos g]
  · rw [if_neg g, if_neg g]

-- part implNew needs impl_NewFilter.f
theorem repeat32 : strings_Repeat.f (⟨#[0]⟩ : ByteArray) 32 = some (strOfNums (List.replicate 32 0)) := by
  unfold strings_Repeat.f
  rw [if_pos (by refine ⟨by decide, by decide, ?_⟩; show 1 * 32 ≤ _; decide)]
  rfl
theorem impl_new (h : Int) : impl_NewFilter.f h = some (newV h) := by
  unfold impl_NewFilter.f impl_hashesOk.f newV
  simp only [impl_in_, Option.bind_some, repeat32]
  by_cases g : inB h 1 8 = true
  · rw [if_pos g, if_pos g]
  · rw [if_neg g, if_neg g]

theorem FnExactNewFilter (h : Int) (_ : (Lit.int .i64 h).wf = true) : laws_FnExactNewFilter.f h = some true := by
  have eqF : ∀ x y z, laws_eqFilter.f x y z x y z = some true := fun x y z => by unfold laws_eqFilter.f; rw [if_pos rfl, if_pos rfl, if_pos rfl]
  unfold laws_FnExactNewFilter.f
  simp only [spec_new, impl_new, Option.bind_some, eqF, if_true]
  rw [if_neg (by simp)]

end Go.Proofs.Ytmakajlkphopbaa.Pure
