/-
  The plain statement of the law FnExactMayHave, proved: over numbers and lists alone. No condition beyond the given ones.
-/
import Derived.Test.YtmakajlkphopbaaMFnExactMayHavex3
namespace Go.Proofs.Ytmakajlkphopbaa.Pure
open Go Go.RowKit Go.Proofs.Ytmakajlkphopbaa.MFnExactMayHave Go.Proofs.YtmakajlkphopbaaW.PrintWords Go.Proofs.YtmakajlkphopbaaW.PrintLast Go.Proofs.YtmakajlkphopbaaW.PrintMore
set_option linter.unusedVariables false
set_option linter.unusedSimpArgs false

-- part base: plain facts on Go's numbers and on rounds
theorem lt_mn {i a b : Int} : i < mn a b ↔ i < a ∧ i < b := by unfold mn; split <;> omega
theorem mn_le {a b : Int} : mn a b ≤ a ∧ mn a b ≤ b := by unfold mn; split <;> omega
theorem w64 {n : Int} (h0 : -9223372036854775808 ≤ n) (h1 : n ≤ 9223372036854775807) : wrap64 n = n := by unfold wrap64; omega
theorem wrap_u64 (n : Int) : IntKind.u64.wrap n = n % 18446744073709551616 := by simp [IntKind.wrap, IntKind.bits, IntKind.signed]
theorem wu64 {n : Int} (h0 : 0 ≤ n) (h1 : n ≤ 18446744073709551615) : IntKind.u64.wrap n = n := by rw [wrap_u64]; omega
theorem wu32 {n : Int} (h0 : 0 ≤ n) (h1 : n ≤ 4294967295) : IntKind.u32.wrap n = n := by rw [IntKind.wrap_u32]; omega
theorem wraps_u32 (n : Int) (h₀ : 0 ≤ n) (h₁ : n < 2 ^ 32) : IntKind.u32.wrap n = n := by rw [IntKind.wrap_u32]; omega
theorem wraps_i64 (n : Int) (h₀ : 0 ≤ n) (h₁ : n < 2 ^ 63) : IntKind.i64.wrap n = n := by rw [IntKind.wrap_i64]; omega
theorem and127 {b : Int} (h0 : 0 ≤ b) (h1 : b ≤ 255) : Go.bits .and .u8 b 127 = b % 128 := bits_mask .u8 8 (by decide) wraps_u8 7 (by decide) b h0 (by omega)
theorem wf_i64 {n : Int} (h : (Lit.int .i64 n).wf = true) : -9223372036854775808 ≤ n ∧ n ≤ 9223372036854775807 := by
  simp only [Lit.wf, Bool.and_eq_true, decide_eq_true_eq] at h
  exact h
theorem wf_u32 {n : Int} (h : (Lit.int .u32 n).wf = true) : 0 ≤ n ∧ n ≤ 4294967295 := by
  simp only [Lit.wf, Bool.and_eq_true, decide_eq_true_eq] at h
  exact h
theorem bits_or_comm (k : IntKind) (x y : Int) : Go.bits .or k x y = Go.bits .or k y x := by
  simp only [Go.bits, BitVec.or_comm]
theorem and127i {b : Int} (h0 : 0 ≤ b) (h1 : b ≤ 9223372036854775807) : Go.bits .and .i64 b 127 = b % 128 := bits_mask .i64 63 (by decide) wraps_i64 7 (by decide) b h0 (by omega)
theorem or128i {b : Int} (h0 : 0 ≤ b) (h1 : b < 128) : Go.bits .or .i64 b 128 = b + 128 := by
  rw [bits_or_comm, bits_join .i64 63 (by decide) wraps_i64 7 128 b (by omega) (by omega) (by omega) h0 (by omega) (by omega)]; omega
theorem Ev.ite_ {α : Type} {c : Prop} [Decidable c] {g f : Nat → Option α} {r : α} (h : c → Ev g r) (k : ¬c → Ev f r) : Ev (fun n => if c then g n else f n) r := by
  by_cases hc : c
  · simp only [if_pos hc]; exact h hc
  · simp only [if_neg hc]; exact k hc
theorem Ev.pos_ {α : Type} {c : Prop} [Decidable c] {g f : Nat → Option α} {r : α} (hc : c) (h : Ev g r) : Ev (fun n => if c then g n else f n) r := by simp only [if_pos hc]; exact h
theorem Ev.neg_ {α : Type} {c : Prop} [Decidable c] {g f : Nat → Option α} {r : α} (hc : ¬c) (h : Ev f r) : Ev (fun n => if c then g n else f n) r := by simp only [if_neg hc]; exact h
theorem Ev.some_ {α β : Type} {f : Nat → α → Option β} {x : α} {r : β} (h : Ev (fun n => f n x) r) : Ev (fun n => (some x).bind (f n)) r := by simpa only [Option.bind_some] using h
theorem bo_and (b c : Bool) : (if b = true then some c else some false) = some (b && c) := by cases b <;> rfl
theorem bo_andP (p : Prop) [Decidable p] (c : Bool) : (if p then some c else some false) = some (decide p && c) := by by_cases h : p <;> simp [h]
theorem bo_orP (p : Prop) [Decidable p] (c : Bool) : (if p then some true else some c) = some (decide p || c) := by by_cases h : p <;> simp [h]
theorem bo_or (b c : Bool) : (if b = true then some true else some c) = some (b || c) := by cases b <;> rfl
def inB (a lo hi : Int) : Bool := decide (lo ≤ a) && decide (a ≤ hi)
theorem inB_iff {a lo hi : Int} : inB a lo hi = true ↔ lo ≤ a ∧ a ≤ hi := by simp [inB]

-- part specIn needs spec_l1In.f
theorem spec_in (a lo hi : Int) : spec_l1In.f a lo hi = some (inB a lo hi) := by
  unfold spec_l1In.f inB; rw [bo_andP]

-- part implIn needs impl_in.f
theorem impl_in_ (a lo hi : Int) : impl_in.f a lo hi = some (inB a lo hi) := by
  unfold impl_in.f inB; rw [bo_andP]

-- part goodFilter needs spec_GoodFilter.f impl_GoodFilter.f
def goodFilterB (h : Int) (b : ByteArray) (m : Int) : Bool := inB h 1 8 && (decide ((b.size : Int) = 32) && inB m 0 1000000)
theorem spec_goodFilter (h : Int) (b : ByteArray) (m : Int) : spec_GoodFilter.f h b m = some (goodFilterB h b m) := by
  unfold spec_GoodFilter.f spec_l5Hashes.f goodFilterB
  simp only [spec_in, Option.bind_some, bo_andP, Bool.decide_eq_true]
theorem impl_goodFilter (h : Int) (b : ByteArray) (m : Int) : impl_GoodFilter.f h b m = some (goodFilterB h b m) := by
  unfold impl_GoodFilter.f impl_hashesOk.f goodFilterB
  simp only [impl_in_, Option.bind_some, bo_andP, Bool.decide_eq_true]

-- part goodItem
def keyB (k : ByteArray) : Bool := inB (k.size : Int) 1 16
def seqB (q : Int) : Bool := inB q 0 1000000000
def goodItemB (k : ByteArray) (q d : Int) (v : ByteArray) : Bool := keyB k && (seqB q && (inB d 0 1 && (decide ((v.size : Int) ≤ 40) && (decide (d = 1) || (v.toList == ([] : List UInt8))))))

-- part specKey needs spec_l4Key.f
theorem spec_key (k : ByteArray) : spec_l4Key.f k = some (keyB k) := by unfold spec_l4Key.f keyB; rw [spec_in]; rfl

-- part implKey needs impl_isKey.f
theorem impl_key (k : ByteArray) : impl_isKey.f k = some (keyB k) := by unfold impl_isKey.f keyB; rw [impl_in_]; rfl

-- part sumM: the table of sums and the sum of a text
def crcStep (n : Int) : Int := if Go.bits .and .u32 n 1 = 1 then Go.bits .xor .u32 (n / 2) 2197175160 else n / 2
def crcIt : Nat → Int → Int
  | 0, n => n
  | d + 1, n => crcIt d (crcStep n)
def crcE (i : Nat) : Int := crcIt 8 (i : Int)
def crcT : List Int := (List.range 256).map crcE
theorem crcT_len : crcT.length = 256 := by simp [crcT]
theorem xor_comm_ (k : IntKind) (x y : Int) : Go.bits .xor k x y = Go.bits .xor k y x := by simp only [Go.bits, BitVec.xor_comm]
theorem bits_u8 (op : BinOp) (x y : Int) : 0 ≤ Go.bits op .u8 x y ∧ Go.bits op .u8 x y < 256 := by
  unfold Go.bits; rw [IntKind.wrap_u8]; exact ⟨Int.emod_nonneg _ (by decide), Int.emod_lt_of_pos _ (by decide)⟩
theorem bits_u32 (op : BinOp) (x y : Int) : 0 ≤ Go.bits op .u32 x y ∧ Go.bits op .u32 x y < 4294967296 := by
  unfold Go.bits; rw [IntKind.wrap_u32]; exact ⟨Int.emod_nonneg _ (by decide), Int.emod_lt_of_pos _ (by decide)⟩
def sumR (s : ByteArray) : Nat → Nat → Int → Int
  | 0, _, x => x
  | d + 1, i, x => sumR s d (i + 1) (Go.bits .xor .u32 (x / 256) (rd crcT (Go.bits .xor .u8 (x % 256) (bt s i))))
def sumOnV (x : Int) (s : ByteArray) : Int := sumR s s.size 0 x
def sumV (s : ByteArray) : Int := Go.bits .xor .u32 4294967295 (sumOnV 4294967295 s)
theorem sumV_range (s : ByteArray) : 0 ≤ sumV s ∧ sumV s < 4294967296 := bits_u32 _ _ _

-- part specTable needs spec_l2Table.f
theorem spec_table_in (d : Nat) : ∀ (T : List Int) (i x j y z : Int) (r : List Int), 0 ≤ j → j + d = 8 → 0 ≤ i → i < T.length →
    Ev (fun k => spec_l2Table.l0 k (T.set i.toNat (crcIt d x)) y (wrap64 (z + 1))) r → Ev (fun k => spec_l2Table.l1 k T i x j y z) r := by
  induction d with
  | zero =>
    intro T i x j y z r h0 hd hi hi' h
    refine Ev.step (fun k => ?_) h
    simp only [spec_l2Table.l1]
    rw [if_neg (by omega), if_pos hi, if_pos hi']; rfl
  | succ d ih =>
    intro T i x j y z r h0 hd hi hi' h
    refine Ev.step (fun k => ?_) (ih T i (crcStep x) (j + 1) y z r (by omega) (by omega) hi hi' h)
    simp only [spec_l2Table.l1]
    rw [if_pos (by omega), w64 (by omega) (by omega)]
    unfold crcStep
    split <;> rfl
theorem spec_table_l (d : Nat) : ∀ (i : Nat), i + d = 256 → Ev (fun k => spec_l2Table.l0 k ((List.range i).map crcE ++ List.replicate d 0) 256 i) crcT := by
  induction d with
  | zero =>
    intro i hi
    obtain rfl : i = 256 := by omega
    refine Ev.step (f := fun _ => some crcT) (fun k => ?_) (Ev.now _)
    simp only [spec_l2Table.l0]; rw [if_neg (by omega)]; simp [crcT]
  | succ d ih =>
    intro i hi
    have e : ((List.range i).map crcE ++ List.replicate (d + 1) 0).set (i : Int).toNat (crcE i) = (List.range (i + 1)).map crcE ++ List.replicate d 0 := by
      rw [Int.toNat_natCast, List.range_succ, List.map_append, List.set_append_right _ _ (by simp)]
      simp [List.replicate_succ]
    refine Ev.step (f := fun k => spec_l2Table.l1 k ((List.range i).map crcE ++ List.replicate (d + 1) 0) i i 0 256 i) (fun k => ?_) ?_
    · simp only [spec_l2Table.l0]; rw [if_pos (by omega), Int.emod_eq_of_lt (by omega) (by omega)]
    · refine spec_table_in 8 _ _ _ _ _ _ _ (by omega) rfl (by omega) (by simp; omega) ?_
      have := ih (i + 1) (by omega)
      rw [show crcIt 8 (i : Int) = crcE i from rfl, e, w64 (by omega) (by omega)]
      exact this
theorem spec_table : Ev (fun k => spec_l2Table.f k) crcT := by
  unfold spec_l2Table.f
  refine Ev.pos_ (by decide) ?_
  show Ev (fun k => spec_l2Table.l0 k (List.replicate 256 0) ((List.replicate 256 (0 : Int)).length : Int) 0) crcT
  rw [List.length_replicate]
  exact spec_table_l 256 0 rfl

-- part implTable needs impl_SumTable.f
theorem impl_table_in (d : Nat) : ∀ (T : List Int) (x z j : Int) (r : List Int), 0 ≤ j → j + d = 8 → T.length < 35184372088832 →
    Ev (fun k => impl_SumTable.l0 k (T ++ [crcIt d x]) ((z + 1) % 4294967296)) r → Ev (fun k => impl_SumTable.l1 k T x z j) r := by
  induction d with
  | zero =>
    intro T x z j r h0 hd hi h
    refine Ev.step (fun k => ?_) h
    simp only [impl_SumTable.l1]
    rw [if_neg (by omega), if_pos hi]; rfl
  | succ d ih =>
    intro T x z j r h0 hd hi h
    refine Ev.step (fun k => ?_) (ih T (crcStep x) z (j + 1) r (by omega) (by omega) hi h)
    simp only [impl_SumTable.l1]
    rw [if_pos (by omega), w64 (by omega) (by omega)]
    unfold crcStep
    split <;> rfl
theorem impl_table_l (d : Nat) : ∀ (i : Nat), i + d = 256 → Ev (fun k => impl_SumTable.l0 k ((List.range i).map crcE) i) crcT := by
  induction d with
  | zero =>
    intro i hi
    obtain rfl : i = 256 := by omega
    refine Ev.step (f := fun _ => some crcT) (fun k => ?_) (Ev.now _)
    simp only [impl_SumTable.l0]; rw [if_neg (by omega)]; rfl
  | succ d ih =>
    intro i hi
    refine Ev.step (f := fun k => impl_SumTable.l1 k ((List.range i).map crcE) i i 0) (fun k => ?_) ?_
    · simp only [impl_SumTable.l0]; rw [if_pos (by omega)]
    · refine impl_table_in 8 _ _ _ _ _ (by omega) rfl (by simp; omega) ?_
      have := ih (i + 1) (by omega)
      rw [Int.emod_eq_of_lt (by omega) (by omega)]
      rw [List.range_succ, List.map_append] at this
      exact this
theorem impl_table : Ev (fun k => impl_SumTable.f k) crcT := impl_table_l 256 0 rfl

-- part specOn needs spec_l2On.f
theorem spec_on_l (s : ByteArray) (hs : s.size ≤ 140737488351232) (d : Nat) : ∀ (i : Nat) (x : Int), i + d = s.size → Ev (fun k => spec_l2On.l0 k crcT x s i) (sumR s d i x) := by
  induction d with
  | zero =>
    intro i x hi
    refine Ev.step (f := fun _ => some x) (fun k => ?_) (Ev.now _)
    simp only [spec_l2On.l0]; rw [if_neg (by omega)]
  | succ d ih =>
    intro i x hi
    have hr := bits_u8 .xor (x % 256) (bt s i)
    refine Ev.step (fun k => ?_) (ih (i + 1) _ (by omega))
    simp only [spec_l2On.l0]
    rw [if_pos (by omega), if_pos (by omega), if_pos hr.1, if_pos (by rw [crcT_len]; exact hr.2), xor_comm_ .u32, w64 (by omega) (by omega)]; rfl
theorem spec_on (x : Int) (s : ByteArray) (hs : s.size ≤ 140737488351232) : Ev (fun k => spec_l2On.f k crcT x s) (sumOnV x s) := spec_on_l s hs _ 0 x (by omega)

-- part implOn needs impl_SumOn.f
theorem impl_on_l (s : ByteArray) (hs : s.size ≤ 140737488351232) (d : Nat) : ∀ (i : Nat) (x : Int), i + d = s.size → Ev (fun k => impl_SumOn.l0 k x s crcT (s.size : Int) i) (sumR s d i x) := by
  induction d with
  | zero =>
    intro i x hi
    refine Ev.step (f := fun _ => some x) (fun k => ?_) (Ev.now _)
    simp only [impl_SumOn.l0]; rw [if_neg (by omega)]
  | succ d ih =>
    intro i x hi
    have hr := bits_u8 .xor (x % 256) (bt s i)
    refine Ev.step (fun k => ?_) (ih (i + 1) _ (by omega))
    simp only [impl_SumOn.l0]
    rw [if_pos (by omega), if_pos (by omega), if_pos (by omega), if_pos hr.1, if_pos (by rw [crcT_len]; exact hr.2), w64 (by omega) (by omega)]; rfl
theorem impl_on (x : Int) (s : ByteArray) (hs : s.size ≤ 140737488351232) : Ev (fun k => impl_SumOn.f k x s) (sumOnV x s) :=
  Ev.bind impl_table (impl_on_l s hs _ 0 x (by omega))

-- part implSum needs impl_SumOf.f
theorem impl_sum (s : ByteArray) (hs : s.size ≤ 140737488351232) : Ev (fun k => impl_SumOf.f k s) (sumV s) :=
  Ev.bind (impl_on 4294967295 s hs) (Ev.now _)

-- part placesM: the places of a key
def placesR (b : Int) : Nat → Int → List Int
  | 0, _ => []
  | d + 1, a => (a % 256) :: placesR b d ((a + b) % 4294967296)
def placesV (key : ByteArray) (h : Int) : List Int := placesR (Go.bits .or .u32 (sumOnV 0 key) 1) h.toNat (sumV key)
theorem placesR_len (b : Int) : ∀ (d : Nat) (a : Int), (placesR b d a).length = d := by
  intro d; induction d with
  | zero => intro a; rfl
  | succ d ih => intro a; simp [placesR, ih]
theorem placesR_mem (b : Int) : ∀ (d : Nat) (a x : Int), x ∈ placesR b d a → 0 ≤ x ∧ x < 256 := by
  intro d; induction d with
  | zero => intro a x h; cases h
  | succ d ih =>
    intro a x h
    rcases List.mem_cons.1 h with rfl | h
    · omega
    · exact ih _ _ h
theorem placesV_len (key : ByteArray) {h : Int} (h0 : 0 ≤ h) : ((placesV key h).length : Int) = h := by unfold placesV; rw [placesR_len]; omega

-- part specPlaces needs spec_l5Places.f
theorem spec_places_l (h b : Int) (hh : h ≤ 8) : ∀ (d : Nat) (a : Int) (acc : List Int) (i : Int), 0 ≤ i → i + d = h → 0 ≤ a → acc.length + d ≤ 1000 → Ev (fun k => spec_l5Places.l0 k h a b acc i) (acc ++ placesR b d a) := by
  intro d
  induction d with
  | zero =>
    intro a acc i h0 hi ha hl
    refine Ev.step (f := fun _ => some acc) (fun k => ?_) (by simpa [placesR] using Ev.now _)
    simp only [spec_l5Places.l0]; rw [if_neg (by omega)]
  | succ d ih =>
    intro a acc i h0 hi ha hl
    have := ih ((a + b) % 4294967296) (acc ++ [a % 256]) (i + 1) (by omega) (by omega) (Int.emod_nonneg _ (by decide)) (by simp; omega)
    rw [List.append_assoc] at this
    refine Ev.step (fun k => ?_) this
    simp only [spec_l5Places.l0]
    rw [if_pos (by omega), if_pos (by omega), Int.tmod_eq_emod_of_nonneg ha, w64 (by omega) (by omega), w64 (by omega) (by omega)]
theorem spec_places (key : ByteArray) (h : Int) (h0 : 0 ≤ h) (hh : h ≤ 8) (hs : key.size ≤ 140737488351232) : Ev (fun k => spec_l5Places.f k key h) (placesV key h) := by
  unfold spec_l5Places.f
  refine Ev.bind spec_table (Ev.bind (spec_on 4294967295 key hs) (Ev.bind (spec_on 0 key hs) ?_))
  exact spec_places_l h _ hh h.toNat _ [] 0 (by omega) (by omega) (sumV_range key).1 (by simp; omega)

-- part implPlaces needs impl_places.f
theorem impl_places_l (h b : Int) (hh : h ≤ 8) : ∀ (d : Nat) (a : Int) (acc : List Int) (i : Int), 0 ≤ i → i + d = h → 0 ≤ a → acc.length + d ≤ 1000 → Ev (fun k => impl_places.l0 k a b acc h i) (acc ++ placesR b d a) := by
  intro d
  induction d with
  | zero =>
    intro a acc i h0 hi ha hl
    refine Ev.step (f := fun _ => some acc) (fun k => ?_) (by simpa [placesR] using Ev.now _)
    simp only [impl_places.l0]; rw [if_neg (by omega)]
  | succ d ih =>
    intro a acc i h0 hi ha hl
    have := ih ((a + b) % 4294967296) (acc ++ [a % 256]) (i + 1) (by omega) (by omega) (Int.emod_nonneg _ (by decide)) (by simp; omega)
    rw [List.append_assoc] at this
    refine Ev.step (fun k => ?_) this
    simp only [impl_places.l0]
    rw [if_pos (by omega), if_pos (by omega), Int.tmod_eq_emod_of_nonneg ha, w64 (by omega) (by omega), w64 (by omega) (by omega)]
theorem impl_places_ (key : ByteArray) (h : Int) (h0 : 0 ≤ h) (hh : h ≤ 8) (hs : key.size ≤ 140737488351232) : Ev (fun k => impl_places.f k key h) (placesV key h) := by
  unfold impl_places.f
  refine Ev.bind (impl_sum key hs) (Ev.bind (impl_on 0 key hs) ?_)
  exact impl_places_l h _ hh h.toNat _ [] 0 (by omega) (by omega) (sumV_range key).1 (by simp; omega)

-- part onesM: how many bits are set
def pop : Nat → Int → Int
  | 0, _ => 0
  | d + 1, x => x % 2 + pop d (x / 2)
theorem pop_zero : ∀ d, pop d 0 = 0 := by
  intro d; induction d with
  | zero => rfl
  | succ d ih => simp [pop, ih]
theorem pop_range : ∀ (d : Nat) (x : Int), 0 ≤ pop d x ∧ pop d x ≤ d := by
  intro d; induction d with
  | zero => intro x; simp [pop]
  | succ d ih => intro x; have := ih (x / 2); unfold pop; omega
def bitAt (s : ByteArray) (k : Nat) : Int := (bt s ((k / 8 : Nat) : Int) / 2 ^ (k % 8)) % 2
def countR (s : ByteArray) : Nat → Nat → Int
  | 0, _ => 0
  | d + 1, k => bitAt s k + countR s d (k + 1)
theorem bitAt_range (s : ByteArray) (k : Nat) : 0 ≤ bitAt s k ∧ bitAt s k < 2 := by unfold bitAt; omega
theorem countR_range (s : ByteArray) : ∀ (d k : Nat), 0 ≤ countR s d k ∧ countR s d k ≤ d := by
  intro d; induction d with
  | zero => intro k; simp [countR]
  | succ d ih => intro k; have := ih (k + 1); have := bitAt_range s k; unfold countR; omega
theorem and1 {b : Int} (h0 : 0 ≤ b) (h1 : b ≤ 255) : Go.bits .and .u8 b 1 = b % 2 := bits_mask .u8 8 (by decide) wraps_u8 1 (by decide) b h0 (by omega)
theorem count_byte (s : ByteArray) (d i : Nat) : countR s (8 + d) (8 * i) = pop 8 (bt s i) + countR s d (8 * (i + 1)) := by
  have e : ∀ j, j < 8 → bitAt s (8 * i + j) = (bt s i / 2 ^ j) % 2 := by
    intro j hj
    unfold bitAt
    rw [show (8 * i + j) / 8 = i by omega, show (8 * i + j) % 8 = j by omega]
  have e0 := e 0 (by omega); have e1 := e 1 (by omega); have e2 := e 2 (by omega); have e3 := e 3 (by omega)
  have e4 := e 4 (by omega); have e5 := e 5 (by omega); have e6 := e 6 (by omega); have e7 := e 7 (by omega)
  rw [show 8 + d = d + 1 + 1 + 1 + 1 + 1 + 1 + 1 + 1 by omega]
  simp only [countR, pop, Nat.add_assoc, Nat.reduceAdd]
  simp only [Nat.add_zero] at e0
  rw [e0, e1, e2, e3, e4, e5, e6, e7, show 8 * (i + 1) = 8 * i + 8 by omega]
  omega
def onesV (h : Int) (b : ByteArray) (m : Int) : Int × Bool := if goodFilterB h b m = true then (countR b 256 0, true) else (0, false)
theorem goodFilterB_size {h : Int} {b : ByteArray} {m : Int} (hg : goodFilterB h b m = true) : 1 ≤ h ∧ h ≤ 8 ∧ b.size = 32 ∧ 0 ≤ m ∧ m ≤ 1000000 := by
  unfold goodFilterB at hg
  simp only [Bool.and_eq_true, decide_eq_true_eq, inB_iff] at hg
  omega

-- part implHas needs impl_Filter_has.f
theorem impl_has {b : ByteArray} (h m : Int) (k : Nat) (hk : k < 8 * b.size) (hs : b.size ≤ 1000) : impl_Filter_has.f h b m k = some ((bitAt b k == 1), h, b, m) := by
  unfold impl_Filter_has.f
  have e1 : wrap64 (Int.tdiv (k : Int) 8) = ((k / 8 : Nat) : Int) := by rw [Int.tdiv_eq_ediv_of_nonneg (by omega), w64 (by omega) (by omega)]; omega
  have e2 : Int.tmod (k : Int) 8 = ((k % 8 : Nat) : Int) := by rw [Int.tmod_eq_emod_of_nonneg (by omega)]; omega
  obtain ⟨b0, b1⟩ := bt_range b ((k / 8 : Nat) : Int)
  have e3 : shr .u8 (bt b ((k / 8 : Nat) : Int)) ((k % 8 : Nat) : Int) = bt b ((k / 8 : Nat) : Int) / 2 ^ (k % 8) := by
    unfold shr
    rw [Int.toNat_natCast, Nat.min_eq_left (by have : IntKind.u8.bits = 8 := rfl; omega)]
  have hp : (0 : Int) < 2 ^ (k % 8) := Int.pow_pos (by decide)
  have h4 : 0 ≤ bt b ((k / 8 : Nat) : Int) / 2 ^ (k % 8) := Int.ediv_nonneg b0 (by omega)
  have h5 : bt b ((k / 8 : Nat) : Int) / 2 ^ (k % 8) ≤ 255 := Int.le_trans (Int.ediv_le_self _ b0) b1
  rw [e1, e2, if_pos (by omega), if_pos (by omega), if_pos (by omega), e3, and1 h4 h5]
  rfl

-- part addM: bits are set
def addBit (xs : List Int) (p : Int) : List Int := xs.set (p / 8).toNat (Go.bits .or .u8 (rd xs (p / 8)) (shl .u8 1 (p % 8)))
def addAll (xs ps : List Int) : List Int := ps.foldl addBit xs
theorem addBit_len (xs : List Int) (p : Int) : (addBit xs p).length = xs.length := by unfold addBit; simp
theorem addAll_len (ps : List Int) : ∀ xs : List Int, (addAll xs ps).length = xs.length := by
  induction ps with
  | nil => intro xs; rfl
  | cons p ps ih => intro xs; show (addAll (addBit xs p) ps).length = _; rw [ih, addBit_len]
theorem addAll_drop (xs ps : List Int) (i : Nat) (h : i < ps.length) : addAll xs (ps.drop i) = addAll (addBit xs (rd ps (i : Int))) (ps.drop (i + 1)) := by
  rw [List.drop_eq_getElem_cons h]
  unfold rd
  rw [List.getD_eq_getElem?_getD, Int.toNat_natCast, List.getElem?_eq_getElem h]; rfl
def addV (h : Int) (b : ByteArray) (m : Int) (key : ByteArray) : Int × ByteArray × Int := (h, strOfNums (addAll (bytesOf b) (placesV key h)), if m < 1000000 then m + 1 else m)
theorem placesV_rd (key : ByteArray) (h : Int) (i : Nat) (hi : i < (placesV key h).length) : 0 ≤ rd (placesV key h) (i : Int) ∧ rd (placesV key h) (i : Int) < 256 := by
  unfold rd
  rw [List.getD_eq_getElem?_getD, Int.toNat_natCast, List.getElem?_eq_getElem hi]
  exact placesR_mem _ _ _ _ (List.getElem_mem hi)
theorem goodFilterB_iff {h : Int} {b : ByteArray} {m : Int} (g : goodFilterB h b m = true) : 1 ≤ h ∧ h ≤ 8 ∧ b.size = 32 ∧ 0 ≤ m ∧ m ≤ 1000000 := by
  unfold goodFilterB at g
  simp only [Bool.and_eq_true, inB_iff, decide_eq_true_eq] at g
  omega

-- part mayM: are all the places of a key set
def hasP (b : ByteArray) (p : Int) : Bool := bitAt b p.toNat == 1
def mayV (h : Int) (b : ByteArray) (key : ByteArray) : Bool := (placesV key h).all (hasP b)
theorem all_drop {α : Type} (f : α → Bool) (xs : List α) (i : Nat) (h : i < xs.length) : (xs.drop i).all f = (f (xs[i]'h) && (xs.drop (i + 1)).all f) := by
  rw [List.drop_eq_getElem_cons h]; rfl
theorem rd_get {xs : List Int} {i : Nat} (h : i < xs.length) : rd xs (i : Int) = xs[i]'h := by
  unfold rd
  rw [List.getD_eq_getElem?_getD, Int.toNat_natCast, List.getElem?_eq_getElem h]; rfl
theorem bit_shr {b : ByteArray} {p : Int} (h0 : 0 ≤ p) (h1 : p < 256) : Go.bits .and .u8 (shr .u8 (bt b (p / 8)) (p % 8)) 1 = bitAt b p.toNat := by
  obtain ⟨n, rfl⟩ := Int.eq_ofNat_of_zero_le h0
  obtain ⟨b0, b1⟩ := bt_range b ((n / 8 : Nat) : Int)
  have e1 : (n : Int) / 8 = ((n / 8 : Nat) : Int) := by omega
  have e2 : (n : Int) % 8 = ((n % 8 : Nat) : Int) := by omega
  have e3 : shr .u8 (bt b ((n / 8 : Nat) : Int)) ((n % 8 : Nat) : Int) = bt b ((n / 8 : Nat) : Int) / 2 ^ (n % 8) := by
    unfold shr
    rw [Int.toNat_natCast, Nat.min_eq_left (by have : IntKind.u8.bits = 8 := rfl; omega)]
  have hp : (0 : Int) < 2 ^ (n % 8) := Int.pow_pos (by decide)
  have h4 : 0 ≤ bt b ((n / 8 : Nat) : Int) / 2 ^ (n % 8) := Int.ediv_nonneg b0 (by omega)
  have h5 : bt b ((n / 8 : Nat) : Int) / 2 ^ (n % 8) ≤ 255 := Int.le_trans (Int.ediv_le_self _ b0) b1
  rw [e1, e2, e3, and1 h4 h5]; rfl

-- part specMay needs spec_l5May.f
theorem spec_may_l (h : Int) (b : ByteArray) (m : Int) (hb : b.size = 32) (ps : List Int) (hn : ps.length ≤ 1000) (hp : ∀ i : Nat, i < ps.length → 0 ≤ rd ps (i : Int) ∧ rd ps (i : Int) < 256) : ∀ (d i : Nat), i + d = ps.length →
    Ev (fun k => spec_l5May.l0 k ps (ps.length : Int) i h b m) ((ps.drop i).all (hasP b)) := by
  intro d
  induction d with
  | zero =>
    intro i hi
    refine Ev.step (fun k => by rw [spec_l5May.l0]) ?_
    rw [List.drop_eq_nil_of_le (by omega)]
    exact Ev.neg_ (by omega) (Ev.now _)
  | succ d ih =>
    intro i hi
    have hr := hp i (by omega)
    refine Ev.step (fun k => by rw [spec_l5May.l0]) ?_
    rw [w64 (n := (i : Int) + 1) (by omega) (by omega), Int.tdiv_eq_ediv_of_nonneg hr.1, Int.tmod_eq_emod_of_nonneg hr.1, w64 (n := rd ps (i : Int) / 8) (by omega) (by omega), wu64 (n := rd ps (i : Int) % 8) (by omega) (by omega), bit_shr hr.1 hr.2]
    refine Ev.pos_ (by omega) (Ev.pos_ (by omega) (Ev.pos_ (by omega) (Ev.pos_ (by omega) (Ev.pos_ (by omega) (Ev.pos_ (by omega) ?_)))))
    have hr2 := bitAt_range b (rd ps (i : Int)).toNat
    rw [all_drop _ ps i (by omega), ← rd_get (by omega)]
    refine Ev.ite_ (fun e => ?_) (fun e => ?_)
    · have : hasP b (rd ps (i : Int)) = false := by unfold hasP; rw [e]; rfl
      rw [this, Bool.false_and]; exact Ev.now _
    · have : hasP b (rd ps (i : Int)) = true := by unfold hasP; rw [show bitAt b (rd ps (i : Int)).toNat = 1 by omega]; rfl
      rw [this, Bool.true_and]; exact ih (i + 1) (by omega)
theorem spec_may (h : Int) (b : ByteArray) (m : Int) (key : ByteArray) (g : goodFilterB h b m = true) (hk : key.size ≤ 140737488351232) : Ev (fun k => spec_l5May.f k h b m key) (mayV h b key) := by
  have hh := goodFilterB_iff g
  have hl := placesV_len key (h := h) (by omega)
  unfold spec_l5May.f
  refine Ev.bind (spec_places key h (by omega) (by omega) hk) ?_
  exact spec_may_l h b m (by omega) (placesV key h) (by omega) (placesV_rd key h) (placesV key h).length 0 (by omega)
theorem spec_mayHave (h : Int) (b : ByteArray) (m : Int) (key : ByteArray) (hk : key.size ≤ 140737488351232) :
    Ev (fun k => spec_MayHave.f k h b m key) (if goodFilterB h b m = true ∧ keyB key = true then (mayV h b key, true) else (false, false)) := by
  unfold spec_MayHave.f
  simp only [spec_goodFilter, spec_key, Option.bind_some]
  by_cases g : goodFilterB h b m = true
  · by_cases gk : keyB key = true
    · rw [if_pos ⟨g, gk⟩]; exact Ev.pos_ g (Ev.pos_ gk (Ev.bind (spec_may h b m key g hk) (Ev.now _)))
    · rw [if_neg (fun e => gk e.2)]; exact Ev.pos_ g (Ev.neg_ gk (Ev.now _))
  · rw [if_neg (fun e => g e.1)]; exact Ev.neg_ g (Ev.now _)

-- part implMay needs impl_MayHave.f
theorem impl_index_l (h : Int) (b : ByteArray) (m : Int) (hb : b.size = 32) (ps : List Int) (hn : ps.length ≤ 1000) (hp : ∀ i : Nat, i < ps.length → 0 ≤ rd ps (i : Int) ∧ rd ps (i : Int) < 256) : ∀ (d i : Nat), i + d = ps.length →
    ∃ x, decide (x ≥ 0) = !(ps.drop i).all (hasP b) ∧ Ev (fun k => slices_IndexFunc_int_int_f50.l0 k ps (ps.length : Int) i h b m) (x, h, b, m) := by
  intro d
  induction d with
  | zero =>
    intro i hi
    refine ⟨-1, ?_, ?_⟩
    · rw [List.drop_eq_nil_of_le (by omega)]; rfl
    refine Ev.step (fun k => by rw [slices_IndexFunc_int_int_f50.l0]) ?_
    exact Ev.neg_ (by omega) (Ev.now _)
  | succ d ih =>
    intro i hi
    have hr := hp i (by omega)
    obtain ⟨x, hx, hE⟩ := ih (i + 1) (by omega)
    have e : impl_MayHave_1.f (rd ps (i : Int)) h b m = some (!hasP b (rd ps (i : Int)), h, b, m) := by
      unfold impl_MayHave_1.f
      have := impl_has (b := b) h m (rd ps (i : Int)).toNat (by omega) (by omega)
      rw [Int.toNat_of_nonneg hr.1] at this
      rw [this]; rfl
    rw [all_drop _ ps i (by omega), ← rd_get (by omega)]
    by_cases hv : hasP b (rd ps (i : Int)) = true
    · refine ⟨x, by rw [hv, Bool.true_and]; exact hx, ?_⟩
      refine Ev.step (fun k => by rw [slices_IndexFunc_int_int_f50.l0]) ?_
      rw [w64 (n := (i : Int) + 1) (by omega) (by omega), e]
      refine Ev.pos_ (by omega) (Ev.pos_ (by omega) (Ev.pos_ (by omega) (Ev.some_ (Ev.neg_ (by simp [hv]) ?_))))
      exact hE
    · refine ⟨i, by rw [Bool.not_eq_true] at hv; rw [hv]; simp, ?_⟩
      refine Ev.step (fun k => by rw [slices_IndexFunc_int_int_f50.l0]) ?_
      rw [e]
      exact Ev.pos_ (by omega) (Ev.pos_ (by omega) (Ev.pos_ (by omega) (Ev.some_ (Ev.pos_ (by simp [hv]) (Ev.now _)))))
theorem impl_mayHave (h : Int) (b : ByteArray) (m : Int) (key : ByteArray) (hk : key.size ≤ 140737488351232) :
    Ev (fun k => impl_MayHave.f k h b m key) (if goodFilterB h b m = true ∧ keyB key = true then (mayV h b key, true) else (false, false)) := by
  unfold impl_MayHave.f
  simp only [impl_goodFilter, impl_key, Option.bind_some]
  by_cases g : goodFilterB h b m = true
  · refine Ev.pos_ g (Ev.step (fun k => by rw [impl_MayHave.j0]) ?_)
    by_cases gk : keyB key = true
    · have hh := goodFilterB_iff g
      have hl := placesV_len key (h := h) (by omega)
      obtain ⟨x, hx, hE⟩ := impl_index_l h b m (by omega) (placesV key h) (by omega) (placesV_rd key h) (placesV key h).length 0 (by omega)
      rw [if_pos ⟨g, gk⟩]
      refine Ev.neg_ (by simp [gk]) (Ev.bind (impl_places_ key h (by omega) (by omega) hk) ?_)
      unfold slices_ContainsFunc_int_int_f50.f slices_IndexFunc_int_int_f50.f
      refine Ev.bind (Ev.bind hE (Ev.now _)) ?_
      dsimp only
      rw [hx, Bool.not_not]; exact Ev.now _
    · rw [if_neg (fun e => gk e.2)]; exact Ev.pos_ (by simp [gk]) (Ev.now _)
  · rw [if_neg (fun e => g e.1)]
    refine Ev.neg_ g (Ev.step (fun k => by rw [impl_MayHave.j0]) ?_)
    exact Ev.pos_ rfl (Ev.now _)

theorem FnExactMayHave (h : Int) (b : ByteArray) (m : Int) (key : ByteArray) (_ : (Lit.int .i64 h).wf = true ∧ b.size ≤ 140737488351232 ∧ (Lit.int .i64 m).wf = true) (hk : key.size ≤ 140737488351232) : ∃ k, laws_FnExactMayHave.f k h b m key = some true := by
  apply Ev.rounds (r := true)
  unfold laws_FnExactMayHave.f laws_szFilter.f laws_toFilter.f
  refine Ev.ite_ (fun _ => Ev.now _) (fun _ => ?_)
  split
  · refine Ev.some_ (Ev.pos_ (by decide) (Ev.now _))
  · refine Ev.some_ (Ev.ite_ (fun _ => Ev.now _) (fun _ => Ev.some_ (Ev.bind (spec_mayHave h b m key hk) (Ev.some_ (Ev.bind (impl_mayHave h b m key hk) ?_)))))
    refine Ev.neg_ (by simp) (Ev.neg_ (by simp) (Ev.now _))

end Go.Proofs.Ytmakajlkphopbaa.Pure
