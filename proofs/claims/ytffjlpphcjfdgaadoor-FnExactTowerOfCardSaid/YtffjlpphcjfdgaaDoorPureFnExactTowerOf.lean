/-
  The plain statement of the law FnExactTowerOf, proved: over numbers and lists alone. No condition beyond the given ones.
-/
import Derived.Test.YtffjlpphcjfdgaaDoorMFnExactTowerOfx2
namespace Go.Proofs.YtffjlpphcjfdgaaDoor.Pure
open Go Go.RowKit Go.Proofs.YtffjlpphcjfdgaaDoor.MFnExactTowerOf Go.Proofs.YtffjlpphcjfdgaaDoorW.PrintWords Go.Proofs.YtffjlpphcjfdgaaDoorW.PrintLast Go.Proofs.YtffjlpphcjfdgaaDoorW.PrintMore
set_option linter.unusedVariables false
set_option linter.unusedSimpArgs false

-- part base: plain facts on Go's numbers and on rounds
theorem lt_mn {i a b : Int} : i < mn a b ↔ i < a ∧ i < b := by unfold mn; split <;> omega
theorem mn_le {a b : Int} : mn a b ≤ a ∧ mn a b ≤ b := by unfold mn; split <;> omega
theorem w64 {n : Int} (h0 : -9223372036854775808 ≤ n) (h1 : n ≤ 9223372036854775807) : wrap64 n = n := by unfold wrap64; omega
theorem wrap_u64 (n : Int) : IntKind.u64.wrap n = n % 18446744073709551616 := by simp [IntKind.wrap, IntKind.bits, IntKind.signed]
theorem wu64 {n : Int} (h0 : 0 ≤ n) (h1 : n ≤ 18446744073709551615) : IntKind.u64.wrap n = n := by rw [wrap_u64]; omega
theorem wu32 {n : Int} (h0 : 0 ≤ n) (h1 : n ≤ 4294967295) : IntKind.u32.wrap n = n := by rw [IntKind.wrap_u32]; omega
theorem wraps_u32 (n : Int) (h₀ : 0 ≤ n) (h₁ : n < 2 ^ 32) : IntKind.u32.wrap n = n := by rw [IntKind.wrap_u32]; omega
theorem wraps_i64 (n : Int) (h₀ : 0 ≤ n) (h₁ : n < 2 ^ 63) : IntKind.i64.wrap n = n := by rw [IntKind.wrap_i64]; omega
theorem and127 {b : Int} (h0 : 0 ≤ b) (h1 : b ≤ 255) : Go.bits .and .u8 b 127 = b % 128 := bits_mask .u8 8 (by decide) wraps_u8 7 (by decide) b h0 (by omega)
theorem wf_i64 {n : Int} (h : (Lit.int .i64 n).wf = true) : -9223372036854775808 ≤ n ∧ n ≤ 9223372036854775807 := by
  simp only [Lit.wf, Bool.and_eq_true, decide_eq_true_eq] at h
  exact h
theorem wf_u32 {n : Int} (h : (Lit.int .u32 n).wf = true) : 0 ≤ n ∧ n ≤ 4294967295 := by
  simp only [Lit.wf, Bool.and_eq_true, decide_eq_true_eq] at h
  exact h
theorem bits_or_comm (k : IntKind) (x y : Int) : Go.bits .or k x y = Go.bits .or k y x := by
  simp only [Go.bits, BitVec.or_comm]
theorem and127i {b : Int} (h0 : 0 ≤ b) (h1 : b ≤ 9223372036854775807) : Go.bits .and .i64 b 127 = b % 128 := bits_mask .i64 63 (by decide) wraps_i64 7 (by decide) b h0 (by omega)
theorem or128i {b : Int} (h0 : 0 ≤ b) (h1 : b < 128) : Go.bits .or .i64 b 128 = b + 128 := by
  rw [bits_or_comm, bits_join .i64 63 (by decide) wraps_i64 7 128 b (by omega) (by omega) (by omega) h0 (by omega) (by omega)]; omega
theorem Ev.ite_ {α : Type} {c : Prop} [Decidable c] {g f : Nat → Option α} {r : α} (h : c → Ev g r) (k : ¬c → Ev f r) : Ev (fun n => if c then g n else f n) r := by
  by_cases hc : c
  · simp only [if_pos hc]; exact h hc
  · simp only [if_neg hc]; exact k hc
theorem Ev.pos_ {α : Type} {c : Prop} [Decidable c] {g f : Nat → Option α} {r : α} (hc : c) (h : Ev g r) : Ev (fun n => if c then g n else f n) r := by simp only [if_pos hc]; exact h
theorem Ev.neg_ {α : Type} {c : Prop} [Decidable c] {g f : Nat → Option α} {r : α} (hc : ¬c) (h : Ev f r) : Ev (fun n => if c then g n else f n) r := by simp only [if_neg hc]; exact h
theorem Ev.some_ {α β : Type} {f : Nat → α → Option β} {x : α} {r : β} (h : Ev (fun n => f n x) r) : Ev (fun n => (some x).bind (f n)) r := by simpa only [Option.bind_some] using h
theorem bo_and (b c : Bool) : (if b = true then some c else some false) = some (b && c) := by cases b <;> rfl
theorem bo_andP (p : Prop) [Decidable p] (c : Bool) : (if p then some c else some false) = some (decide p && c) := by by_cases h : p <;> simp [h]
theorem bo_orP (p : Prop) [Decidable p] (c : Bool) : (if p then some true else some c) = some (decide p || c) := by by_cases h : p <;> simp [h]
theorem bo_or (b c : Bool) : (if b = true then some true else some c) = some (b || c) := by cases b <;> rfl
def inB (a lo hi : Int) : Bool := decide (lo ≤ a) && decide (a ≤ hi)
theorem inB_iff {a lo hi : Int} : inB a lo hi = true ↔ lo ≤ a ∧ a ≤ hi := by simp [inB]

-- part specIn needs spec_l1In.f
theorem spec_in (a lo hi : Int) : spec_l1In.f a lo hi = some (inB a lo hi) := by
  unfold spec_l1In.f inB; rw [bo_andP]

-- part implIn needs impl_in.f
theorem impl_in_ (a lo hi : Int) : impl_in.f a lo hi = some (inB a lo hi) := by
  unfold impl_in.f inB; rw [bo_andP]

-- part goodItem
def keyB (k : ByteArray) : Bool := inB (k.size : Int) 1 16
def seqB (q : Int) : Bool := inB q 0 1000000000
def goodItemB (k : ByteArray) (q d : Int) (v : ByteArray) : Bool := keyB k && (seqB q && (inB d 0 1 && (decide ((v.size : Int) ≤ 40) && (decide (d = 1) || (v.toList == ([] : List UInt8))))))

-- part specKey needs spec_l4Key.f
theorem spec_key (k : ByteArray) : spec_l4Key.f k = some (keyB k) := by unfold spec_l4Key.f keyB; rw [spec_in]; rfl

-- part implKey needs impl_isKey.f
theorem impl_key (k : ByteArray) : impl_isKey.f k = some (keyB k) := by unfold impl_isKey.f keyB; rw [impl_in_]; rfl

-- part specSeq needs spec_l4Seq.f
theorem spec_seq (q : Int) : spec_l4Seq.f q = some (seqB q) := by unfold spec_l4Seq.f seqB; rw [spec_in]; rfl

-- part implSeq needs impl_isSeq.f
theorem impl_seq (q : Int) : impl_isSeq.f q = some (seqB q) := by unfold impl_isSeq.f seqB; rw [impl_in_]; rfl

-- part hashB
def hashB (h : Int) : Bool := inB h 1 8
theorem keyB_size {k : ByteArray} (h : keyB k = true) : 1 ≤ k.size ∧ k.size ≤ 16 := by unfold keyB at h; rw [inB_iff] at h; omega
theorem hashB_range {h : Int} (hh : hashB h = true) : 1 ≤ h ∧ h ≤ 8 := inB_iff.1 hh

-- part sumM: the table of sums and the sum of a text
def crcStep (n : Int) : Int := if Go.bits .and .u32 n 1 = 1 then Go.bits .xor .u32 (n / 2) 2197175160 else n / 2
def crcIt : Nat → Int → Int
  | 0, n => n
  | d + 1, n => crcIt d (crcStep n)
def crcE (i : Nat) : Int := crcIt 8 (i : Int)
def crcT : List Int := (List.range 256).map crcE
theorem crcT_len : crcT.length = 256 := by simp [crcT]
theorem xor_comm_ (k : IntKind) (x y : Int) : Go.bits .xor k x y = Go.bits .xor k y x := by simp only [Go.bits, BitVec.xor_comm]
theorem bits_u8 (op : BinOp) (x y : Int) : 0 ≤ Go.bits op .u8 x y ∧ Go.bits op .u8 x y < 256 := by
  unfold Go.bits; rw [IntKind.wrap_u8]; exact ⟨Int.emod_nonneg _ (by decide), Int.emod_lt_of_pos _ (by decide)⟩
theorem bits_u32 (op : BinOp) (x y : Int) : 0 ≤ Go.bits op .u32 x y ∧ Go.bits op .u32 x y < 4294967296 := by
  unfold Go.bits; rw [IntKind.wrap_u32]; exact ⟨Int.emod_nonneg _ (by decide), Int.emod_lt_of_pos _ (by decide)⟩
def sumR (s : ByteArray) : Nat → Nat → Int → Int
  | 0, _, x => x
  | d + 1, i, x => sumR s d (i + 1) (Go.bits .xor .u32 (x / 256) (rd crcT (Go.bits .xor .u8 (x % 256) (bt s i))))
def sumOnV (x : Int) (s : ByteArray) : Int := sumR s s.size 0 x
def sumV (s : ByteArray) : Int := Go.bits .xor .u32 4294967295 (sumOnV 4294967295 s)
theorem sumV_range (s : ByteArray) : 0 ≤ sumV s ∧ sumV s < 4294967296 := bits_u32 _ _ _

-- part specTable needs spec_l2Table.f
theorem spec_table_in (d : Nat) : ∀ (T : List Int) (i x j y z : Int) (r : List Int), 0 ≤ j → j + d = 8 → 0 ≤ i → i < T.length →
    Ev (fun k => spec_l2Table.l0 k (T.set i.toNat (crcIt d x)) y (wrap64 (z + 1))) r → Ev (fun k => spec_l2Table.l1 k T i x j y z) r := by
  induction d with
  | zero =>
    intro T i x j y z r h0 hd hi hi' h
    refine Ev.step (fun k => ?_) h
    simp only [spec_l2Table.l1]
    rw [if_neg (by omega), if_pos hi, if_pos hi']; rfl
  | succ d ih =>
    intro T i x j y z r h0 hd hi hi' h
    refine Ev.step (fun k => ?_) (ih T i (crcStep x) (j + 1) y z r (by omega) (by omega) hi hi' h)
    simp only [spec_l2Table.l1]
    rw [if_pos (by omega), w64 (by omega) (by omega)]
    unfold crcStep
    split <;> rfl
theorem spec_table_l (d : Nat) : ∀ (i : Nat), i + d = 256 → Ev (fun k => spec_l2Table.l0 k ((List.range i).map crcE ++ List.replicate d 0) 256 i) crcT := by
  induction d with
  | zero =>
    intro i hi
    obtain rfl : i = 256 := by omega
    refine Ev.step (f := fun _ => some crcT) (fun k => ?_) (Ev.now _)
    simp only [spec_l2Table.l0]; rw [if_neg (by omega)]; simp [crcT]
  | succ d ih =>
    intro i hi
    have e : ((List.range i).map crcE ++ List.replicate (d + 1) 0).set (i : Int).toNat (crcE i) = (List.range (i + 1)).map crcE ++ List.replicate d 0 := by
      rw [Int.toNat_natCast, List.range_succ, List.map_append, List.set_append_right _ _ (by simp)]
      simp [List.replicate_succ]
    refine Ev.step (f := fun k => spec_l2Table.l1 k ((List.range i).map crcE ++ List.replicate (d + 1) 0) i i 0 256 i) (fun k => ?_) ?_
    · simp only [spec_l2Table.l0]; rw [if_pos (by omega), Int.emod_eq_of_lt (by omega) (by omega)]
    · refine spec_table_in 8 _ _ _ _ _ _ _ (by omega) rfl (by omega) (by simp; omega) ?_
      have := ih (i + 1) (by omega)
      rw [show crcIt 8 (i : Int) = crcE i from rfl, e, w64 (by omega) (by omega)]
      exact this
theorem spec_table : Ev (fun k => spec_l2Table.f k) crcT := by
  unfold spec_l2Table.f
  refine Ev.pos_ (by decide) ?_
  show Ev (fun k => spec_l2Table.l0 k (List.replicate 256 0) ((List.replicate 256 (0 : Int)).length : Int) 0) crcT
  rw [List.length_replicate]
  exact spec_table_l 256 0 rfl

-- part implTable needs impl_SumTable.f
theorem impl_table_in (d : Nat) : ∀ (T : List Int) (x z j : Int) (r : List Int), 0 ≤ j → j + d = 8 → T.length < 35184372088832 →
    Ev (fun k => impl_SumTable.l0 k (T ++ [crcIt d x]) ((z + 1) % 4294967296)) r → Ev (fun k => impl_SumTable.l1 k T x z j) r := by
  induction d with
  | zero =>
    intro T x z j r h0 hd hi h
    refine Ev.step (fun k => ?_) h
    simp only [impl_SumTable.l1]
    rw [if_neg (by omega), if_pos hi]; rfl
  | succ d ih =>
    intro T x z j r h0 hd hi h
    refine Ev.step (fun k => ?_) (ih T (crcStep x) z (j + 1) r (by omega) (by omega) hi h)
    simp only [impl_SumTable.l1]
    rw [if_pos (by omega), w64 (by omega) (by omega)]
    unfold crcStep
    split <;> rfl
theorem impl_table_l (d : Nat) : ∀ (i : Nat), i + d = 256 → Ev (fun k => impl_SumTable.l0 k ((List.range i).map crcE) i) crcT := by
  induction d with
  | zero =>
    intro i hi
    obtain rfl : i = 256 := by omega
    refine Ev.step (f := fun _ => some crcT) (fun k => ?_) (Ev.now _)
    simp only [impl_SumTable.l0]; rw [if_neg (by omega)]; rfl
  | succ d ih =>
    intro i hi
    refine Ev.step (f := fun k => impl_SumTable.l1 k ((List.range i).map crcE) i i 0) (fun k => ?_) ?_
    · simp only [impl_SumTable.l0]; rw [if_pos (by omega)]
    · refine impl_table_in 8 _ _ _ _ _ (by omega) rfl (by simp; omega) ?_
      have := ih (i + 1) (by omega)
      rw [Int.emod_eq_of_lt (by omega) (by omega)]
      rw [List.range_succ, List.map_append] at this
      exact this
theorem impl_table : Ev (fun k => impl_SumTable.f k) crcT := impl_table_l 256 0 rfl

-- part specOn needs spec_l2On.f
theorem spec_on_l (s : ByteArray) (hs : s.size ≤ 140737488351232) (d : Nat) : ∀ (i : Nat) (x : Int), i + d = s.size → Ev (fun k => spec_l2On.l0 k crcT x s i) (sumR s d i x) := by
  induction d with
  | zero =>
    intro i x hi
    refine Ev.step (f := fun _ => some x) (fun k => ?_) (Ev.now _)
    simp only [spec_l2On.l0]; rw [if_neg (by omega)]
  | succ d ih =>
    intro i x hi
    have hr := bits_u8 .xor (x % 256) (bt s i)
    refine Ev.step (fun k => ?_) (ih (i + 1) _ (by omega))
    simp only [spec_l2On.l0]
    rw [if_pos (by omega), if_pos (by omega), if_pos hr.1, if_pos (by rw [crcT_len]; exact hr.2), xor_comm_ .u32, w64 (by omega) (by omega)]; rfl
theorem spec_on (x : Int) (s : ByteArray) (hs : s.size ≤ 140737488351232) : Ev (fun k => spec_l2On.f k crcT x s) (sumOnV x s) := spec_on_l s hs _ 0 x (by omega)

-- part implOn needs impl_SumOn.f
theorem impl_on_l (s : ByteArray) (hs : s.size ≤ 140737488351232) (d : Nat) : ∀ (i : Nat) (x : Int), i + d = s.size → Ev (fun k => impl_SumOn.l0 k x s crcT (s.size : Int) i) (sumR s d i x) := by
  induction d with
  | zero =>
    intro i x hi
    refine Ev.step (f := fun _ => some x) (fun k => ?_) (Ev.now _)
    simp only [impl_SumOn.l0]; rw [if_neg (by omega)]
  | succ d ih =>
    intro i x hi
    have hr := bits_u8 .xor (x % 256) (bt s i)
    refine Ev.step (fun k => ?_) (ih (i + 1) _ (by omega))
    simp only [impl_SumOn.l0]
    rw [if_pos (by omega), if_pos (by omega), if_pos (by omega), if_pos hr.1, if_pos (by rw [crcT_len]; exact hr.2), w64 (by omega) (by omega)]; rfl
theorem impl_on (x : Int) (s : ByteArray) (hs : s.size ≤ 140737488351232) : Ev (fun k => impl_SumOn.f k x s) (sumOnV x s) :=
  Ev.bind impl_table (impl_on_l s hs _ 0 x (by omega))

-- part implSum needs impl_SumOf.f
theorem impl_sum (s : ByteArray) (hs : s.size ≤ 140737488351232) : Ev (fun k => impl_SumOf.f k s) (sumV s) :=
  Ev.bind (impl_on 4294967295 s hs) (Ev.now _)

-- part towerM needs strconv_Itoa.f
def towR : Nat → Int → Int → Int
  | 0, _, n => n
  | d + 1, h, n => if Go.bits .and .u32 h 3 = 0 then towR d (h / 4) (n + 1) else n
def numT (n : Int) : ByteArray := ⟨(Lib.itoa n).toArray⟩
def towV (s : ByteArray) (n : Int) : Int := towR 4 (sumV (s ++ numT n)) 1
theorem decDigits_len : ∀ (n u : Nat), u < n → (Lib.decDigits u).length ≤ u + 1 := by
  intro n
  induction n with
  | zero => intro u h; omega
  | succ n ih =>
    intro u h
    rw [Lib.decDigits]
    split
    · simp
    · have := ih (u / 10) (by omega)
      simp only [List.length_append, List.length_singleton]
      omega
theorem numT_dec (u : Nat) : numT (u : Int) = ⟨(Lib.decDigits u).toArray⟩ := by
  unfold numT Lib.itoa
  rw [if_neg (by omega), Int.toNat_natCast]
theorem numT_size {n : Int} (h0 : 0 ≤ n) : (numT n).size ≤ n.toNat + 1 := by
  obtain ⟨u, rfl⟩ := Int.eq_ofNat_of_zero_le h0
  have := decDigits_len (u + 1) u (by omega)
  rw [numT_dec]
  show (Lib.decDigits u).toArray.size ≤ _
  simpa using this
theorem itoa_f {n : Int} (h0 : 0 ≤ n) (h1 : n ≤ 1000000000) : strconv_Itoa.f n = some (numT n) := by
  unfold strconv_Itoa.f
  rw [if_pos (by omega)]; rfl
theorem towR_range : ∀ (d : Nat) (h n : Int), n ≤ towR d h n ∧ towR d h n ≤ n + d := by
  intro d
  induction d with
  | zero => intro h n; unfold towR; omega
  | succ d ih =>
    intro h n
    unfold towR
    split
    · have := ih (h / 4) (n + 1); omega
    · omega
theorem towV_range (s : ByteArray) (n : Int) : 1 ≤ towV s n ∧ towV s n ≤ 5 := by
  have := towR_range 4 (sumV (s ++ numT n)) 1
  unfold towV; omega

-- part specNum needs spec_l1Num.f
theorem num_one {a : Nat} (ha : a < 10) : strOfNums [wrap64 (48 + (a : Int)) % 256] = ⟨#[UInt8.ofNat (48 + a)]⟩ := by
  rw [w64 (by omega) (by omega), Int.emod_eq_of_lt (by omega) (by omega)]
  unfold strOfNums
  have : (48 + (a : Int)).toNat = 48 + a := by omega
  simp [this]
theorem bytes_app (x y : List UInt8) : (⟨x.toArray⟩ : ByteArray) ++ ⟨y.toArray⟩ = ⟨(x ++ y).toArray⟩ := by
  apply ByteArray.ext
  simp
theorem spec_num : ∀ (m u : Nat), u < m → m ≤ 1000000001 → Ev (fun k => spec_l1Num.f k (u : Int)) (numT (u : Int)) := by
  intro m
  induction m with
  | zero => intro u h _; omega
  | succ m ih =>
    intro u h hm
    refine Ev.step (fun k => by rw [spec_l1Num.f]) ?_
    rw [numT_dec, Lib.decDigits]
    by_cases h10 : u < 10
    · rw [dif_pos h10]
      refine Ev.pos_ (by omega) ?_
      rw [num_one h10]
      exact Ev.now _
    · rw [dif_neg h10]
      refine Ev.neg_ (by omega) ?_
      have e1 : wrap64 (Int.tdiv (u : Int) 10) = ((u / 10 : Nat) : Int) := by rw [Int.tdiv_eq_ediv_of_nonneg (by omega), w64 (by omega) (by omega)]; omega
      have e2 : (Int.tmod (u : Int) 10) = ((u % 10 : Nat) : Int) := by rw [Int.tmod_eq_emod_of_nonneg (by omega)]; omega
      rw [e1]
      refine Ev.bind (ih (u / 10) (by omega) (by omega)) ?_
      simp only [Option.bind_some]
      rw [e2, num_one (by omega), numT_dec]
      have hs := numT_size (n := ((u / 10 : Nat) : Int)) (by omega)
      rw [numT_dec] at hs
      refine Ev.pos_ ?_ ?_
      · have : (⟨#[UInt8.ofNat (48 + u % 10)]⟩ : ByteArray).size = 1 := rfl
        omega
      · have e := bytes_app (Lib.decDigits (u / 10)) [UInt8.ofNat (48 + u % 10)]
        have e3 : (⟨#[UInt8.ofNat (48 + u % 10)]⟩ : ByteArray) = ⟨[UInt8.ofNat (48 + u % 10)].toArray⟩ := rfl
        rw [e3, e]
        exact Ev.now _
theorem spec_num' {n : Int} (h0 : 0 ≤ n) (h1 : n ≤ 1000000000) : Ev (fun k => spec_l1Num.f k n) (numT n) := by
  obtain ⟨u, rfl⟩ := Int.eq_ofNat_of_zero_le h0
  exact spec_num (u + 1) u (by omega) (by omega)

-- part specTower needs spec_l4Tower.f
theorem spec_tower_l : ∀ (d : Nat) (h n : Int), 0 ≤ n → n + d = 5 → Ev (fun k => spec_l4Tower.l0 k h n) (towR d h n) := by
  intro d
  induction d with
  | zero =>
    intro h n h0 hn
    refine Ev.step (fun k => by rw [spec_l4Tower.l0]) ?_
    exact Ev.neg_ (by omega) (Ev.now _)
  | succ d ih =>
    intro h n h0 hn
    unfold towR
    refine Ev.step (fun k => by rw [spec_l4Tower.l0]) (Ev.pos_ (by omega) ?_)
    by_cases hc : Go.bits .and .u32 h 3 = 0
    · rw [if_pos hc]
      refine Ev.pos_ hc ?_
      rw [w64 (by omega) (by omega)]
      exact ih _ _ (by omega) (by omega)
    · rw [if_neg hc]
      exact Ev.neg_ hc (Ev.now _)
theorem spec_tower (s : ByteArray) {n : Int} (hs : s.size ≤ 16) (h0 : 0 ≤ n) (h1 : n ≤ 1000000000) : Ev (fun k => spec_l4Tower.f k crcT s n) (towV s n) := by
  unfold spec_l4Tower.f
  have hz := numT_size h0
  refine Ev.bind (spec_num' h0 h1) (Ev.pos_ (by omega) (Ev.bind (spec_on _ _ (by rw [ByteArray.size_append]; omega)) ?_))
  exact spec_tower_l 4 _ 1 (by omega) (by omega)

-- part implTower needs impl_towerOf.f
theorem impl_tower_l : ∀ (d : Nat) (h n : Int), 0 ≤ n → n + d = 5 → Ev (fun k => impl_towerOf.l0 k h n) (towR d h n) := by
  intro d
  induction d with
  | zero =>
    intro h n h0 hn
    unfold towR
    refine Ev.step (fun k => by rw [impl_towerOf.l0]) ?_
    by_cases hc : Go.bits .and .u32 h 3 = 0
    · exact Ev.pos_ hc (Ev.neg_ (by omega) (Ev.now _))
    · exact Ev.neg_ hc (Ev.now _)
  | succ d ih =>
    intro h n h0 hn
    unfold towR
    refine Ev.step (fun k => by rw [impl_towerOf.l0]) ?_
    by_cases hc : Go.bits .and .u32 h 3 = 0
    · rw [if_pos hc]
      refine Ev.pos_ hc (Ev.pos_ (by omega) ?_)
      rw [w64 (by omega) (by omega)]
      exact ih _ _ (by omega) (by omega)
    · rw [if_neg hc]
      exact Ev.neg_ hc (Ev.now _)
theorem impl_tower (s : ByteArray) {n : Int} (hs : s.size ≤ 16) (h0 : 0 ≤ n) (h1 : n ≤ 1000000000) : Ev (fun k => impl_towerOf.f k s n) (towV s n) := by
  unfold impl_towerOf.f
  have hz := numT_size h0
  rw [itoa_f h0 h1]
  refine Ev.some_ (Ev.pos_ (by omega) (Ev.bind (impl_sum _ (by rw [ByteArray.size_append]; omega)) ?_))
  exact impl_tower_l 4 _ 1 (by omega) (by omega)

def towOfV (s : ByteArray) (n : Int) : Int × Bool := if keyB s = true ∧ seqB n = true then (towV s n, true) else (0, false)
theorem seqB_range {n : Int} (h : seqB n = true) : 0 ≤ n ∧ n ≤ 1000000000 := by unfold seqB at h; rw [inB_iff] at h; exact h
theorem spec_towerOf_j (s : ByteArray) (n : Int) (hk : keyB s = true) : Ev (fun k => spec_TowerOf.j0 k s n (!seqB n)) (towOfV s n) := by
  refine Ev.step (fun k => by rw [spec_TowerOf.j0]) ?_
  unfold towOfV
  by_cases h : seqB n = true
  · have hr := seqB_range h
    rw [if_pos ⟨hk, h⟩, h]
    exact Ev.neg_ (by simp) (Ev.bind spec_table (Ev.bind (spec_tower s (keyB_size hk).2 hr.1 hr.2) (Ev.now _)))
  · rw [if_neg (fun c => h c.2)]
    exact Ev.pos_ (by simpa using h) (Ev.now _)
theorem spec_towerOf (s : ByteArray) (n : Int) : Ev (fun k => spec_TowerOf.f k s n) (towOfV s n) := by
  unfold spec_TowerOf.f
  rw [spec_key, spec_seq]
  refine Ev.some_ ?_
  by_cases hk : keyB s = true
  · exact Ev.pos_ hk (Ev.some_ (spec_towerOf_j s n hk))
  · refine Ev.neg_ hk (Ev.step (fun k => by rw [spec_TowerOf.j0]) (Ev.pos_ rfl ?_))
    unfold towOfV; rw [if_neg (fun c => hk c.1)]; exact Ev.now _
theorem impl_towerOf (s : ByteArray) (n : Int) : Ev (fun k => impl_TowerOf.f k s n) (towOfV s n) := by
  unfold impl_TowerOf.f towOfV
  rw [impl_key, impl_seq]
  refine Ev.some_ ?_
  by_cases hk : keyB s = true
  · refine Ev.pos_ hk (Ev.some_ ?_)
    by_cases h : seqB n = true
    · have hr := seqB_range h
      rw [if_pos ⟨hk, h⟩]
      exact Ev.pos_ h (Ev.bind (impl_tower s (keyB_size hk).2 hr.1 hr.2) (Ev.now _))
    · rw [if_neg (fun c => h c.2)]
      exact Ev.neg_ h (Ev.now _)
  · rw [if_neg (fun c => hk c.1)]
    exact Ev.neg_ hk (Ev.now _)
theorem FnExactTowerOf : laws_FnExactTowerOf.Pure := by
  intro s n hs hn
  apply Ev.rounds (r := true)
  unfold laws_FnExactTowerOf.f
  refine Ev.ite_ (fun _ => Ev.now _) (fun _ => ?_)
  refine Ev.bind (spec_towerOf s n) (Ev.bind (impl_towerOf s n) ?_)
  refine Ev.pos_ rfl (Ev.neg_ (by simp) (Ev.now _))

end Go.Proofs.YtffjlpphcjfdgaaDoor.Pure
