/-
  The plain statement of the law FnBloom, proved: over numbers and lists alone. No condition beyond the given ones.
-/
import Derived.Test.YtmakajlkphopbaaMFnBloomx8
namespace Go.Proofs.Ytmakajlkphopbaa.Pure
open Go Go.RowKit Go.Proofs.Ytmakajlkphopbaa.MFnBloom Go.Proofs.YtmakajlkphopbaaW.PrintWords Go.Proofs.YtmakajlkphopbaaW.PrintLast Go.Proofs.YtmakajlkphopbaaW.PrintMore
set_option linter.unusedVariables false
set_option linter.unusedSimpArgs false

-- part base: plain facts on Go's numbers and on rounds
theorem lt_mn {i a b : Int} : i < mn a b ↔ i < a ∧ i < b := by unfold mn; split <;> omega
theorem mn_le {a b : Int} : mn a b ≤ a ∧ mn a b ≤ b := by unfold mn; split <;> omega
theorem w64 {n : Int} (h0 : -9223372036854775808 ≤ n) (h1 : n ≤ 9223372036854775807) : wrap64 n = n := by unfold wrap64; omega
theorem wrap_u64 (n : Int) : IntKind.u64.wrap n = n % 18446744073709551616 := by simp [IntKind.wrap, IntKind.bits, IntKind.signed]
theorem wu64 {n : Int} (h0 : 0 ≤ n) (h1 : n ≤ 18446744073709551615) : IntKind.u64.wrap n = n := by rw [wrap_u64]; omega
theorem wu32 {n : Int} (h0 : 0 ≤ n) (h1 : n ≤ 4294967295) : IntKind.u32.wrap n = n := by rw [IntKind.wrap_u32]; omega
theorem wraps_u32 (n : Int) (h₀ : 0 ≤ n) (h₁ : n < 2 ^ 32) : IntKind.u32.wrap n = n := by rw [IntKind.wrap_u32]; omega
theorem wraps_i64 (n : Int) (h₀ : 0 ≤ n) (h₁ : n < 2 ^ 63) : IntKind.i64.wrap n = n := by rw [IntKind.wrap_i64]; omega
theorem and127 {b : Int} (h0 : 0 ≤ b) (h1 : b ≤ 255) : Go.bits .and .u8 b 127 = b % 128 := bits_mask .u8 8 (by decide) wraps_u8 7 (by decide) b h0 (by omega)
theorem wf_i64 {n : Int} (h : (Lit.int .i64 n).wf = true) : -9223372036854775808 ≤ n ∧ n ≤ 9223372036854775807 := by
  simp only [Lit.wf, Bool.and_eq_true, decide_eq_true_eq] at h
  exact h
theorem wf_u32 {n : Int} (h : (Lit.int .u32 n).wf = true) : 0 ≤ n ∧ n ≤ 4294967295 := by
  simp only [Lit.wf, Bool.and_eq_true, decide_eq_true_eq] at h
  exact h
theorem bits_or_comm (k : IntKind) (x y : Int) : Go.bits .or k x y = Go.bits .or k y x := by
  simp only [Go.bits, BitVec.or_comm]
theorem and127i {b : Int} (h0 : 0 ≤ b) (h1 : b ≤ 9223372036854775807) : Go.bits .and .i64 b 127 = b % 128 := bits_mask .i64 63 (by decide) wraps_i64 7 (by decide) b h0 (by omega)
theorem or128i {b : Int} (h0 : 0 ≤ b) (h1 : b < 128) : Go.bits .or .i64 b 128 = b + 128 := by
  rw [bits_or_comm, bits_join .i64 63 (by decide) wraps_i64 7 128 b (by omega) (by omega) (by omega) h0 (by omega) (by omega)]; omega
theorem Ev.ite_ {α : Type} {c : Prop} [Decidable c] {g f : Nat → Option α} {r : α} (h : c → Ev g r) (k : ¬c → Ev f r) : Ev (fun n => if c then g n else f n) r := by
  by_cases hc : c
  · simp only [if_pos hc]; exact h hc
  · simp only [if_neg hc]; exact k hc
theorem Ev.pos_ {α : Type} {c : Prop} [Decidable c] {g f : Nat → Option α} {r : α} (hc : c) (h : Ev g r) : Ev (fun n => if c then g n else f n) r := by simp only [if_pos hc]; exact h
theorem Ev.neg_ {α : Type} {c : Prop} [Decidable c] {g f : Nat → Option α} {r : α} (hc : ¬c) (h : Ev f r) : Ev (fun n => if c then g n else f n) r := by simp only [if_neg hc]; exact h
theorem Ev.some_ {α β : Type} {f : Nat → α → Option β} {x : α} {r : β} (h : Ev (fun n => f n x) r) : Ev (fun n => (some x).bind (f n)) r := by simpa only [Option.bind_some] using h
theorem bo_and (b c : Bool) : (if b = true then some c else some false) = some (b && c) := by cases b <;> rfl
theorem bo_andP (p : Prop) [Decidable p] (c : Bool) : (if p then some c else some false) = some (decide p && c) := by by_cases h : p <;> simp [h]
theorem bo_orP (p : Prop) [Decidable p] (c : Bool) : (if p then some true else some c) = some (decide p || c) := by by_cases h : p <;> simp [h]
theorem bo_or (b c : Bool) : (if b = true then some true else some c) = some (b || c) := by cases b <;> rfl
def inB (a lo hi : Int) : Bool := decide (lo ≤ a) && decide (a ≤ hi)
theorem inB_iff {a lo hi : Int} : inB a lo hi = true ↔ lo ≤ a ∧ a ≤ hi := by simp [inB]

-- part listM: loops over lists by their index
def mkL {α : Type} (enc : Int → α) (c : Int) : Nat → Int → List α
  | 0, _ => []
  | d + 1, m => enc m :: mkL enc c d (m + c)
theorem mkL_len {α : Type} (enc : Int → α) (c : Int) : ∀ (d : Nat) (m : Int), (mkL enc c d m).length = d := by
  intro d; induction d with
  | zero => intro m; rfl
  | succ d ih => intro m; simp [mkL, ih]
theorem mark_gen {α : Type} (L : Nat → List α → Int → Int → Option (Int × List α)) (enc : Int → α) (c B : Int) (hc : 0 ≤ c)
    (hstep : ∀ (xs : List α) (m : Int) (i : Nat) (r : Int × List α), 0 < m → m + c ≤ B → i < xs.length → xs.length ≤ 140737488351232 → Ev (fun k => L k (xs.set i (enc m)) (m + c) ((i + 1 : Nat) : Int)) r → Ev (fun k => L k xs m (i : Int)) r)
    (hend : ∀ (xs : List α) (m : Int), Ev (fun k => L k xs m (xs.length : Int)) (m, xs)) :
    ∀ (d : Nat) (xs : List α) (m : Int) (i : Nat), i + d = xs.length → 0 < m → m + c * d ≤ B → xs.length ≤ 140737488351232 → Ev (fun k => L k xs m (i : Int)) (m + c * d, xs.take i ++ mkL enc c d m) := by
  intro d
  induction d with
  | zero =>
    intro xs m i hi hm hB hl
    have := hend xs m
    obtain rfl : i = xs.length := by omega
    simpa [mkL] using this
  | succ d ih =>
    intro xs m i hi hm hB hl
    have hcd : c * ((d + 1 : Nat) : Int) = c * d + c := by rw [Int.natCast_add, Int.mul_add]; simp
    have hcd0 : 0 ≤ c * (d : Int) := Int.mul_nonneg hc (by omega)
    refine hstep xs m i _ hm (by omega) (by omega) hl ?_
    have := ih (xs.set i (enc m)) (m + c) (i + 1) (by simp; omega) (by omega) (by omega) (by simpa using hl)
    have e : (xs.set i (enc m)).take (i + 1) ++ mkL enc c d (m + c) = xs.take i ++ mkL enc c (d + 1) m := by
      rw [List.take_set, List.take_succ_eq_append_getElem (by omega), List.set_append_right _ _ (by simp; omega)]
      simp [mkL, Nat.min_eq_left (show i ≤ xs.length by omega)]
    rw [e] at this
    rw [show m + c * ((d + 1 : Nat) : Int) = m + c + c * d by omega]
    exact this
theorem held_gen {α : Type} (H : Nat → List α → Int → Int → Option Int) (enc : Int → α) (c B : Int) (hc : 0 ≤ c)
    (hstep : ∀ (xs : List α) (m : Int) (i : Nat) (r : Int), 0 < m → m + c ≤ B → i < xs.length → xs.length ≤ 140737488351232 → xs[i]? = some (enc m) → Ev (fun k => H k xs (m + c) ((i + 1 : Nat) : Int)) r → Ev (fun k => H k xs m (i : Int)) r)
    (hend : ∀ (xs : List α) (m : Int), Ev (fun k => H k xs m (xs.length : Int)) m) :
    ∀ (d : Nat) (pre : List α) (m : Int), 0 < m → m + c * d ≤ B → pre.length + d ≤ 140737488351232 → Ev (fun k => H k (pre ++ mkL enc c d m) m (pre.length : Int)) (m + c * d) := by
  intro d
  induction d with
  | zero =>
    intro pre m hm hB hl
    have := hend pre m
    simpa [mkL] using this
  | succ d ih =>
    intro pre m hm hB hl
    have hcd : c * ((d + 1 : Nat) : Int) = c * d + c := by rw [Int.natCast_add, Int.mul_add]; simp
    have hcd0 : 0 ≤ c * (d : Int) := Int.mul_nonneg hc (by omega)
    refine hstep _ m pre.length _ hm (by omega) (by simp [mkL]) (by simp [mkL_len]; omega) (by simp [mkL]) ?_
    have := ih (pre ++ [enc m]) (m + c) (by omega) (by omega) (by simp; omega)
    rw [show m + c * ((d + 1 : Nat) : Int) = m + c + c * d by omega]
    simpa [mkL] using this
theorem to_gen {α β : Type} (L : Nat → List α → List β → Int → Option (List β)) (f : α → β) (z : β) (za : α)
    (hstep : ∀ (xs : List α) (ys : List β) (i : Nat) (r : List β), i < xs.length → i < ys.length → xs.length ≤ 140737488351232 → Ev (fun k => L k xs (ys.set i (f (xs.getD i za))) ((i + 1 : Nat) : Int)) r → Ev (fun k => L k xs ys (i : Int)) r)
    (hend : ∀ (xs : List α) (ys : List β), Ev (fun k => L k xs ys (xs.length : Int)) ys) :
    ∀ (d : Nat) (xs : List α) (i : Nat), i + d = xs.length → xs.length ≤ 140737488351232 → Ev (fun k => L k xs ((xs.take i).map f ++ List.replicate d z) (i : Int)) (xs.map f) := by
  intro d
  induction d with
  | zero =>
    intro xs i hi hl
    obtain rfl : i = xs.length := by omega
    have := hend xs (xs.map f)
    simpa using this
  | succ d ih =>
    intro xs i hi hl
    refine hstep xs _ i _ (by omega) (by simp; omega) hl ?_
    have := ih xs (i + 1) (by omega) hl
    have e : ((xs.take i).map f ++ List.replicate (d + 1) z).set i (f (xs.getD i za)) = (xs.take (i + 1)).map f ++ List.replicate d z := by
      have h0 : i - ((xs.take i).map f).length = 0 := by simp; omega
      rw [List.take_succ_eq_append_getElem (show i < xs.length by omega), List.map_append, List.set_append_right _ _ (by simp; omega), List.append_assoc, h0]
      congr 1
      simp [List.replicate_succ, List.getD_eq_getElem?_getD, List.getElem?_eq_getElem (show i < xs.length by omega)]
    rw [e]
    exact this
theorem eq_gen {α : Type} (E : Nat → List α → List α → Int → Option Bool)
    (hstep : ∀ (xs : List α) (i : Nat), i < xs.length → xs.length ≤ 140737488351232 → Ev (fun k => E k xs xs ((i + 1 : Nat) : Int)) true → Ev (fun k => E k xs xs (i : Int)) true)
    (hend : ∀ (xs : List α), Ev (fun k => E k xs xs (xs.length : Int)) true) :
    ∀ (d : Nat) (xs : List α) (i : Nat), i + d = xs.length → xs.length ≤ 140737488351232 → Ev (fun k => E k xs xs (i : Int)) true := by
  intro d
  induction d with
  | zero => intro xs i hi hl; obtain rfl : i = xs.length := by omega
            exact hend xs
  | succ d ih => intro xs i hi hl; exact hstep xs i (by omega) hl (ih xs (i + 1) (by omega) hl)
theorem sz_gen {α : Type} (Z : Nat → List α → Int → Int → Option Int)
    (hstep : ∀ (xs : List α) (m : Int) (i : Nat), i < xs.length → xs.length ≤ 140737488351232 → (∀ m', ∃ r, Ev (fun k => Z k xs m' ((i + 1 : Nat) : Int)) r) → ∃ r, Ev (fun k => Z k xs m (i : Int)) r)
    (hend : ∀ (xs : List α) (m : Int), ∃ r, Ev (fun k => Z k xs m (xs.length : Int)) r) :
    ∀ (d : Nat) (xs : List α) (m : Int) (i : Nat), i + d = xs.length → xs.length ≤ 140737488351232 → ∃ r, Ev (fun k => Z k xs m (i : Int)) r := by
  intro d
  induction d with
  | zero => intro xs m i hi hl; obtain rfl : i = xs.length := by omega
            exact hend xs m
  | succ d ih => intro xs m i hi hl; exact hstep xs m i (by omega) hl (fun m' => ih xs m' (i + 1) (by omega) hl)
theorem wi {i n : Nat} (h : i < n) (hn : n ≤ 140737488351232) : wrap64 ((i : Int) + 1) = ((i + 1 : Nat) : Int) := by rw [w64 (by omega) (by omega)]; omega
theorem rd_nat (xs : List Int) (i : Nat) : rd xs (i : Int) = xs.getD i 0 := by unfold rd; rw [Int.toNat_natCast]
theorem rdOf_nat {α : Type} (d : α) (xs : List α) (i : Nat) : rdOf d xs (i : Int) = xs.getD i d := by unfold rdOf; rw [Int.toNat_natCast]
theorem getD_of {α : Type} {xs : List α} {i : Nat} {a : α} (d : α) (h : xs[i]? = some a) : xs.getD i d = a := by rw [List.getD_eq_getElem?_getD, h]; rfl

-- part specIn needs spec_l1In.f
theorem spec_in (a lo hi : Int) : spec_l1In.f a lo hi = some (inB a lo hi) := by
  unfold spec_l1In.f inB; rw [bo_andP]

-- part implIn needs impl_in.f
theorem impl_in_ (a lo hi : Int) : impl_in.f a lo hi = some (inB a lo hi) := by
  unfold impl_in.f inB; rw [bo_andP]

-- part goodFilterD: a good filter
def goodFilterB (h : Int) (b : ByteArray) (m : Int) : Bool := inB h 1 8 && (decide ((b.size : Int) = 32) && inB m 0 1000000)

-- part goodFilter needs spec_GoodFilter.f
theorem spec_goodFilter (h : Int) (b : ByteArray) (m : Int) : spec_GoodFilter.f h b m = some (goodFilterB h b m) := by
  unfold spec_GoodFilter.f spec_l5Hashes.f goodFilterB
  simp only [spec_in, Option.bind_some, bo_andP, Bool.decide_eq_true]

-- part implGoodFilter needs impl_GoodFilter.f
theorem impl_goodFilter (h : Int) (b : ByteArray) (m : Int) : impl_GoodFilter.f h b m = some (goodFilterB h b m) := by
  unfold impl_GoodFilter.f impl_hashesOk.f goodFilterB
  simp only [impl_in_, Option.bind_some, bo_andP, Bool.decide_eq_true]

-- part goodItem
def keyB (k : ByteArray) : Bool := inB (k.size : Int) 1 16
def seqB (q : Int) : Bool := inB q 0 1000000000
def goodItemB (k : ByteArray) (q d : Int) (v : ByteArray) : Bool := keyB k && (seqB q && (inB d 0 1 && (decide ((v.size : Int) ≤ 40) && (decide (d = 1) || (v.toList == ([] : List UInt8))))))

-- part specKey needs spec_l4Key.f
theorem spec_key (k : ByteArray) : spec_l4Key.f k = some (keyB k) := by unfold spec_l4Key.f keyB; rw [spec_in]; rfl

-- part implKey needs impl_isKey.f
theorem impl_key (k : ByteArray) : impl_isKey.f k = some (keyB k) := by unfold impl_isKey.f keyB; rw [impl_in_]; rfl

-- part sumM: the table of sums and the sum of a text
def crcStep (n : Int) : Int := if Go.bits .and .u32 n 1 = 1 then Go.bits .xor .u32 (n / 2) 2197175160 else n / 2
def crcIt : Nat → Int → Int
  | 0, n => n
  | d + 1, n => crcIt d (crcStep n)
def crcE (i : Nat) : Int := crcIt 8 (i : Int)
def crcT : List Int := (List.range 256).map crcE
theorem crcT_len : crcT.length = 256 := by simp [crcT]
theorem xor_comm_ (k : IntKind) (x y : Int) : Go.bits .xor k x y = Go.bits .xor k y x := by simp only [Go.bits, BitVec.xor_comm]
theorem bits_u8 (op : BinOp) (x y : Int) : 0 ≤ Go.bits op .u8 x y ∧ Go.bits op .u8 x y < 256 := by
  unfold Go.bits; rw [IntKind.wrap_u8]; exact ⟨Int.emod_nonneg _ (by decide), Int.emod_lt_of_pos _ (by decide)⟩
theorem bits_u32 (op : BinOp) (x y : Int) : 0 ≤ Go.bits op .u32 x y ∧ Go.bits op .u32 x y < 4294967296 := by
  unfold Go.bits; rw [IntKind.wrap_u32]; exact ⟨Int.emod_nonneg _ (by decide), Int.emod_lt_of_pos _ (by decide)⟩
def sumR (s : ByteArray) : Nat → Nat → Int → Int
  | 0, _, x => x
  | d + 1, i, x => sumR s d (i + 1) (Go.bits .xor .u32 (x / 256) (rd crcT (Go.bits .xor .u8 (x % 256) (bt s i))))
def sumOnV (x : Int) (s : ByteArray) : Int := sumR s s.size 0 x
def sumV (s : ByteArray) : Int := Go.bits .xor .u32 4294967295 (sumOnV 4294967295 s)
theorem sumV_range (s : ByteArray) : 0 ≤ sumV s ∧ sumV s < 4294967296 := bits_u32 _ _ _

-- part specTable needs spec_l2Table.f
theorem spec_table_in (d : Nat) : ∀ (T : List Int) (i x j y z : Int) (r : List Int), 0 ≤ j → j + d = 8 → 0 ≤ i → i < T.length →
    Ev (fun k => spec_l2Table.l0 k (T.set i.toNat (crcIt d x)) y (wrap64 (z + 1))) r → Ev (fun k => spec_l2Table.l1 k T i x j y z) r := by
  induction d with
  | zero =>
    intro T i x j y z r h0 hd hi hi' h
    refine Ev.step (fun k => ?_) h
    simp only [spec_l2Table.l1]
    rw [if_neg (by omega), if_pos hi, if_pos hi']; rfl
  | succ d ih =>
    intro T i x j y z r h0 hd hi hi' h
    refine Ev.step (fun k => ?_) (ih T i (crcStep x) (j + 1) y z r (by omega) (by omega) hi hi' h)
    simp only [spec_l2Table.l1]
    rw [if_pos (by omega), w64 (by omega) (by omega)]
    unfold crcStep
    split <;> rfl
theorem spec_table_l (d : Nat) : ∀ (i : Nat), i + d = 256 → Ev (fun k => spec_l2Table.l0 k ((List.range i).map crcE ++ List.replicate d 0) 256 i) crcT := by
  induction d with
  | zero =>
    intro i hi
    obtain rfl : i = 256 := by omega
    refine Ev.step (f := fun _ => some crcT) (fun k => ?_) (Ev.now _)
    simp only [spec_l2Table.l0]; rw [if_neg (by omega)]; simp [crcT]
  | succ d ih =>
    intro i hi
    have e : ((List.range i).map crcE ++ List.replicate (d + 1) 0).set (i : Int).toNat (crcE i) = (List.range (i + 1)).map crcE ++ List.replicate d 0 := by
      rw [Int.toNat_natCast, List.range_succ, List.map_append, List.set_append_right _ _ (by simp)]
      simp [List.replicate_succ]
    refine Ev.step (f := fun k => spec_l2Table.l1 k ((List.range i).map crcE ++ List.replicate (d + 1) 0) i i 0 256 i) (fun k => ?_) ?_
    · simp only [spec_l2Table.l0]; rw [if_pos (by omega), Int.emod_eq_of_lt (by omega) (by omega)]
    · refine spec_table_in 8 _ _ _ _ _ _ _ (by omega) rfl (by omega) (by simp; omega) ?_
      have := ih (i + 1) (by omega)
      rw [show crcIt 8 (i : Int) = crcE i from rfl, e, w64 (by omega) (by omega)]
      exact this
theorem spec_table : Ev (fun k => spec_l2Table.f k) crcT := by
  unfold spec_l2Table.f
  refine Ev.pos_ (by decide) ?_
  show Ev (fun k => spec_l2Table.l0 k (List.replicate 256 0) ((List.replicate 256 (0 : Int)).length : Int) 0) crcT
  rw [List.length_replicate]
  exact spec_table_l 256 0 rfl

-- part implTable needs impl_SumTable.f
theorem impl_table_in (d : Nat) : ∀ (T : List Int) (x z j : Int) (r : List Int), 0 ≤ j → j + d = 8 → T.length < 35184372088832 →
    Ev (fun k => impl_SumTable.l0 k (T ++ [crcIt d x]) ((z + 1) % 4294967296)) r → Ev (fun k => impl_SumTable.l1 k T x z j) r := by
  induction d with
  | zero =>
    intro T x z j r h0 hd hi h
    refine Ev.step (fun k => ?_) h
    simp only [impl_SumTable.l1]
    rw [if_neg (by omega), if_pos hi]; rfl
  | succ d ih =>
    intro T x z j r h0 hd hi h
    refine Ev.step (fun k => ?_) (ih T (crcStep x) z (j + 1) r (by omega) (by omega) hi h)
    simp only [impl_SumTable.l1]
    rw [if_pos (by omega), w64 (by omega) (by omega)]
    unfold crcStep
    split <;> rfl
theorem impl_table_l (d : Nat) : ∀ (i : Nat), i + d = 256 → Ev (fun k => impl_SumTable.l0 k ((List.range i).map crcE) i) crcT := by
  induction d with
  | zero =>
    intro i hi
    obtain rfl : i = 256 := by omega
    refine Ev.step (f := fun _ => some crcT) (fun k => ?_) (Ev.now _)
    simp only [impl_SumTable.l0]; rw [if_neg (by omega)]; rfl
  | succ d ih =>
    intro i hi
    refine Ev.step (f := fun k => impl_SumTable.l1 k ((List.range i).map crcE) i i 0) (fun k => ?_) ?_
    · simp only [impl_SumTable.l0]; rw [if_pos (by omega)]
    · refine impl_table_in 8 _ _ _ _ _ (by omega) rfl (by simp; omega) ?_
      have := ih (i + 1) (by omega)
      rw [Int.emod_eq_of_lt (by omega) (by omega)]
      rw [List.range_succ, List.map_append] at this
      exact this
theorem impl_table : Ev (fun k => impl_SumTable.f k) crcT := impl_table_l 256 0 rfl

-- part specOn needs spec_l2On.f
theorem spec_on_l (s : ByteArray) (hs : s.size ≤ 140737488351232) (d : Nat) : ∀ (i : Nat) (x : Int), i + d = s.size → Ev (fun k => spec_l2On.l0 k crcT x s i) (sumR s d i x) := by
  induction d with
  | zero =>
    intro i x hi
    refine Ev.step (f := fun _ => some x) (fun k => ?_) (Ev.now _)
    simp only [spec_l2On.l0]; rw [if_neg (by omega)]
  | succ d ih =>
    intro i x hi
    have hr := bits_u8 .xor (x % 256) (bt s i)
    refine Ev.step (fun k => ?_) (ih (i + 1) _ (by omega))
    simp only [spec_l2On.l0]
    rw [if_pos (by omega), if_pos (by omega), if_pos hr.1, if_pos (by rw [crcT_len]; exact hr.2), xor_comm_ .u32, w64 (by omega) (by omega)]; rfl
theorem spec_on (x : Int) (s : ByteArray) (hs : s.size ≤ 140737488351232) : Ev (fun k => spec_l2On.f k crcT x s) (sumOnV x s) := spec_on_l s hs _ 0 x (by omega)

-- part implOn needs impl_SumOn.f
theorem impl_on_l (s : ByteArray) (hs : s.size ≤ 140737488351232) (d : Nat) : ∀ (i : Nat) (x : Int), i + d = s.size → Ev (fun k => impl_SumOn.l0 k x s crcT (s.size : Int) i) (sumR s d i x) := by
  induction d with
  | zero =>
    intro i x hi
    refine Ev.step (f := fun _ => some x) (fun k => ?_) (Ev.now _)
    simp only [impl_SumOn.l0]; rw [if_neg (by omega)]
  | succ d ih =>
    intro i x hi
    have hr := bits_u8 .xor (x % 256) (bt s i)
    refine Ev.step (fun k => ?_) (ih (i + 1) _ (by omega))
    simp only [impl_SumOn.l0]
    rw [if_pos (by omega), if_pos (by omega), if_pos (by omega), if_pos hr.1, if_pos (by rw [crcT_len]; exact hr.2), w64 (by omega) (by omega)]; rfl
theorem impl_on (x : Int) (s : ByteArray) (hs : s.size ≤ 140737488351232) : Ev (fun k => impl_SumOn.f k x s) (sumOnV x s) :=
  Ev.bind impl_table (impl_on_l s hs _ 0 x (by omega))

-- part implSum needs impl_SumOf.f
theorem impl_sum (s : ByteArray) (hs : s.size ≤ 140737488351232) : Ev (fun k => impl_SumOf.f k s) (sumV s) :=
  Ev.bind (impl_on 4294967295 s hs) (Ev.now _)

-- part placesM: the places of a key
def placesR (b : Int) : Nat → Int → List Int
  | 0, _ => []
  | d + 1, a => (a % 256) :: placesR b d ((a + b) % 4294967296)
def placesV (key : ByteArray) (h : Int) : List Int := placesR (Go.bits .or .u32 (sumOnV 0 key) 1) h.toNat (sumV key)
theorem placesR_len (b : Int) : ∀ (d : Nat) (a : Int), (placesR b d a).length = d := by
  intro d; induction d with
  | zero => intro a; rfl
  | succ d ih => intro a; simp [placesR, ih]
theorem placesR_mem (b : Int) : ∀ (d : Nat) (a x : Int), x ∈ placesR b d a → 0 ≤ x ∧ x < 256 := by
  intro d; induction d with
  | zero => intro a x h; cases h
  | succ d ih =>
    intro a x h
    rcases List.mem_cons.1 h with rfl | h
    · omega
    · exact ih _ _ h
theorem placesV_len (key : ByteArray) {h : Int} (h0 : 0 ≤ h) : ((placesV key h).length : Int) = h := by unfold placesV; rw [placesR_len]; omega

-- part specPlaces needs spec_l5Places.f
theorem spec_places_l (h b : Int) (hh : h ≤ 8) : ∀ (d : Nat) (a : Int) (acc : List Int) (i : Int), 0 ≤ i → i + d = h → 0 ≤ a → acc.length + d ≤ 1000 → Ev (fun k => spec_l5Places.l0 k h a b acc i) (acc ++ placesR b d a) := by
  intro d
  induction d with
  | zero =>
    intro a acc i h0 hi ha hl
    refine Ev.step (f := fun _ => some acc) (fun k => ?_) (by simpa [placesR] using Ev.now _)
    simp only [spec_l5Places.l0]; rw [if_neg (by omega)]
  | succ d ih =>
    intro a acc i h0 hi ha hl
    have := ih ((a + b) % 4294967296) (acc ++ [a % 256]) (i + 1) (by omega) (by omega) (Int.emod_nonneg _ (by decide)) (by simp; omega)
    rw [List.append_assoc] at this
    refine Ev.step (fun k => ?_) this
    simp only [spec_l5Places.l0]
    rw [if_pos (by omega), if_pos (by omega), Int.tmod_eq_emod_of_nonneg ha, w64 (by omega) (by omega), w64 (by omega) (by omega)]
theorem spec_places (key : ByteArray) (h : Int) (h0 : 0 ≤ h) (hh : h ≤ 8) (hs : key.size ≤ 140737488351232) : Ev (fun k => spec_l5Places.f k key h) (placesV key h) := by
  unfold spec_l5Places.f
  refine Ev.bind spec_table (Ev.bind (spec_on 4294967295 key hs) (Ev.bind (spec_on 0 key hs) ?_))
  exact spec_places_l h _ hh h.toNat _ [] 0 (by omega) (by omega) (sumV_range key).1 (by simp; omega)

-- part implPlaces needs impl_places.f
theorem impl_places_l (h b : Int) (hh : h ≤ 8) : ∀ (d : Nat) (a : Int) (acc : List Int) (i : Int), 0 ≤ i → i + d = h → 0 ≤ a → acc.length + d ≤ 1000 → Ev (fun k => impl_places.l0 k a b acc h i) (acc ++ placesR b d a) := by
  intro d
  induction d with
  | zero =>
    intro a acc i h0 hi ha hl
    refine Ev.step (f := fun _ => some acc) (fun k => ?_) (by simpa [placesR] using Ev.now _)
    simp only [impl_places.l0]; rw [if_neg (by omega)]
  | succ d ih =>
    intro a acc i h0 hi ha hl
    have := ih ((a + b) % 4294967296) (acc ++ [a % 256]) (i + 1) (by omega) (by omega) (Int.emod_nonneg _ (by decide)) (by simp; omega)
    rw [List.append_assoc] at this
    refine Ev.step (fun k => ?_) this
    simp only [impl_places.l0]
    rw [if_pos (by omega), if_pos (by omega), Int.tmod_eq_emod_of_nonneg ha, w64 (by omega) (by omega), w64 (by omega) (by omega)]
theorem impl_places_ (key : ByteArray) (h : Int) (h0 : 0 ≤ h) (hh : h ≤ 8) (hs : key.size ≤ 140737488351232) : Ev (fun k => impl_places.f k key h) (placesV key h) := by
  unfold impl_places.f
  refine Ev.bind (impl_sum key hs) (Ev.bind (impl_on 0 key hs) ?_)
  exact impl_places_l h _ hh h.toNat _ [] 0 (by omega) (by omega) (sumV_range key).1 (by simp; omega)

-- part onesM: how many bits are set
def pop : Nat → Int → Int
  | 0, _ => 0
  | d + 1, x => x % 2 + pop d (x / 2)
theorem pop_zero : ∀ d, pop d 0 = 0 := by
  intro d; induction d with
  | zero => rfl
  | succ d ih => simp [pop, ih]
theorem pop_range : ∀ (d : Nat) (x : Int), 0 ≤ pop d x ∧ pop d x ≤ d := by
  intro d; induction d with
  | zero => intro x; simp [pop]
  | succ d ih => intro x; have := ih (x / 2); unfold pop; omega
def bitAt (s : ByteArray) (k : Nat) : Int := (bt s ((k / 8 : Nat) : Int) / 2 ^ (k % 8)) % 2
def countR (s : ByteArray) : Nat → Nat → Int
  | 0, _ => 0
  | d + 1, k => bitAt s k + countR s d (k + 1)
theorem bitAt_range (s : ByteArray) (k : Nat) : 0 ≤ bitAt s k ∧ bitAt s k < 2 := by unfold bitAt; omega
theorem countR_range (s : ByteArray) : ∀ (d k : Nat), 0 ≤ countR s d k ∧ countR s d k ≤ d := by
  intro d; induction d with
  | zero => intro k; simp [countR]
  | succ d ih => intro k; have := ih (k + 1); have := bitAt_range s k; unfold countR; omega
theorem and1 {b : Int} (h0 : 0 ≤ b) (h1 : b ≤ 255) : Go.bits .and .u8 b 1 = b % 2 := bits_mask .u8 8 (by decide) wraps_u8 1 (by decide) b h0 (by omega)
theorem count_byte (s : ByteArray) (d i : Nat) : countR s (8 + d) (8 * i) = pop 8 (bt s i) + countR s d (8 * (i + 1)) := by
  have e : ∀ j, j < 8 → bitAt s (8 * i + j) = (bt s i / 2 ^ j) % 2 := by
    intro j hj
    unfold bitAt
    rw [show (8 * i + j) / 8 = i by omega, show (8 * i + j) % 8 = j by omega]
  have e0 := e 0 (by omega); have e1 := e 1 (by omega); have e2 := e 2 (by omega); have e3 := e 3 (by omega)
  have e4 := e 4 (by omega); have e5 := e 5 (by omega); have e6 := e 6 (by omega); have e7 := e 7 (by omega)
  rw [show 8 + d = d + 1 + 1 + 1 + 1 + 1 + 1 + 1 + 1 by omega]
  simp only [countR, pop, Nat.add_assoc, Nat.reduceAdd]
  simp only [Nat.add_zero] at e0
  rw [e0, e1, e2, e3, e4, e5, e6, e7, show 8 * (i + 1) = 8 * i + 8 by omega]
  omega
def onesV (h : Int) (b : ByteArray) (m : Int) : Int × Bool := if goodFilterB h b m = true then (countR b 256 0, true) else (0, false)
theorem goodFilterB_size {h : Int} {b : ByteArray} {m : Int} (hg : goodFilterB h b m = true) : 1 ≤ h ∧ h ≤ 8 ∧ b.size = 32 ∧ 0 ≤ m ∧ m ≤ 1000000 := by
  unfold goodFilterB at hg
  simp only [Bool.and_eq_true, decide_eq_true_eq, inB_iff] at hg
  omega

-- part implHas needs impl_Filter_has.f
theorem impl_has {b : ByteArray} (h m : Int) (k : Nat) (hk : k < 8 * b.size) (hs : b.size ≤ 1000) : impl_Filter_has.f h b m k = some ((bitAt b k == 1), h, b, m) := by
  unfold impl_Filter_has.f
  have e1 : wrap64 (Int.tdiv (k : Int) 8) = ((k / 8 : Nat) : Int) := by rw [Int.tdiv_eq_ediv_of_nonneg (by omega), w64 (by omega) (by omega)]; omega
  have e2 : Int.tmod (k : Int) 8 = ((k % 8 : Nat) : Int) := by rw [Int.tmod_eq_emod_of_nonneg (by omega)]; omega
  obtain ⟨b0, b1⟩ := bt_range b ((k / 8 : Nat) : Int)
  have e3 : shr .u8 (bt b ((k / 8 : Nat) : Int)) ((k % 8 : Nat) : Int) = bt b ((k / 8 : Nat) : Int) / 2 ^ (k % 8) := by
    unfold shr
    rw [Int.toNat_natCast, Nat.min_eq_left (by have : IntKind.u8.bits = 8 := rfl; omega)]
  have hp : (0 : Int) < 2 ^ (k % 8) := Int.pow_pos (by decide)
  have h4 : 0 ≤ bt b ((k / 8 : Nat) : Int) / 2 ^ (k % 8) := Int.ediv_nonneg b0 (by omega)
  have h5 : bt b ((k / 8 : Nat) : Int) / 2 ^ (k % 8) ≤ 255 := Int.le_trans (Int.ediv_le_self _ b0) b1
  rw [e1, e2, if_pos (by omega), if_pos (by omega), if_pos (by omega), e3, and1 h4 h5]
  rfl

-- part implOnes needs impl_OnesIn.f
theorem impl_ones_l (h : Int) (b : ByteArray) (m : Int) (hb : b.size = 32) : ∀ (d i : Nat) (n : Int), i + d = 256 → 0 ≤ n → n ≤ i → Ev (fun k => impl_OnesIn.l0 k n i h b m) (n + countR b d i, true) := by
  intro d
  induction d with
  | zero =>
    intro i n hi hn hn'
    refine Ev.step (fun k => by rw [impl_OnesIn.l0]) ?_
    refine Ev.neg_ (by omega) ?_
    simpa [countR] using Ev.now _
  | succ d ih =>
    intro i n hi hn hn'
    refine Ev.step (fun k => by rw [impl_OnesIn.l0]) ?_
    refine Ev.pos_ (by omega) ?_
    rw [impl_has h m i (by omega) (by omega)]
    have hr := bitAt_range b i
    have ew : wrap64 ((i : Int) + 1) = ((i + 1 : Nat) : Int) := by rw [w64 (by omega) (by omega)]; omega
    have en : wrap64 (n + 1) = n + 1 := w64 (by omega) (by omega)
    simp only [Option.bind_some, ew, en, countR]
    by_cases h1 : bitAt b i = 1
    · refine Ev.pos_ (by simpa using h1) ?_
      have := ih (i + 1) (n + 1) (by omega) (by omega) (by omega)
      rw [h1, ← Int.add_assoc]; exact this
    · refine Ev.neg_ (by simpa using h1) ?_
      have := ih (i + 1) n (by omega) (by omega) (by omega)
      rw [show bitAt b i = 0 by omega, Int.zero_add]; exact this
theorem impl_ones (h : Int) (b : ByteArray) (m : Int) : Ev (fun k => impl_OnesIn.f k h b m) (onesV h b m) := by
  unfold impl_OnesIn.f onesV
  simp only [impl_goodFilter, Option.bind_some]
  by_cases hg : goodFilterB h b m = true
  · simp only [if_pos hg]
    have := impl_ones_l h b m (goodFilterB_size hg).2.2.1 256 0 0 rfl (by omega) (by omega)
    simpa using this
  · simp only [if_neg hg]; exact Ev.now _

-- part byL: rows of bytes
def ByL (l : List Int) : Prop := ∀ x ∈ l, 0 ≤ x ∧ x ≤ 255
theorem byL {l : List Int} (h : ∀ x ∈ l, (Lit.int .u8 x).wf = true) : ByL l := fun x hx => by
  have := h x hx
  simp only [Lit.wf, Bool.and_eq_true, decide_eq_true_eq] at this
  exact this
theorem ByL.rd_ {l : List Int} (h : ByL l) (i : Int) : 0 ≤ rd l i ∧ rd l i ≤ 255 := by
  unfold rd
  rw [List.getD_eq_getElem?_getD]
  cases e : l[i.toNat]? with
  | none => simp
  | some x => exact h x (List.mem_of_getElem? e)

-- part drawNext needs spec_l1Cur_next.f
theorem and255_ {b : Int} (h0 : 0 ≤ b) (h1 : b < 18446744073709551616) : Go.bits .and .u64 b 255 = b % 256 := bits_mask .u64 64 (by decide) (fun n a b => by rw [wrap_u64]; omega) 8 (by decide) b h0 (by omega)
theorem mix_range (x : Int) : 0 ≤ wrap64 (Go.bits .and .u64 (IntKind.u64.wrap x / 1099511627776) 255) ∧ wrap64 (Go.bits .and .u64 (IntKind.u64.wrap x / 1099511627776) 255) ≤ 255 := by
  rw [wrap_u64, and255_ (by omega) (by omega), w64 (by omega) (by omega)]
  omega
theorem draw_next {l : List Int} (hl : ByL l) (a s : Int) (h0 : 0 ≤ a) (h1 : a ≤ 4611686018427387904) : ∃ b s', spec_l1Cur_next.f l a s = some (b, a + 1, s') ∧ 0 ≤ b ∧ b ≤ 255 := by
  have hw : wrap64 (a + 1) = a + 1 := w64 (by omega) (by omega)
  have hr := hl.rd_ a
  have hwr : wrap64 (rd l a) = rd l a := w64 (by omega) (by omega)
  unfold spec_l1Cur_next.f
  rw [hw, if_pos h0]
  split
  · split
    · exact ⟨_, _, rfl, by rw [hwr]; exact hr⟩
    · exact ⟨_, _, rfl, mix_range _⟩
  · split
    · exact ⟨_, _, rfl, by omega, by omega⟩
    · exact ⟨_, _, rfl, mix_range _⟩

-- part drawPick needs spec_l1Cur_pick.f
theorem tmod_range {x n : Int} (hx : 0 ≤ x) (hn : 1 ≤ n) : 0 ≤ Int.tmod x n ∧ Int.tmod x n < n ∧ Int.tmod x n ≤ x := by
  rw [Int.tmod_eq_emod_of_nonneg hx]
  have h1 := Int.emod_add_mul_ediv x n
  have h2 : 0 ≤ x / n := Int.ediv_nonneg hx (by omega)
  have h3 := Int.mul_nonneg (show (0 : Int) ≤ n by omega) h2
  exact ⟨Int.emod_nonneg _ (by omega), Int.emod_lt_of_pos _ (by omega), by omega⟩
theorem draw_pick {l : List Int} (hl : ByL l) (a s n : Int) (h0 : 0 ≤ a) (h1 : a ≤ 4611686018427387000) : ∃ v a' s', spec_l1Cur_pick.f l a s n = some (v, a', s') ∧ a ≤ a' ∧ a' ≤ a + 2 ∧ 0 ≤ v ∧ (1 ≤ n → v < n) ∧ v ≤ 65535 := by
  unfold spec_l1Cur_pick.f
  by_cases hn : n ≤ 1
  · rw [if_pos hn]; exact ⟨_, _, _, rfl, by omega, by omega, by omega, fun h => by omega, by omega⟩
  · rw [if_neg hn]
    obtain ⟨b, s1, e1, hb0, hb1⟩ := draw_next hl a s h0 (by omega)
    rw [e1, Option.bind_some]
    simp only
    by_cases h2 : n > 200
    · obtain ⟨c, s2, e2, hc0, hc1⟩ := draw_next hl (a + 1) s1 (by omega) (by omega)
      rw [if_pos h2, e2, Option.bind_some, if_neg (by omega), w64 (n := b * 256) (by omega) (by omega), w64 (n := b * 256 + c) (by omega) (by omega)]
      have := tmod_range (x := b * 256 + c) (n := n) (by omega) (by omega)
      exact ⟨_, _, _, rfl, by simp only; omega, by simp only; omega, this.1, fun _ => this.2.1, by omega⟩
    · rw [if_neg h2, if_neg (by omega)]
      have := tmod_range (x := b) (n := n) (by omega) (by omega)
      exact ⟨_, _, _, rfl, by omega, by omega, this.1, fun _ => this.2.1, by omega⟩

-- part drawAmong needs spec_l1Cur_among.f
theorem draw_among {l : List Int} (hl : ByL l) (a s : Int) (h0 : 0 ≤ a) (h1 : a ≤ 4611686018427387000) (xs : List Int) (hx : 1 ≤ xs.length) : ∃ v a' s', spec_l1Cur_among.f l a s xs = some (v, a', s') ∧ a ≤ a' ∧ a' ≤ a + 2 ∧ v ∈ xs := by
  unfold spec_l1Cur_among.f
  obtain ⟨i, a', s', e, h2, h3, h4, h5, h6⟩ := draw_pick hl a s (xs.length : Int) h0 h1
  have := h5 (by omega)
  rw [e, Option.bind_some]
  simp only
  rw [if_pos h4, if_pos this]
  refine ⟨_, _, _, rfl, h2, h3, ?_⟩
  unfold rd
  rw [List.getD_eq_getElem?_getD, List.getElem?_eq_getElem (by omega)]
  exact List.getElem_mem _

-- part drawOf needs spec_l1Cur_of.f
theorem draw_of {l : List Int} (hl : ByL l) (a s : Int) (h0 : 0 ≤ a) (h1 : a ≤ 4611686018427387000) (xs : List ByteArray) (hx : 1 ≤ xs.length) : ∃ v a' s', spec_l1Cur_of.f l a s xs = some (v, a', s') ∧ a ≤ a' ∧ a' ≤ a + 2 ∧ v ∈ xs := by
  unfold spec_l1Cur_of.f
  obtain ⟨i, a', s', e, h2, h3, h4, h5, h6⟩ := draw_pick hl a s (xs.length : Int) h0 h1
  have := h5 (by omega)
  rw [e, Option.bind_some]
  simp only
  rw [if_pos h4, if_pos this]
  refine ⟨_, _, _, rfl, h2, h3, ?_⟩
  unfold rdOf
  rw [List.getD_eq_getElem?_getD, List.getElem?_eq_getElem (by omega)]
  exact List.getElem_mem _

-- part bytesM: bytes of a row
theorem bt_strOfNums {xs : List Int} (h : ByL xs) (i : Nat) : bt (strOfNums xs) (i : Int) = rd xs (i : Int) := by
  unfold bt rd
  rw [List.getD_eq_getElem?_getD]
  by_cases hi : i < xs.length
  · rw [dif_pos (by rw [strOfNums_size]; simpa using hi), List.getElem?_eq_getElem (by simpa using hi)]
    have := h _ (List.getElem_mem hi)
    have e : ((strOfNums xs)[(i : Int).toNat]'(by rw [strOfNums_size]; simpa using hi)) = UInt8.ofNat (xs[i]).toNat := by
      unfold strOfNums
      rw [ByteArray.getElem_eq_getElem_data]
      simp
    rw [e]
    simp only [UInt8.toNat_ofNat', Int.toNat_natCast, Option.getD_some]
    omega
  · rw [dif_neg (by rw [strOfNums_size]; simpa using hi), List.getElem?_eq_none (by simpa using hi)]; rfl
theorem rd_set (xs : List Int) (i j : Nat) (v : Int) (hi : i < xs.length) : rd (xs.set i v) (j : Int) = if j = i then v else rd xs (j : Int) := by
  unfold rd
  rw [List.getD_eq_getElem?_getD, List.getD_eq_getElem?_getD, Int.toNat_natCast]
  by_cases e : j = i
  · subst e; rw [if_pos rfl, List.getElem?_set_self hi]; rfl
  · rw [if_neg e, List.getElem?_set_ne (by omega)]
theorem ByL.set_ {xs : List Int} (h : ByL xs) (i : Nat) {v : Int} (hv : 0 ≤ v ∧ v ≤ 255) : ByL (xs.set i v) := fun x hx => by
  rcases List.mem_or_eq_of_mem_set hx with hx | rfl
  · exact h x hx
  · exact hv
theorem ByL.zeros (n : Nat) : ByL (List.replicate n 0) := fun x hx => by
  have := List.eq_of_mem_replicate hx; omega

-- part rdBytes: bytes of a text, as a row
theorem rd_bytesOf (s : ByteArray) (j : Nat) : rd (bytesOf s) (j : Int) = bt s (j : Int) := by
  unfold rd bt
  rw [List.getD_eq_getElem?_getD, Int.toNat_natCast]
  by_cases h : j < s.size
  · rw [List.getElem?_eq_getElem (by rw [bytesOf_length]; exact h), dif_pos h]
    simp [bytesOf]; rfl
  · rw [List.getElem?_eq_none (by rw [bytesOf_length]; omega), dif_neg h]; rfl
theorem ByL.bytes (s : ByteArray) : ByL (bytesOf s) := fun x hx => by
  obtain ⟨j, hj, rfl⟩ := List.getElem_of_mem hx
  have := rd_bytesOf s j
  unfold rd at this
  rw [List.getD_eq_getElem?_getD, Int.toNat_natCast, List.getElem?_eq_getElem hj] at this
  have h2 := bt_range s (j : Int)
  simp only [Option.getD_some] at this
  omega
theorem shl_one : ∀ r : Nat, r < 8 → shl .u8 1 (r : Int) = ((2 ^ r : Nat) : Int) := by
  intro r hr
  have h : ∀ r : Fin 8, shl .u8 1 (r.val : Int) = ((2 ^ r.val : Nat) : Int) := by decide
  exact h ⟨r, hr⟩

-- part addM: bits are set
def addBit (xs : List Int) (p : Int) : List Int := xs.set (p / 8).toNat (Go.bits .or .u8 (rd xs (p / 8)) (shl .u8 1 (p % 8)))
def addAll (xs ps : List Int) : List Int := ps.foldl addBit xs
theorem addBit_len (xs : List Int) (p : Int) : (addBit xs p).length = xs.length := by unfold addBit; simp
theorem addAll_len (ps : List Int) : ∀ xs : List Int, (addAll xs ps).length = xs.length := by
  induction ps with
  | nil => intro xs; rfl
  | cons p ps ih => intro xs; show (addAll (addBit xs p) ps).length = _; rw [ih, addBit_len]
theorem addAll_drop (xs ps : List Int) (i : Nat) (h : i < ps.length) : addAll xs (ps.drop i) = addAll (addBit xs (rd ps (i : Int))) (ps.drop (i + 1)) := by
  rw [List.drop_eq_getElem_cons h]
  unfold rd
  rw [List.getD_eq_getElem?_getD, Int.toNat_natCast, List.getElem?_eq_getElem h]; rfl
def addV (h : Int) (b : ByteArray) (m : Int) (key : ByteArray) : Int × ByteArray × Int := (h, strOfNums (addAll (bytesOf b) (placesV key h)), if m < 1000000 then m + 1 else m)
theorem placesV_rd (key : ByteArray) (h : Int) (i : Nat) (hi : i < (placesV key h).length) : 0 ≤ rd (placesV key h) (i : Int) ∧ rd (placesV key h) (i : Int) < 256 := by
  unfold rd
  rw [List.getD_eq_getElem?_getD, Int.toNat_natCast, List.getElem?_eq_getElem hi]
  exact placesR_mem _ _ _ _ (List.getElem_mem hi)
theorem goodFilterB_iff {h : Int} {b : ByteArray} {m : Int} (g : goodFilterB h b m = true) : 1 ≤ h ∧ h ≤ 8 ∧ b.size = 32 ∧ 0 ≤ m ∧ m ≤ 1000000 := by
  unfold goodFilterB at g
  simp only [Bool.and_eq_true, inB_iff, decide_eq_true_eq] at g
  omega

-- part specAdd needs spec_l5Add.f
theorem spec_add_l (h : Int) (b : ByteArray) (m : Int) (hm : 0 ≤ m ∧ m ≤ 1000000) (ps : List Int) (hn : ps.length ≤ 1000) (hp : ∀ i : Nat, i < ps.length → 0 ≤ rd ps (i : Int) ∧ rd ps (i : Int) < 256) : ∀ (d i : Nat) (xs : List Int), i + d = ps.length → xs.length = 32 →
    Ev (fun k => spec_l5Add.l0 k xs ps (ps.length : Int) i h b m) (h, strOfNums (addAll xs (ps.drop i)), if m < 1000000 then m + 1 else m) := by
  intro d
  induction d with
  | zero =>
    intro i xs hi hx
    refine Ev.step (fun k => by rw [spec_l5Add.l0]) ?_
    rw [List.drop_eq_nil_of_le (by omega)]
    refine Ev.neg_ (by omega) (Ev.ite_ (fun hl => ?_) (fun hl => ?_))
    · rw [if_pos hl, w64 (n := m + 1) (by omega) (by omega)]; exact Ev.now _
    · rw [if_neg hl]; exact Ev.now _
  | succ d ih =>
    intro i xs hi hx
    have hr := hp i (by omega)
    refine Ev.step (fun k => by rw [spec_l5Add.l0]) ?_
    rw [w64 (n := (i : Int) + 1) (by omega) (by omega), Int.tdiv_eq_ediv_of_nonneg hr.1, Int.tmod_eq_emod_of_nonneg hr.1, w64 (n := rd ps (i : Int) / 8) (by omega) (by omega), wu64 (n := rd ps (i : Int) % 8) (by omega) (by omega)]
    refine Ev.pos_ (by omega) (Ev.pos_ (by omega) (Ev.pos_ (by omega) (Ev.pos_ (by omega) (Ev.pos_ (by omega) (Ev.pos_ (by omega) ?_)))))
    have := ih (i + 1) (addBit xs (rd ps (i : Int))) (by omega) (by rw [addBit_len]; exact hx)
    rw [← addAll_drop xs ps i (by omega)] at this
    exact this
theorem spec_add (h : Int) (b : ByteArray) (m : Int) (key : ByteArray) (g : goodFilterB h b m = true) (hk : key.size ≤ 140737488351232) : Ev (fun k => spec_l5Add.f k h b m key) (addV h b m key) := by
  have hh := goodFilterB_iff g
  have hl := placesV_len key (h := h) (by omega)
  unfold spec_l5Add.f
  refine Ev.pos_ (by omega) (Ev.bind (spec_places key h (by omega) (by omega) hk) ?_)
  exact spec_add_l h b m (by omega) (placesV key h) (by omega) (placesV_rd key h) (placesV key h).length 0 (bytesOf b) (by omega) (by rw [bytesOf_length]; omega)

-- part specAddKey needs spec_AddKey.f
theorem spec_addKey (h : Int) (b : ByteArray) (m : Int) (key : ByteArray) (hk : key.size ≤ 140737488351232) :
    Ev (fun k => spec_AddKey.f k h b m key) (if goodFilterB h b m = true ∧ keyB key = true then ((addV h b m key).1, (addV h b m key).2.1, (addV h b m key).2.2, true) else (0, ⟨#[]⟩, 0, false)) := by
  unfold spec_AddKey.f
  simp only [spec_goodFilter, spec_key, Option.bind_some]
  by_cases g : goodFilterB h b m = true
  · by_cases gk : keyB key = true
    · rw [if_pos ⟨g, gk⟩]; exact Ev.pos_ g (Ev.pos_ gk (Ev.bind (spec_add h b m key g hk) (Ev.now _)))
    · rw [if_neg (fun e => gk e.2)]; exact Ev.pos_ g (Ev.neg_ gk (Ev.now _))
  · rw [if_neg (fun e => g e.1)]; exact Ev.neg_ g (Ev.now _)

-- part implAdd needs impl_AddKey.f
theorem impl_add_l (h : Int) (b : ByteArray) (m : Int) (hm : 0 ≤ m ∧ m ≤ 1000000) (ps : List Int) (hn : ps.length ≤ 1000) (hp : ∀ i : Nat, i < ps.length → 0 ≤ rd ps (i : Int) ∧ rd ps (i : Int) < 256) : ∀ (d i : Nat) (xs : List Int), i + d = ps.length → xs.length = 32 →
    Ev (fun k => impl_AddKey.l0 k xs ps (ps.length : Int) i h b m) (h, strOfNums (addAll xs (ps.drop i)), if m < 1000000 then m + 1 else m, true) := by
  intro d
  induction d with
  | zero =>
    intro i xs hi hx
    refine Ev.step (fun k => by rw [impl_AddKey.l0]) ?_
    rw [List.drop_eq_nil_of_le (by omega)]
    refine Ev.neg_ (by omega) ?_
    rw [w64 (n := m + 1) (by omega) (by omega)]
    have : mn (m + 1) 1000000 = if m < 1000000 then m + 1 else m := by unfold mn; split <;> split <;> omega
    rw [this]; exact Ev.now _
  | succ d ih =>
    intro i xs hi hx
    have hr := hp i (by omega)
    refine Ev.step (fun k => by rw [impl_AddKey.l0]) ?_
    rw [w64 (n := (i : Int) + 1) (by omega) (by omega), Int.tdiv_eq_ediv_of_nonneg hr.1, Int.tmod_eq_emod_of_nonneg hr.1, w64 (n := rd ps (i : Int) / 8) (by omega) (by omega)]
    refine Ev.pos_ (by omega) (Ev.pos_ (by omega) (Ev.pos_ (by omega) (Ev.pos_ (by omega) (Ev.pos_ (by omega) (Ev.pos_ (by omega) ?_)))))
    have := ih (i + 1) (addBit xs (rd ps (i : Int))) (by omega) (by rw [addBit_len]; exact hx)
    rw [← addAll_drop xs ps i (by omega)] at this
    exact this
theorem impl_addKey (h : Int) (b : ByteArray) (m : Int) (key : ByteArray) (hk : key.size ≤ 140737488351232) :
    Ev (fun k => impl_AddKey.f k h b m key) (if goodFilterB h b m = true ∧ keyB key = true then ((addV h b m key).1, (addV h b m key).2.1, (addV h b m key).2.2, true) else (0, ⟨#[]⟩, 0, false)) := by
  unfold impl_AddKey.f
  simp only [impl_goodFilter, impl_key, Option.bind_some]
  by_cases g : goodFilterB h b m = true
  · refine Ev.pos_ g (Ev.step (fun k => by rw [impl_AddKey.j0]) ?_)
    by_cases gk : keyB key = true
    · have hh := goodFilterB_iff g
      have hl := placesV_len key (h := h) (by omega)
      rw [if_pos ⟨g, gk⟩]
      refine Ev.neg_ (by simp [gk]) (Ev.pos_ (by omega) (Ev.bind (impl_places_ key h (by omega) (by omega) hk) ?_))
      exact impl_add_l h b m (by omega) (placesV key h) (by omega) (placesV_rd key h) (placesV key h).length 0 (bytesOf b) (by omega) (by rw [bytesOf_length]; omega)
    · rw [if_neg (fun e => gk e.2)]; exact Ev.pos_ (by simp [gk]) (Ev.now _)
  · rw [if_neg (fun e => g e.1)]
    refine Ev.neg_ g (Ev.step (fun k => by rw [impl_AddKey.j0]) ?_)
    exact Ev.pos_ rfl (Ev.now _)

-- part mayM: are all the places of a key set
def hasP (b : ByteArray) (p : Int) : Bool := bitAt b p.toNat == 1
def mayV (h : Int) (b : ByteArray) (key : ByteArray) : Bool := (placesV key h).all (hasP b)
theorem all_drop {α : Type} (f : α → Bool) (xs : List α) (i : Nat) (h : i < xs.length) : (xs.drop i).all f = (f (xs[i]'h) && (xs.drop (i + 1)).all f) := by
  rw [List.drop_eq_getElem_cons h]; rfl
theorem rd_get {xs : List Int} {i : Nat} (h : i < xs.length) : rd xs (i : Int) = xs[i]'h := by
  unfold rd
  rw [List.getD_eq_getElem?_getD, Int.toNat_natCast, List.getElem?_eq_getElem h]; rfl
theorem bit_shr {b : ByteArray} {p : Int} (h0 : 0 ≤ p) (h1 : p < 256) : Go.bits .and .u8 (shr .u8 (bt b (p / 8)) (p % 8)) 1 = bitAt b p.toNat := by
  obtain ⟨n, rfl⟩ := Int.eq_ofNat_of_zero_le h0
  obtain ⟨b0, b1⟩ := bt_range b ((n / 8 : Nat) : Int)
  have e1 : (n : Int) / 8 = ((n / 8 : Nat) : Int) := by omega
  have e2 : (n : Int) % 8 = ((n % 8 : Nat) : Int) := by omega
  have e3 : shr .u8 (bt b ((n / 8 : Nat) : Int)) ((n % 8 : Nat) : Int) = bt b ((n / 8 : Nat) : Int) / 2 ^ (n % 8) := by
    unfold shr
    rw [Int.toNat_natCast, Nat.min_eq_left (by have : IntKind.u8.bits = 8 := rfl; omega)]
  have hp : (0 : Int) < 2 ^ (n % 8) := Int.pow_pos (by decide)
  have h4 : 0 ≤ bt b ((n / 8 : Nat) : Int) / 2 ^ (n % 8) := Int.ediv_nonneg b0 (by omega)
  have h5 : bt b ((n / 8 : Nat) : Int) / 2 ^ (n % 8) ≤ 255 := Int.le_trans (Int.ediv_le_self _ b0) b1
  rw [e1, e2, e3, and1 h4 h5]; rfl

-- part implMay needs impl_MayHave.f
theorem impl_index_l (h : Int) (b : ByteArray) (m : Int) (hb : b.size = 32) (ps : List Int) (hn : ps.length ≤ 1000) (hp : ∀ i : Nat, i < ps.length → 0 ≤ rd ps (i : Int) ∧ rd ps (i : Int) < 256) : ∀ (d i : Nat), i + d = ps.length →
    ∃ x, decide (x ≥ 0) = !(ps.drop i).all (hasP b) ∧ Ev (fun k => slices_IndexFunc_int_int_f50.l0 k ps (ps.length : Int) i h b m) (x, h, b, m) := by
  intro d
  induction d with
  | zero =>
    intro i hi
    refine ⟨-1, ?_, ?_⟩
    · rw [List.drop_eq_nil_of_le (by omega)]; rfl
    refine Ev.step (fun k => by rw [slices_IndexFunc_int_int_f50.l0]) ?_
    exact Ev.neg_ (by omega) (Ev.now _)
  | succ d ih =>
    intro i hi
    have hr := hp i (by omega)
    obtain ⟨x, hx, hE⟩ := ih (i + 1) (by omega)
    have e : impl_MayHave_1.f (rd ps (i : Int)) h b m = some (!hasP b (rd ps (i : Int)), h, b, m) := by
      unfold impl_MayHave_1.f
      have := impl_has (b := b) h m (rd ps (i : Int)).toNat (by omega) (by omega)
      rw [Int.toNat_of_nonneg hr.1] at this
      rw [this]; rfl
    rw [all_drop _ ps i (by omega), ← rd_get (by omega)]
    by_cases hv : hasP b (rd ps (i : Int)) = true
    · refine ⟨x, by rw [hv, Bool.true_and]; exact hx, ?_⟩
      refine Ev.step (fun k => by rw [slices_IndexFunc_int_int_f50.l0]) ?_
      rw [w64 (n := (i : Int) + 1) (by omega) (by omega), e]
      refine Ev.pos_ (by omega) (Ev.pos_ (by omega) (Ev.pos_ (by omega) (Ev.some_ (Ev.neg_ (by simp [hv]) ?_))))
      exact hE
    · refine ⟨i, by rw [Bool.not_eq_true] at hv; rw [hv]; simp, ?_⟩
      refine Ev.step (fun k => by rw [slices_IndexFunc_int_int_f50.l0]) ?_
      rw [e]
      exact Ev.pos_ (by omega) (Ev.pos_ (by omega) (Ev.pos_ (by omega) (Ev.some_ (Ev.pos_ (by simp [hv]) (Ev.now _)))))
theorem impl_mayHave (h : Int) (b : ByteArray) (m : Int) (key : ByteArray) (hk : key.size ≤ 140737488351232) :
    Ev (fun k => impl_MayHave.f k h b m key) (if goodFilterB h b m = true ∧ keyB key = true then (mayV h b key, true) else (false, false)) := by
  unfold impl_MayHave.f
  simp only [impl_goodFilter, impl_key, Option.bind_some]
  by_cases g : goodFilterB h b m = true
  · refine Ev.pos_ g (Ev.step (fun k => by rw [impl_MayHave.j0]) ?_)
    by_cases gk : keyB key = true
    · have hh := goodFilterB_iff g
      have hl := placesV_len key (h := h) (by omega)
      obtain ⟨x, hx, hE⟩ := impl_index_l h b m (by omega) (placesV key h) (by omega) (placesV_rd key h) (placesV key h).length 0 (by omega)
      rw [if_pos ⟨g, gk⟩]
      refine Ev.neg_ (by simp [gk]) (Ev.bind (impl_places_ key h (by omega) (by omega) hk) ?_)
      unfold slices_ContainsFunc_int_int_f50.f slices_IndexFunc_int_int_f50.f
      refine Ev.bind (Ev.bind hE (Ev.now _)) ?_
      dsimp only
      rw [hx, Bool.not_not]; exact Ev.now _
    · rw [if_neg (fun e => gk e.2)]; exact Ev.pos_ (by simp [gk]) (Ev.now _)
  · rw [if_neg (fun e => g e.1)]
    refine Ev.neg_ g (Ev.step (fun k => by rw [impl_MayHave.j0]) ?_)
    exact Ev.pos_ rfl (Ev.now _)

-- part newM: a new filter
def newV (h : Int) : Int × ByteArray × Int × Bool := if inB h 1 8 = true then (h, strOfNums (List.replicate 32 0), 0, true) else (0, ⟨#[]⟩, 0, false)
theorem newV_good {h : Int} (g : inB h 1 8 = true) : goodFilterB h (strOfNums (List.replicate 32 0)) 0 = true := by
  unfold goodFilterB
  rw [strOfNums_size, g]; rfl
theorem addV_good {h : Int} {b : ByteArray} {m : Int} (key : ByteArray) (g : goodFilterB h b m = true) : goodFilterB (addV h b m key).1 (addV h b m key).2.1 (addV h b m key).2.2 = true := by
  have hh := goodFilterB_iff g
  unfold addV goodFilterB
  rw [strOfNums_size, addAll_len, bytesOf_length]
  have h1 : inB h 1 8 = true := by rw [inB_iff]; omega
  have h2 : inB (if m < 1000000 then m + 1 else m) 0 1000000 = true := by rw [inB_iff]; split <;> omega
  dsimp only
  rw [h1, h2, hh.2.2.1]; rfl

-- part specNew needs spec_NewFilter.f
theorem spec_new (h : Int) : spec_NewFilter.f h = some (newV h) := by
  unfold spec_NewFilter.f spec_l5Hashes.f newV
  simp only [spec_in, Option.bind_some]
  by_cases g : inB h 1 8 = true
  · rw [if_pos g, if_pos (by decide), if_pos g]
  · rw [if_neg g, if_neg g]

-- part implNew needs impl_NewFilter.f
theorem repeat32 : strings_Repeat.f (⟨#[0]⟩ : ByteArray) 32 = some (strOfNums (List.replicate 32 0)) := by
  unfold strings_Repeat.f
  rw [if_pos (by refine ⟨by decide, by decide, ?_⟩; show 1 * 32 ≤ _; decide)]
  rfl
theorem impl_new (h : Int) : impl_NewFilter.f h = some (newV h) := by
  unfold impl_NewFilter.f impl_hashesOk.f newV
  simp only [impl_in_, Option.bind_some, repeat32]
  by_cases g : inB h 1 8 = true
  · rw [if_pos g, if_pos g]
  · rw [if_neg g, if_neg g]

-- part filterM: the filter of keys
def filterR : List ByteArray → Int × ByteArray × Int → Int × ByteArray × Int × Bool
  | [], f => (f.1, f.2.1, f.2.2, true)
  | x :: xs, f => if keyB x = true then filterR xs (addV f.1 f.2.1 f.2.2 x) else (0, ⟨#[]⟩, 0, false)
theorem filterR_drop (l : List ByteArray) (f : Int × ByteArray × Int) (i : Nat) (h : i < l.length) : filterR (l.drop i) f = if keyB (l[i]'h) = true then filterR (l.drop (i + 1)) (addV f.1 f.2.1 f.2.2 (l[i]'h)) else (0, ⟨#[]⟩, 0, false) := by
  rw [List.drop_eq_getElem_cons h]; rfl
def filterV (l : List ByteArray) (h : Int) : Int × ByteArray × Int × Bool :=
  if inB h 1 8 = true ∧ l.length ≤ 200 then filterR l (h, strOfNums (List.replicate 32 0), 0) else (0, ⟨#[]⟩, 0, false)
theorem rdOf_get {α : Type} (d : α) {xs : List α} {i : Nat} (h : i < xs.length) : rdOf d xs (i : Int) = xs[i]'h := by
  rw [rdOf_nat, List.getD_eq_getElem?_getD, List.getElem?_eq_getElem h]; rfl

-- part specFilterOf needs spec_FilterOf.f
theorem spec_filter_l (l : List ByteArray) (hn : l.length ≤ 1000) (hl : ∀ x ∈ l, x.size ≤ 140737488351232) : ∀ (d i : Nat) (h : Int) (b : ByteArray) (m : Int), i + d = l.length → goodFilterB h b m = true →
    Ev (fun k => spec_FilterOf.l0 k l (l.length : Int) i h b m) (filterR (l.drop i) (h, b, m)) := by
  intro d
  induction d with
  | zero =>
    intro i h b m hi g
    refine Ev.step (fun k => by rw [spec_FilterOf.l0]) ?_
    rw [List.drop_eq_nil_of_le (by omega)]
    exact Ev.neg_ (by omega) (Ev.now _)
  | succ d ih =>
    intro i h b m hi g
    refine Ev.step (fun k => by rw [spec_FilterOf.l0]) ?_
    rw [filterR_drop l _ i (by omega), rdOf_get _ (by omega), spec_key, wi (show i < l.length by omega) (by omega)]
    refine Ev.pos_ (by omega) (Ev.pos_ (by omega) (Ev.pos_ (by omega) (Ev.some_ ?_)))
    refine Ev.ite_ (fun gk => ?_) (fun gk => ?_)
    · rw [if_pos gk]
      refine Ev.bind (spec_add h b m (l[i]'(by omega)) g (hl _ (List.getElem_mem _))) ?_
      exact ih (i + 1) _ _ _ (by omega) (addV_good _ g)
    · rw [if_neg gk]; exact Ev.now _
theorem spec_filterOf (l : List ByteArray) (h : Int) (hl : ∀ x ∈ l, x.size ≤ 140737488351232) (hn : l.length ≤ 140737488351232) : Ev (fun k => spec_FilterOf.f k l h) (filterV l h) := by
  unfold spec_FilterOf.f filterV
  rw [spec_new, newV]
  by_cases g : inB h 1 8 = true
  · rw [if_pos g]
    refine Ev.some_ (Ev.pos_ rfl (Ev.step (fun k => by rw [spec_FilterOf.j0]) ?_))
    by_cases hn : l.length ≤ 200
    · rw [if_pos ⟨g, hn⟩]
      refine Ev.neg_ (by simp; omega) ?_
      have := spec_filter_l l (by omega) hl l.length 0 h _ 0 (by omega) (newV_good g)
      simpa using this
    · rw [if_neg (fun e => hn e.2)]
      exact Ev.pos_ (by simp; omega) (Ev.now _)
  · rw [if_neg g, if_neg (fun e => g e.1)]
    exact Ev.some_ (Ev.neg_ (by simp) (Ev.step (fun k => by rw [spec_FilterOf.j0]) (Ev.pos_ rfl (Ev.now _))))

-- part implFilterOf needs impl_FilterOf.f
theorem impl_filter_l (l : List ByteArray) (hn : l.length ≤ 1000) (hl : ∀ x ∈ l, x.size ≤ 140737488351232) : ∀ (d i : Nat) (h : Int) (b : ByteArray) (m : Int), i + d = l.length → goodFilterB h b m = true →
    Ev (fun k => impl_FilterOf.l0 k l (l.length : Int) i h b m) (filterR (l.drop i) (h, b, m)) := by
  intro d
  induction d with
  | zero =>
    intro i h b m hi g
    refine Ev.step (fun k => by rw [impl_FilterOf.l0]) ?_
    rw [List.drop_eq_nil_of_le (by omega)]
    exact Ev.neg_ (by omega) (Ev.now _)
  | succ d ih =>
    intro i h b m hi g
    refine Ev.step (fun k => by rw [impl_FilterOf.l0]) ?_
    rw [filterR_drop l _ i (by omega), rdOf_get _ (by omega), wi (show i < l.length by omega) (by omega)]
    refine Ev.pos_ (by omega) (Ev.pos_ (by omega) (Ev.pos_ (by omega) ?_))
    refine Ev.bind (impl_addKey h b m (l[i]'(by omega)) (hl _ (List.getElem_mem _))) ?_
    by_cases gk : keyB (l[i]'(by omega)) = true
    · rw [if_pos gk, if_pos ⟨g, gk⟩]
      refine Ev.pos_ rfl ?_
      exact ih (i + 1) _ _ _ (by omega) (addV_good _ g)
    · rw [if_neg gk, if_neg (fun e => gk e.2)]; exact Ev.neg_ (by simp) (Ev.now _)
theorem impl_filterOf (l : List ByteArray) (h : Int) (hl : ∀ x ∈ l, x.size ≤ 140737488351232) (hn : l.length ≤ 140737488351232) : Ev (fun k => impl_FilterOf.f k l h) (filterV l h) := by
  unfold impl_FilterOf.f filterV
  rw [impl_new, newV]
  by_cases g : inB h 1 8 = true
  · rw [if_pos g]
    refine Ev.some_ (Ev.pos_ rfl (Ev.step (fun k => by rw [impl_FilterOf.j0]) ?_))
    by_cases hn : l.length ≤ 200
    · rw [if_pos ⟨g, hn⟩]
      refine Ev.neg_ (by simp; omega) ?_
      have := impl_filter_l l (by omega) hl l.length 0 h _ 0 (by omega) (newV_good g)
      simpa using this
    · rw [if_neg (fun e => hn e.2)]
      exact Ev.pos_ (by simp; omega) (Ev.now _)
  · rw [if_neg g, if_neg (fun e => g e.1)]
    exact Ev.some_ (Ev.neg_ (by simp) (Ev.step (fun k => by rw [impl_FilterOf.j0]) (Ev.pos_ rfl (Ev.now _))))

-- part bitL: bits of a row of bytes
def bitL (xs : List Int) (k : Nat) : Int := (rd xs ((k / 8 : Nat) : Int) / 2 ^ (k % 8)) % 2
theorem bitAt_row {xs : List Int} (h : ByL xs) (k : Nat) : bitAt (strOfNums xs) k = bitL xs k := by unfold bitAt bitL; rw [bt_strOfNums h]
theorem bitAt_bytes (s : ByteArray) (k : Nat) : bitL (bytesOf s) k = bitAt s k := by unfold bitAt bitL; rw [rd_bytesOf]
theorem bitL_range (xs : List Int) (k : Nat) : 0 ≤ bitL xs k ∧ bitL xs k < 2 := by unfold bitL; omega
theorem nat_bit (n j : Nat) : ((n : Int) / 2 ^ j) % 2 = 1 ↔ n.testBit j = true := by
  rw [Nat.testBit_eq_decide_div_mod_eq, decide_eq_true_iff]
  have : ((n : Int) / 2 ^ j) % 2 = ((n / 2 ^ j % 2 : Nat) : Int) := by simp
  omega
theorem or_nat {x y : Int} (hx : 0 ≤ x ∧ x ≤ 255) (hy : 0 ≤ y ∧ y ≤ 255) : ∃ a b : Nat, x = a ∧ y = b ∧ Go.bits .or .u8 x y = ((a ||| b : Nat) : Int) := by
  obtain ⟨a, rfl⟩ := Int.eq_ofNat_of_zero_le hx.1
  obtain ⟨b, rfl⟩ := Int.eq_ofNat_of_zero_le hy.1
  exact ⟨a, b, rfl, rfl, (bits_nat .u8 8 (by decide) wraps_u8 a b (by omega) (by omega)).2⟩
theorem or_range (x y : Int) : 0 ≤ Go.bits .or .u8 x y ∧ Go.bits .or .u8 x y ≤ 255 := by have := bits_u8 .or x y; omega
theorem or_bit {x y : Int} (hx : 0 ≤ x ∧ x ≤ 255) (hy : 0 ≤ y ∧ y ≤ 255) (j : Nat) : (Go.bits .or .u8 x y / 2 ^ j) % 2 = 1 ↔ (x / 2 ^ j) % 2 = 1 ∨ (y / 2 ^ j) % 2 = 1 := by
  obtain ⟨a, b, rfl, rfl, e⟩ := or_nat hx hy
  rw [e, nat_bit, nat_bit, nat_bit, Nat.testBit_or, Bool.or_eq_true]
theorem pow_bit {i j : Nat} : (((2 ^ i : Nat) : Int) / 2 ^ j) % 2 = 1 ↔ i = j := by
  rw [nat_bit, Nat.testBit_two_pow, decide_eq_true_iff]
theorem addBit_by {xs : List Int} (h : ByL xs) (p : Int) : ByL (addBit xs p) := by unfold addBit; exact ByL.set_ h _ (or_range _ _)
theorem addAll_by (ps : List Int) : ∀ xs : List Int, ByL xs → ByL (addAll xs ps) := by
  induction ps with
  | nil => intro xs h; exact h
  | cons p ps ih => intro xs h; exact ih _ (addBit_by h p)
theorem addBit_bit {xs : List Int} (h : ByL xs) (hx : xs.length = 32) {p : Int} (h0 : 0 ≤ p) (h1 : p < 256) (k : Nat) : bitL (addBit xs p) k = 1 ↔ (k : Int) = p ∨ bitL xs k = 1 := by
  obtain ⟨n, rfl⟩ := Int.eq_ofNat_of_zero_le h0
  unfold addBit bitL
  have e1 : (n : Int) / 8 = ((n / 8 : Nat) : Int) := by omega
  have e2 : (n : Int) % 8 = ((n % 8 : Nat) : Int) := by omega
  rw [e1, e2, Int.toNat_natCast, rd_set xs (n / 8) (k / 8) _ (by omega), shl_one _ (by omega)]
  by_cases e : k / 8 = n / 8
  · rw [if_pos e, e]
    have hp : ((2 ^ (n % 8) : Nat) : Int) ≤ 255 := by
      have : ∀ r : Fin 8, ((2 ^ r.val : Nat) : Int) ≤ 255 := by decide
      exact this ⟨n % 8, by omega⟩
    have hp0 : (0 : Int) ≤ ((2 ^ (n % 8) : Nat) : Int) := Int.natCast_nonneg _
    rw [or_bit (h.rd_ _) ⟨hp0, hp⟩, pow_bit]
    constructor
    · rintro (h2 | h2)
      · exact .inr h2
      · exact .inl (by omega)
    · rintro (h2 | h2)
      · exact .inr (by omega)
      · exact .inl h2
  · rw [if_neg e]
    constructor
    · intro h2; exact .inr h2
    · rintro (h2 | h2)
      · exact absurd (by omega) e
      · exact h2
theorem addAll_mono (ps : List Int) (hp : ∀ p ∈ ps, 0 ≤ p ∧ p < 256) : ∀ xs : List Int, ByL xs → xs.length = 32 → ∀ k, bitL xs k = 1 → bitL (addAll xs ps) k = 1 := by
  induction ps with
  | nil => intro xs h hx k hk; exact hk
  | cons p ps ih =>
    intro xs h hx k hk
    have hpp := hp p (by simp)
    exact ih (fun q hq => hp q (by simp [hq])) _ (addBit_by h p) (by rw [addBit_len, hx]) k ((addBit_bit h hx hpp.1 hpp.2 k).2 (.inr hk))
theorem addAll_has (ps : List Int) (hp : ∀ p ∈ ps, 0 ≤ p ∧ p < 256) : ∀ xs : List Int, ByL xs → xs.length = 32 → ∀ p ∈ ps, bitL (addAll xs ps) p.toNat = 1 := by
  induction ps with
  | nil => intro xs h hx p hq; cases hq
  | cons q ps ih =>
    intro xs h hx p hm
    have hqq := hp q (by simp)
    rcases List.mem_cons.1 hm with rfl | hm
    · exact addAll_mono ps (fun z hz => hp z (by simp [hz])) _ (addBit_by h p) (by rw [addBit_len, hx]) _ ((addBit_bit h hx hqq.1 hqq.2 _).2 (.inl (by omega)))
    · exact ih (fun z hz => hp z (by simp [hz])) _ (addBit_by h q) (by rw [addBit_len, hx]) p hm
theorem placesV_mem (key : ByteArray) (h : Int) (p : Int) (hp : p ∈ placesV key h) : 0 ≤ p ∧ p < 256 := placesR_mem _ _ _ _ hp
theorem hasP_iff (b : ByteArray) (p : Int) : hasP b p = true ↔ bitAt b p.toNat = 1 := by unfold hasP; exact beq_iff_eq
theorem addV_bits (h : Int) (b : ByteArray) (m : Int) (key : ByteArray) (k : Nat) : bitAt (addV h b m key).2.1 k = bitL (addAll (bytesOf b) (placesV key h)) k := by
  unfold addV; exact bitAt_row (addAll_by _ _ (ByL.bytes b)) k
theorem addV_mono {h : Int} {b : ByteArray} {m : Int} (key : ByteArray) (hb : b.size = 32) (k : Nat) (hk : bitAt b k = 1) : bitAt (addV h b m key).2.1 k = 1 := by
  rw [addV_bits]
  exact addAll_mono _ (placesV_mem key h) _ (ByL.bytes b) (by rw [bytesOf_length, hb]) k (by rw [bitAt_bytes]; exact hk)
theorem addV_has {h : Int} {b : ByteArray} {m : Int} (key : ByteArray) (hb : b.size = 32) : mayV h (addV h b m key).2.1 key = true := by
  unfold mayV
  rw [List.all_eq_true]
  intro p hp
  rw [hasP_iff, addV_bits]
  exact addAll_has _ (placesV_mem key h) _ (ByL.bytes b) (by rw [bytesOf_length, hb]) p hp
theorem mayV_mono {h : Int} {b c : ByteArray} (key : ByteArray) (hm : ∀ k, bitAt b k = 1 → bitAt c k = 1) (hv : mayV h b key = true) : mayV h c key = true := by
  unfold mayV at hv ⊢
  rw [List.all_eq_true] at hv ⊢
  intro p hp
  have := hv p hp
  rw [hasP_iff] at this ⊢
  exact hm _ this

-- part drawKey needs spec_l1Cur_key.f
theorem draw_one {l : List Int} (hl : ByL l) (a s n : Int) (h0 : 0 ≤ a) (h1 : a ≤ 4611686018427387000) : ∃ v a' s', spec_l1Cur_one.f l a s n = some (v, a', s') ∧ a ≤ a' ∧ a' ≤ a + 2 := by
  unfold spec_l1Cur_one.f
  obtain ⟨i, a', s', e, h2, h3, _⟩ := draw_pick hl a s n h0 h1
  rw [e]
  exact ⟨_, _, _, rfl, h2, h3⟩
theorem draw_key {l : List Int} (hl : ByL l) (a s : Int) (h0 : 0 ≤ a) (h1 : a ≤ 4611686018427380000) : ∃ v a' s', spec_l1Cur_key.f l a s = some (v, a', s') ∧ a ≤ a' ∧ a' ≤ a + 4 ∧ v.size ≤ 17 := by
  unfold spec_l1Cur_key.f
  obtain ⟨v, a1, s1, e, h2, h3⟩ := draw_one hl a s 60 h0 (by omega)
  rw [e, Option.bind_some]
  dsimp only
  split
  · obtain ⟨x, a2, s2, e2, h4, h5, h6⟩ := draw_of hl a1 s1 (by omega) (by omega) [(⟨#[]⟩ : ByteArray), (⟨#[49, 50, 51, 52, 53, 54, 55, 56, 57, 48, 49, 50, 51, 52, 53, 54, 55]⟩ : ByteArray)] (by decide)
    rw [e2]
    refine ⟨_, _, _, rfl, by dsimp only; omega, by dsimp only; omega, ?_⟩
    simp only [List.mem_cons, List.not_mem_nil, or_false] at h6
    rcases h6 with rfl | rfl <;> (show (_ : Nat) ≤ 17) <;> first | exact (by decide : (0 : Nat) ≤ 17) | exact (by decide : (17 : Nat) ≤ 17) | exact (by decide : (1 : Nat) ≤ 17) | exact (by decide : (2 : Nat) ≤ 17) | exact (by decide : (3 : Nat) ≤ 17)
  · obtain ⟨x, a2, s2, e2, h4, h5, h6⟩ := draw_of hl a1 s1 (by omega) (by omega) [(⟨#[97]⟩ : ByteArray), (⟨#[98]⟩ : ByteArray), (⟨#[98, 97]⟩ : ByteArray), (⟨#[99]⟩ : ByteArray), (⟨#[99, 97, 114]⟩ : ByteArray), (⟨#[100]⟩ : ByteArray), (⟨#[101]⟩ : ByteArray)] (by decide)
    rw [e2]
    refine ⟨_, _, _, rfl, by dsimp only; omega, by dsimp only; omega, ?_⟩
    simp only [List.mem_cons, List.not_mem_nil, or_false] at h6
    rcases h6 with rfl | rfl | rfl | rfl | rfl | rfl | rfl <;> (show (_ : Nat) ≤ 17) <;> first | exact (by decide : (0 : Nat) ≤ 17) | exact (by decide : (17 : Nat) ≤ 17) | exact (by decide : (1 : Nat) ≤ 17) | exact (by decide : (2 : Nat) ≤ 17) | exact (by decide : (3 : Nat) ≤ 17)

-- part drawKeys needs spec_l1Cur_keys.f
theorem draw_keys_l {l : List Int} (hl : ByL l) : ∀ (d : Nat) (acc : List ByteArray) (a s : Int), d ≤ 300 → acc.length + d ≤ 300 → (∀ x ∈ acc, x.size ≤ 17) → 0 ≤ a → a ≤ 1000000 - 12 * (d : Int) →
    ∃ ks a' s', Ev (fun k => spec_l1Cur_keys.l0 k acc (d : Int) l a s) (ks, a', s') ∧ (∀ x ∈ ks, x.size ≤ 17) ∧ ks.length ≤ 300 ∧ a ≤ a' ∧ a' ≤ a + 12 * (d : Int) := by
  intro d
  induction d with
  | zero =>
    intro acc a s hd hn hx h0 h1
    refine ⟨acc, a, s, Ev.step (fun k => by rw [spec_l1Cur_keys.l0]) ?_, hx, by omega, by omega, by omega⟩
    exact Ev.neg_ (by omega) (Ev.now _)
  | succ d ih =>
    intro acc a s hd hn hx h0 h1
    obtain ⟨x, a1, s1, e1, h2, h3, h4⟩ := draw_key hl a s h0 (by omega)
    obtain ⟨v, a2, s2, e2, h5, h6⟩ := draw_one hl a1 s1 2 (by omega) (by omega)
    have ew : wrap64 (((d + 1 : Nat) : Int) - 1) = (d : Int) := by rw [w64 (by omega) (by omega)]; omega
    by_cases hv : v = true
    · obtain ⟨p, a3, s3, e3, h7, h8, _⟩ := draw_pick hl a2 s2 26 (by omega) (by omega)
      obtain ⟨q, a4, s4, e4, h9, h10, _⟩ := draw_pick hl a3 s3 26 (by omega) (by omega)
      obtain ⟨ks, a', s', hE, r1, r2, r3, r4⟩ := ih (acc ++ [strOfNums [(wrap64 (97 + p)) % 256, (wrap64 (97 + q)) % 256]]) a4 s4 (by omega) (by simp; omega) (fun y hy => by
        rcases List.mem_append.1 hy with hy | hy
        · exact hx y hy
        · rw [List.mem_singleton] at hy; subst hy; rw [strOfNums_size]; simp) (by omega) (by omega)
      refine ⟨ks, a', s', Ev.step (fun k => by rw [spec_l1Cur_keys.l0]) ?_, r1, r2, by omega, by omega⟩
      rw [e1, ew]
      refine Ev.pos_ (by omega) (Ev.some_ ?_)
      dsimp only
      rw [e2]
      refine Ev.some_ (Ev.pos_ hv ?_)
      dsimp only
      rw [e3]
      refine Ev.some_ ?_
      dsimp only
      rw [e4]
      exact Ev.some_ (Ev.pos_ (by omega) hE)
    · obtain ⟨ks, a', s', hE, r1, r2, r3, r4⟩ := ih (acc ++ [x]) a2 s2 (by omega) (by simp; omega) (fun y hy => by
        rcases List.mem_append.1 hy with hy | hy
        · exact hx y hy
        · rw [List.mem_singleton] at hy; subst hy; exact h4) (by omega) (by omega)
      refine ⟨ks, a', s', Ev.step (fun k => by rw [spec_l1Cur_keys.l0]) ?_, r1, r2, by omega, by omega⟩
      rw [e1, ew]
      refine Ev.pos_ (by omega) (Ev.some_ ?_)
      dsimp only
      rw [e2]
      exact Ev.some_ (Ev.neg_ hv (Ev.pos_ (by omega) hE))
theorem draw_keys {l : List Int} (hl : ByL l) (a s : Int) (h0 : 0 ≤ a) (h1 : a ≤ 900000) : ∃ ks a' s', Ev (fun k => spec_l1Cur_keys.f k l a s) (ks, a', s') ∧ (∀ x ∈ ks, x.size ≤ 17) ∧ ks.length ≤ 300 ∧ a ≤ a' ∧ a' ≤ a + 4000 := by
  obtain ⟨n, a1, s1, e1, h2, h3, h4, h5, _⟩ := draw_pick hl a s 8 h0 (by omega)
  obtain ⟨v, a2, s2, e2, h6, h7⟩ := draw_one hl a1 s1 30 (by omega) (by omega)
  have hn := h5 (by omega)
  unfold spec_l1Cur_keys.f
  by_cases hv : v = true
  · obtain ⟨m, a3, s3, e3, h8, h9, h10, h11, _⟩ := draw_pick hl a2 s2 2 (by omega) (by omega)
    have hm := h11 (by omega)
    obtain ⟨d, hd⟩ := Int.eq_ofNat_of_zero_le (show 0 ≤ 200 + m by omega)
    obtain ⟨ks, a', s', hE, r1, r2, r3, r4⟩ := draw_keys_l hl d [] a3 s3 (by omega) (by simp; omega) (by simp) (by omega) (by omega)
    refine ⟨ks, a', s', ?_, r1, r2, by omega, by omega⟩
    rw [e1]
    refine Ev.some_ ?_
    dsimp only
    rw [e2]
    refine Ev.some_ (Ev.pos_ hv ?_)
    dsimp only
    rw [e3]
    refine Ev.some_ (Ev.step (fun k => by rw [spec_l1Cur_keys.j0]) ?_)
    dsimp only
    rw [w64 (n := 200 + m) (by omega) (by omega), hd]
    exact hE
  · obtain ⟨d, hd⟩ := Int.eq_ofNat_of_zero_le h4
    obtain ⟨ks, a', s', hE, r1, r2, r3, r4⟩ := draw_keys_l hl d [] a2 s2 (by omega) (by simp; omega) (by simp) (by omega) (by omega)
    refine ⟨ks, a', s', ?_, r1, r2, by omega, by omega⟩
    rw [e1]
    refine Ev.some_ ?_
    dsimp only
    rw [e2]
    refine Ev.some_ (Ev.neg_ hv (Ev.step (fun k => by rw [spec_l1Cur_keys.j0]) ?_))
    dsimp only
    rw [hd]
    exact hE

-- part drawFilter needs spec_l1Cur_filter.f
theorem filterR_good : ∀ (l : List ByteArray) (h : Int) (b : ByteArray) (m : Int), goodFilterB h b m = true → (filterR l (h, b, m)).2.2.2 = true → (filterR l (h, b, m)).1 = h ∧ goodFilterB (filterR l (h, b, m)).1 (filterR l (h, b, m)).2.1 (filterR l (h, b, m)).2.2.1 = true := by
  intro l
  induction l with
  | nil => intro h b m g _; exact ⟨rfl, g⟩
  | cons x l ih =>
    intro h b m g hr
    unfold filterR at hr ⊢
    by_cases gk : keyB x = true
    · rw [if_pos gk] at hr ⊢
      exact ih _ _ _ (addV_good x g) hr
    · rw [if_neg gk] at hr; cases hr
theorem filterV_good {l : List ByteArray} {h : Int} (hr : (filterV l h).2.2.2 = true) : inB h 1 8 = true ∧ (filterV l h).1 = h ∧ goodFilterB (filterV l h).1 (filterV l h).2.1 (filterV l h).2.2.1 = true := by
  unfold filterV at hr ⊢
  by_cases c : inB h 1 8 = true ∧ l.length ≤ 200
  · rw [if_pos c] at hr ⊢
    have := filterR_good l h _ 0 (newV_good c.1) hr
    exact ⟨c.1, this⟩
  · rw [if_neg c] at hr; cases hr
theorem draw_filter_j {l : List Int} (hl : ByL l) (a s : Int) (h : Int) (b : ByteArray) (m : Int) (hb : b.size = 32) (h0 : 0 ≤ a) (h1 : a ≤ 900000000) :
    ∃ h' b' m' a' s', Ev (fun k => spec_l1Cur_filter.j0 k l a s h b m) (h', b', m', a', s') ∧ a ≤ a' ∧ a' ≤ a + 4 := by
  obtain ⟨v, a1, s1, e1, h2, h3, h4, h5, _⟩ := draw_pick hl a s 40 h0 (by omega)
  by_cases c0 : v = 0
  · obtain ⟨x, a2, s2, e2, h6, h7, _⟩ := draw_among hl a1 s1 (by omega) (by omega) [0, 8, 9] (by decide)
    refine ⟨x, b, m, a2, s2, Ev.step (fun k => by rw [spec_l1Cur_filter.j0]) ?_, by omega, by omega⟩
    rw [e1]
    refine Ev.some_ (Ev.pos_ c0 ?_)
    dsimp only
    rw [e2]
    exact Ev.some_ (Ev.now _)
  · by_cases c1 : v = 1
    · refine ⟨h, b.extract 1 b.size, m, a1, s1, Ev.step (fun k => by rw [spec_l1Cur_filter.j0]) ?_, by omega, by omega⟩
      rw [e1]
      exact Ev.some_ (Ev.neg_ c0 (Ev.pos_ c1 (Ev.pos_ (by omega) (Ev.now _))))
    · by_cases c2 : v = 2
      · obtain ⟨x, a2, s2, e2, h6, h7, _⟩ := draw_among hl a1 s1 (by omega) (by omega) [(-1), 1000000, 1000001] (by decide)
        refine ⟨h, b, x, a2, s2, Ev.step (fun k => by rw [spec_l1Cur_filter.j0]) ?_, by omega, by omega⟩
        rw [e1]
        refine Ev.some_ (Ev.neg_ c0 (Ev.neg_ c1 (Ev.pos_ c2 ?_)))
        dsimp only
        rw [e2]
        exact Ev.some_ (Ev.now _)
      · refine ⟨h, b, m, a1, s1, Ev.step (fun k => by rw [spec_l1Cur_filter.j0]) ?_, by omega, by omega⟩
        rw [e1]
        exact Ev.some_ (Ev.neg_ c0 (Ev.neg_ c1 (Ev.neg_ c2 (Ev.now _))))
theorem draw_filter {l : List Int} (hl : ByL l) (a s : Int) (h0 : 0 ≤ a) (h1 : a ≤ 100000) :
    ∃ h b m a' s', Ev (fun k => spec_l1Cur_filter.f k l a s) (h, b, m, a', s') ∧ a ≤ a' ∧ a' ≤ a + 5000 := by
  obtain ⟨ks, a1, s1, hE1, r1, r2, r3, r4⟩ := draw_keys hl a s h0 (by omega)
  obtain ⟨v, a2, s2, e2, h2, h3, h4, h5, _⟩ := draw_pick hl a1 s1 4 (by omega) (by omega)
  have hv := h5 (by omega)
  have hF := spec_filterOf ks (1 + v) (fun x hx => by have := r1 x hx; omega) (by omega)
  unfold spec_l1Cur_filter.f
  by_cases hr : (filterV ks (1 + v)).2.2.2 = true
  · have hg := goodFilterB_iff (filterV_good hr).2.2
    obtain ⟨h', b', m', a', s', hE, q1, q2⟩ := draw_filter_j hl a2 s2 (filterV ks (1 + v)).1 (filterV ks (1 + v)).2.1 (filterV ks (1 + v)).2.2.1 hg.2.2.1 (by omega) (by omega)
    refine ⟨h', b', m', a', s', Ev.bind hE1 ?_, by omega, by omega⟩
    dsimp only
    rw [e2]
    refine Ev.some_ ?_
    dsimp only
    rw [w64 (n := 1 + v) (by omega) (by omega)]
    exact Ev.bind hF (Ev.pos_ hr hE)
  · obtain ⟨h', b', m', a', s', hE, q1, q2⟩ := draw_filter_j hl a2 s2 2 (strOfNums (List.replicate 32 0)) 0 (by rw [strOfNums_size]; rfl) (by omega) (by omega)
    refine ⟨h', b', m', a', s', Ev.bind hE1 ?_, by omega, by omega⟩
    dsimp only
    rw [e2]
    refine Ev.some_ ?_
    dsimp only
    rw [w64 (n := 1 + v) (by omega) (by omega)]
    refine Ev.bind hF (Ev.neg_ hr ?_)
    rw [spec_new 2]
    exact Ev.some_ hE

-- part bloomM: what was put is had, and how many bits are set
theorem countR_mono {s t : ByteArray} (h : ∀ k, bitAt s k ≤ bitAt t k) : ∀ (d k : Nat), countR s d k ≤ countR t d k := by
  intro d
  induction d with
  | zero => intro k; simp [countR]
  | succ d ih => intro k; have := ih (k + 1); have := h k; unfold countR; omega
def sumL (f : Nat → Int) : Nat → Nat → Int
  | 0, _ => 0
  | d + 1, k => f k + sumL f d (k + 1)
theorem countR_sum (s : ByteArray) : ∀ (d k : Nat), countR s d k = sumL (bitAt s) d k := by
  intro d; induction d with
  | zero => intro k; rfl
  | succ d ih => intro k; unfold countR sumL; rw [ih]
theorem sumL_congr {f g : Nat → Int} (h : ∀ k, f k = g k) : ∀ (d k : Nat), sumL f d k = sumL g d k := by
  intro d; induction d with
  | zero => intro k; rfl
  | succ d ih => intro k; unfold sumL; rw [ih, h]
theorem sumL_one {f g : Nat → Int} (p : Nat) (hp : g p ≤ f p + 1) (h : ∀ k, k ≠ p → g k ≤ f k) : ∀ (d k : Nat), sumL g d k ≤ sumL f d k + (if k ≤ p then 1 else 0) := by
  intro d; induction d with
  | zero => intro k; unfold sumL; split <;> omega
  | succ d ih =>
    intro k
    have := ih (k + 1)
    unfold sumL
    by_cases e : k = p
    · subst e; rw [if_neg (by omega)] at this; rw [if_pos (by omega)]; omega
    · have := h k e
      by_cases e2 : k ≤ p
      · rw [if_pos (by omega)] at *; omega
      · rw [if_neg (by omega)] at *; omega
theorem bitL_le {xs ys : List Int} {k : Nat} (h : bitL ys k = 1 → bitL xs k = 1) : bitL ys k ≤ bitL xs k := by
  have h1 := bitL_range xs k
  have h2 := bitL_range ys k
  by_cases e : bitL ys k = 1
  · rw [h e, e]; exact Int.le_refl _
  · omega
theorem addBit_sum {xs : List Int} (h : ByL xs) (hx : xs.length = 32) {p : Int} (h0 : 0 ≤ p) (h1 : p < 256) (d : Nat) : sumL (bitL (addBit xs p)) d 0 ≤ sumL (bitL xs) d 0 + 1 := by
  have := sumL_one (f := bitL xs) (g := bitL (addBit xs p)) p.toNat (by have := bitL_range xs p.toNat; have := bitL_range (addBit xs p) p.toNat; omega) (fun k hk => bitL_le (fun e => by
    rcases (addBit_bit h hx h0 h1 k).1 e with e | e
    · omega
    · exact e)) d 0
  rw [if_pos (by omega)] at this
  exact this
theorem addAll_sum (ps : List Int) (hp : ∀ p ∈ ps, 0 ≤ p ∧ p < 256) (d : Nat) : ∀ xs : List Int, ByL xs → xs.length = 32 → sumL (bitL (addAll xs ps)) d 0 ≤ sumL (bitL xs) d 0 + ps.length := by
  induction ps with
  | nil => intro xs h hx; simp [addAll]
  | cons p ps ih =>
    intro xs h hx
    have hpp := hp p (by simp)
    have h1 := ih (fun q hq => hp q (by simp [hq])) _ (addBit_by h p) (by rw [addBit_len, hx])
    have h2 := addBit_sum h hx hpp.1 hpp.2 d
    show sumL (bitL (addAll (addBit xs p) ps)) d 0 ≤ _
    rw [List.length_cons]; omega
theorem addV_count {h : Int} {b : ByteArray} {m : Int} (key : ByteArray) (h0 : 0 ≤ h) (hb : b.size = 32) : countR b 256 0 ≤ countR (addV h b m key).2.1 256 0 ∧ countR (addV h b m key).2.1 256 0 ≤ countR b 256 0 + h := by
  constructor
  · refine countR_mono (fun k => ?_) 256 0
    have h1 := bitAt_range b k
    have h2 := bitAt_range (addV h b m key).2.1 k
    by_cases e : bitAt b k = 1
    · rw [addV_mono key hb k e, e]; exact Int.le_refl _
    · omega
  · have h1 := addAll_sum (placesV key h) (placesV_mem key h) 256 (bytesOf b) (ByL.bytes b) (by rw [bytesOf_length, hb])
    have h2 := placesV_len key h0
    rw [countR_sum, countR_sum, sumL_congr (addV_bits h b m key), sumL_congr (fun k => (bitAt_bytes b k).symm)]
    omega
theorem filterR_all : ∀ (l : List ByteArray) (h : Int) (b : ByteArray) (m : Int), goodFilterB h b m = true → (filterR l (h, b, m)).2.2.2 = true →
    (∀ k, bitAt b k = 1 → bitAt (filterR l (h, b, m)).2.1 k = 1) ∧ ∀ x ∈ l, keyB x = true ∧ mayV h (filterR l (h, b, m)).2.1 x = true := by
  intro l
  induction l with
  | nil => intro h b m g _; exact ⟨fun k hk => hk, fun x hx => by cases hx⟩
  | cons y l ih =>
    intro h b m g hr
    have hb := (goodFilterB_iff g).2.2.1
    unfold filterR at hr ⊢
    by_cases gk : keyB y = true
    · rw [if_pos gk] at hr ⊢
      obtain ⟨i1, i2⟩ := ih h (addV h b m y).2.1 (addV h b m y).2.2 (addV_good y g) hr
      refine ⟨fun k hk => i1 k (addV_mono y hb k hk), fun x hx => ?_⟩
      rcases List.mem_cons.1 hx with rfl | hx
      · exact ⟨gk, mayV_mono x i1 (addV_has x hb)⟩
      · exact i2 x hx
    · rw [if_neg gk] at hr; cases hr
theorem filterV_all {l : List ByteArray} {h : Int} (hr : (filterV l h).2.2.2 = true) : ∀ x ∈ l, keyB x = true ∧ mayV h (filterV l h).2.1 x = true := by
  unfold filterV at hr ⊢
  by_cases c : inB h 1 8 = true ∧ l.length ≤ 200
  · rw [if_pos c] at hr ⊢
    exact (filterR_all l h _ 0 (newV_good c.1) hr).2
  · rw [if_neg c] at hr; cases hr
theorem filterV_bad {l : List ByteArray} {h : Int} (hr : ¬ (filterV l h).2.2.2 = true) : (filterV l h).1 = 0 := by
  have : ∀ (l : List ByteArray) (f : Int × ByteArray × Int), ¬ (filterR l f).2.2.2 = true → (filterR l f).1 = 0 := by
    intro l
    induction l with
    | nil => intro f hf; exact absurd rfl hf
    | cons x l ih =>
      intro f hf
      unfold filterR at hf ⊢
      by_cases gk : keyB x = true
      · rw [if_pos gk] at hf ⊢; exact ih _ hf
      · rw [if_neg gk]
  unfold filterV at hr ⊢
  by_cases c : inB h 1 8 = true ∧ l.length ≤ 200
  · rw [if_pos c] at hr ⊢; exact this _ _ hr
  · rw [if_neg c]

theorem impl_placesOf_ok (key : ByteArray) (h : Int) (gk : keyB key = true) (gh : inB h 1 8 = true) (hk : key.size ≤ 140737488351232) : Ev (fun k => impl_PlacesOf.f k key h) (placesV key h, true) := by
  have hh := inB_iff.1 gh
  unfold impl_PlacesOf.f impl_hashesOk.f
  simp only [impl_key, impl_in_, Option.bind_some]
  exact Ev.pos_ gk (Ev.pos_ gh (Ev.bind (impl_places_ key h (by omega) (by omega) hk) (Ev.now _)))
theorem bloom_l (l : List ByteArray) (h : Int) (hl : ∀ x ∈ l, x.size ≤ 17) (hn : l.length ≤ 300) (hr : (filterV l h).2.2.2 = true) : ∀ (d i : Nat), i + d = l.length →
    Ev (fun k => laws_FnBloom.l0 k h l (l.length : Int) i (filterV l h).1 (filterV l h).2.1 (filterV l h).2.2.1) true := by
  obtain ⟨gh, eh, g⟩ := filterV_good hr
  have ha := filterV_all hr
  intro d
  induction d with
  | zero =>
    intro i hi
    refine Ev.step (fun k => by rw [laws_FnBloom.l0]) ?_
    exact Ev.neg_ (by omega) (Ev.now _)
  | succ d ih =>
    intro i hi
    have hm := List.getElem_mem (l := l) (show i < l.length by omega)
    obtain ⟨gk, gm⟩ := ha _ hm
    have hk : (l[i]'(by omega)).size ≤ 140737488351232 := by have := hl _ hm; omega
    have i1 := impl_mayHave (filterV l h).1 (filterV l h).2.1 (filterV l h).2.2.1 (l[i]'(by omega)) hk
    rw [if_pos ⟨g, gk⟩] at i1
    rw [show mayV (filterV l h).1 (filterV l h).2.1 (l[i]'(by omega)) = true by rw [eh]; exact gm] at i1
    refine Ev.step (fun k => by rw [laws_FnBloom.l0]) ?_
    rw [rdOf_get _ (show i < l.length by omega), wi (show i < l.length by omega) (by omega)]
    refine Ev.pos_ (by omega) (Ev.pos_ (by omega) (Ev.pos_ (by omega) (Ev.bind i1 (Ev.bind (impl_placesOf_ok _ h gk gh hk) ?_))))
    refine Ev.pos_ rfl (Ev.pos_ rfl (Ev.pos_ rfl (Ev.pos_ (placesV_len _ (by have := inB_iff.1 gh; omega)) (ih (i + 1) (by omega)))))
theorem bloom_j (l1 : List Int) (b1 : ByL l1) : Ev (fun k => laws_FnBloom.j1 k l1) true := by
  obtain ⟨ks, a1, s1, hE1, r1, r2, r3, r4⟩ := draw_keys b1 0 0 (by omega) (by omega)
  obtain ⟨v, a2, s2, e2, h2, h3, h4, h5, _⟩ := draw_pick b1 a1 s1 10 (by omega) (by omega)
  have hD : Ev (fun k => spec_DrawFilterOf.f k l1) (ks, v) := by
    unfold spec_DrawFilterOf.f
    refine Ev.bind hE1 ?_
    dsimp only
    rw [e2]
    exact Ev.some_ (Ev.now _)
  have hs : ∀ x ∈ ks, x.size ≤ 140737488351232 := fun x hx => by have := r1 x hx; omega
  refine Ev.step (fun k => by rw [laws_FnBloom.j1]) ?_
  refine Ev.bind hD (Ev.bind (impl_filterOf ks v hs (by omega)) (Ev.bind (spec_filterOf ks v hs (by omega)) ?_))
  refine Ev.neg_ (by simp) (Ev.step (fun k => by rw [laws_FnBloom.j2]) ?_)
  refine Ev.neg_ (by simp) ?_
  refine Ev.ite_ (fun hr => ?_) (fun hr => ?_)
  · have := bloom_l ks v r1 r2 hr ks.length 0 (by omega)
    simpa using this
  · have := filterV_bad hr
    try dsimp only
    rw [this]; exact Ev.now _
theorem FnBloom (l0 l1 : List Int) (h1 : l0.length ≤ maxLen) (h2 : l0.length * 1 ≤ 140737488351232) (h3 : ∀ x ∈ l0, (Lit.int .u8 x).wf = true) (h4 : l1.length ≤ maxLen) (h5 : l1.length * 1 ≤ 140737488351232) (h6 : ∀ x ∈ l1, (Lit.int .u8 x).wf = true) : ∃ k, laws_FnBloom.f k l0 l1 = some true := by
  apply Ev.rounds (r := true)
  have b0 := byL h3
  have b1 := byL h6
  unfold laws_FnBloom.f
  refine Ev.ite_ (fun _ => Ev.now _) (fun _ => ?_)
  obtain ⟨h, b, m, a', s', hE3, p5, p6⟩ := draw_filter b0 0 0 (by omega) (by omega)
  obtain ⟨key, a3, s3, e3, p7, p8, p9⟩ := draw_key b0 a' s' (by omega) (by omega)
  have hA : Ev (fun k => spec_DrawAddKey.f k l0) (h, b, m, key) := by
    unfold spec_DrawAddKey.f
    refine Ev.bind hE3 ?_
    dsimp only
    rw [e3]
    exact Ev.some_ (Ev.now _)
  have hk : key.size ≤ 140737488351232 := by omega
  refine Ev.bind hA ?_
  have i1 := impl_addKey h b m key hk
  have i2 := spec_addKey h b m key hk
  by_cases c : goodFilterB h b m = true ∧ keyB key = true
  · obtain ⟨g, gk⟩ := c
    have hh := goodFilterB_iff g
    rw [if_pos ⟨g, gk⟩] at i1 i2
    refine Ev.bind i1 (Ev.bind i2 (Ev.neg_ (by simp) ?_))
    refine Ev.step (fun k => by rw [laws_FnBloom.j0]) ?_
    refine Ev.neg_ (by simp) (Ev.pos_ rfl ?_)
    have g2 := addV_good key g
    have i3 := impl_mayHave (addV h b m key).1 (addV h b m key).2.1 (addV h b m key).2.2 key hk
    rw [if_pos ⟨g2, gk⟩, show mayV (addV h b m key).1 (addV h b m key).2.1 key = true from addV_has key hh.2.2.1] at i3
    have i4 := impl_ones h b m
    have i5 := impl_ones (addV h b m key).1 (addV h b m key).2.1 (addV h b m key).2.2
    unfold onesV at i4 i5
    rw [if_pos g] at i4
    rw [if_pos g2] at i5
    have hc := addV_count (h := h) (b := b) (m := m) key (by omega) hh.2.2.1
    have hr := countR_range b 256 0
    refine Ev.bind i3 (Ev.bind i4 (Ev.bind i5 ?_))
    refine Ev.pos_ rfl (Ev.pos_ rfl (Ev.pos_ rfl (Ev.pos_ rfl (Ev.neg_ (by dsimp only; omega) (Ev.neg_ ?_ (bloom_j l1 b1))))))
    rw [w64 (by omega) (by omega)]; omega
  · rw [if_neg c] at i1 i2
    refine Ev.bind i1 (Ev.bind i2 (Ev.neg_ (by simp) ?_))
    refine Ev.step (fun k => by rw [laws_FnBloom.j0]) ?_
    exact Ev.neg_ (by simp) (Ev.neg_ (by simp) (bloom_j l1 b1))

end Go.Proofs.Ytmakajlkphopbaa.Pure
