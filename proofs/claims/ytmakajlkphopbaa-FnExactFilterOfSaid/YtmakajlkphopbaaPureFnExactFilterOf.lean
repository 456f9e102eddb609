/-
  The plain statement of the law FnExactFilterOf, proved: over numbers and lists alone. No condition beyond the given ones.
-/
import Derived.Test.YtmakajlkphopbaaMFnExactFilterOfx5
namespace Go.Proofs.Ytmakajlkphopbaa.Pure
open Go Go.RowKit Go.Proofs.Ytmakajlkphopbaa.MFnExactFilterOf Go.Proofs.YtmakajlkphopbaaW.PrintWords Go.Proofs.YtmakajlkphopbaaW.PrintLast Go.Proofs.YtmakajlkphopbaaW.PrintMore
set_option linter.unusedVariables false
set_option linter.unusedSimpArgs false

-- part base: plain facts on Go's numbers and on rounds
theorem lt_mn {i a b : Int} : i < mn a b ↔ i < a ∧ i < b := by unfold mn; split <;> omega
theorem mn_le {a b : Int} : mn a b ≤ a ∧ mn a b ≤ b := by unfold mn; split <;> omega
theorem w64 {n : Int} (h0 : -9223372036854775808 ≤ n) (h1 : n ≤ 9223372036854775807) : wrap64 n = n := by unfold wrap64; omega
theorem wrap_u64 (n : Int) : IntKind.u64.wrap n = n % 18446744073709551616 := by simp [IntKind.wrap, IntKind.bits, IntKind.signed]
theorem wu64 {n : Int} (h0 : 0 ≤ n) (h1 : n ≤ 18446744073709551615) : IntKind.u64.wrap n = n := by rw [wrap_u64]; omega
theorem wu32 {n : Int} (h0 : 0 ≤ n) (h1 : n ≤ 4294967295) : IntKind.u32.wrap n = n := by rw [IntKind.wrap_u32]; omega
theorem wraps_u32 (n : Int) (h₀ : 0 ≤ n) (h₁ : n < 2 ^ 32) : IntKind.u32.wrap n = n := by rw [IntKind.wrap_u32]; omega
theorem wraps_i64 (n : Int) (h₀ : 0 ≤ n) (h₁ : n < 2 ^ 63) : IntKind.i64.wrap n = n := by rw [IntKind.wrap_i64]; omega
theorem and127 {b : Int} (h0 : 0 ≤ b) (h1 : b ≤ 255) : Go.bits .and .u8 b 127 = b % 128 := bits_mask .u8 8 (by decide) wraps_u8 7 (by decide) b h0 (by omega)
theorem wf_i64 {n : Int} (h : (Lit.int .i64 n).wf = true) : -9223372036854775808 ≤ n ∧ n ≤ 9223372036854775807 := by
  simp only [Lit.wf, Bool.and_eq_true, decide_eq_true_eq] at h
  exact h
theorem wf_u32 {n : Int} (h : (Lit.int .u32 n).wf = true) : 0 ≤ n ∧ n ≤ 4294967295 := by
  simp only [Lit.wf, Bool.and_eq_true, decide_eq_true_eq] at h
  exact h
theorem bits_or_comm (k : IntKind) (x y : Int) : Go.bits .or k x y = Go.bits .or k y x := by
  simp only [Go.bits, BitVec.or_comm]
theorem and127i {b : Int} (h0 : 0 ≤ b) (h1 : b ≤ 9223372036854775807) : Go.bits .and .i64 b 127 = b % 128 := bits_mask .i64 63 (by decide) wraps_i64 7 (by decide) b h0 (by omega)
theorem or128i {b : Int} (h0 : 0 ≤ b) (h1 : b < 128) : Go.bits .or .i64 b 128 = b + 128 := by
  rw [bits_or_comm, bits_join .i64 63 (by decide) wraps_i64 7 128 b (by omega) (by omega) (by omega) h0 (by omega) (by omega)]; omega
theorem Ev.ite_ {α : Type} {c : Prop} [Decidable c] {g f : Nat → Option α} {r : α} (h : c → Ev g r) (k : ¬c → Ev f r) : Ev (fun n => if c then g n else f n) r := by
  by_cases hc : c
  · simp only [if_pos hc]; exact h hc
  · simp only [if_neg hc]; exact k hc
theorem Ev.pos_ {α : Type} {c : Prop} [Decidable c] {g f : Nat → Option α} {r : α} (hc : c) (h : Ev g r) : Ev (fun n => if c then g n else f n) r := by simp only [if_pos hc]; exact h
theorem Ev.neg_ {α : Type} {c : Prop} [Decidable c] {g f : Nat → Option α} {r : α} (hc : ¬c) (h : Ev f r) : Ev (fun n => if c then g n else f n) r := by simp only [if_neg hc]; exact h
theorem Ev.some_ {α β : Type} {f : Nat → α → Option β} {x : α} {r : β} (h : Ev (fun n => f n x) r) : Ev (fun n => (some x).bind (f n)) r := by simpa only [Option.bind_some] using h
theorem bo_and (b c : Bool) : (if b = true then some c else some false) = some (b && c) := by cases b <;> rfl
theorem bo_andP (p : Prop) [Decidable p] (c : Bool) : (if p then some c else some false) = some (decide p && c) := by by_cases h : p <;> simp [h]
theorem bo_orP (p : Prop) [Decidable p] (c : Bool) : (if p then some true else some c) = some (decide p || c) := by by_cases h : p <;> simp [h]
theorem bo_or (b c : Bool) : (if b = true then some true else some c) = some (b || c) := by cases b <;> rfl
def inB (a lo hi : Int) : Bool := decide (lo ≤ a) && decide (a ≤ hi)
theorem inB_iff {a lo hi : Int} : inB a lo hi = true ↔ lo ≤ a ∧ a ≤ hi := by simp [inB]

-- part listM: loops over lists by their index
def mkL {α : Type} (enc : Int → α) (c : Int) : Nat → Int → List α
  | 0, _ => []
  | d + 1, m => enc m :: mkL enc c d (m + c)
theorem mkL_len {α : Type} (enc : Int → α) (c : Int) : ∀ (d : Nat) (m : Int), (mkL enc c d m).length = d := by
  intro d; induction d with
  | zero => intro m; rfl
  | succ d ih => intro m; simp [mkL, ih]
theorem mark_gen {α : Type} (L : Nat → List α → Int → Int → Option (Int × List α)) (enc : Int → α) (c B : Int) (hc : 0 ≤ c)
    (hstep : ∀ (xs : List α) (m : Int) (i : Nat) (r : Int × List α), 0 < m → m + c ≤ B → i < xs.length → xs.length ≤ 140737488351232 → Ev (fun k => L k (xs.set i (enc m)) (m + c) ((i + 1 : Nat) : Int)) r → Ev (fun k => L k xs m (i : Int)) r)
    (hend : ∀ (xs : List α) (m : Int), Ev (fun k => L k xs m (xs.length : Int)) (m, xs)) :
    ∀ (d : Nat) (xs : List α) (m : Int) (i : Nat), i + d = xs.length → 0 < m → m + c * d ≤ B → xs.length ≤ 140737488351232 → Ev (fun k => L k xs m (i : Int)) (m + c * d, xs.take i ++ mkL enc c d m) := by
  intro d
  induction d with
  | zero =>
    intro xs m i hi hm hB hl
    have := hend xs m
    obtain rfl : i = xs.length := by omega
    simpa [mkL] using this
  | succ d ih =>
    intro xs m i hi hm hB hl
    have hcd : c * ((d + 1 : Nat) : Int) = c * d + c := by rw [Int.natCast_add, Int.mul_add]; simp
    have hcd0 : 0 ≤ c * (d : Int) := Int.mul_nonneg hc (by omega)
    refine hstep xs m i _ hm (by omega) (by omega) hl ?_
    have := ih (xs.set i (enc m)) (m + c) (i + 1) (by simp; omega) (by omega) (by omega) (by simpa using hl)
    have e : (xs.set i (enc m)).take (i + 1) ++ mkL enc c d (m + c) = xs.take i ++ mkL enc c (d + 1) m := by
      rw [List.take_set, List.take_succ_eq_append_getElem (by omega), List.set_append_right _ _ (by simp; omega)]
      simp [mkL, Nat.min_eq_left (show i ≤ xs.length by omega)]
    rw [e] at this
    rw [show m + c * ((d + 1 : Nat) : Int) = m + c + c * d by omega]
    exact this
theorem held_gen {α : Type} (H : Nat → List α → Int → Int → Option Int) (enc : Int → α) (c B : Int) (hc : 0 ≤ c)
    (hstep : ∀ (xs : List α) (m : Int) (i : Nat) (r : Int), 0 < m → m + c ≤ B → i < xs.length → xs.length ≤ 140737488351232 → xs[i]? = some (enc m) → Ev (fun k => H k xs (m + c) ((i + 1 : Nat) : Int)) r → Ev (fun k => H k xs m (i : Int)) r)
    (hend : ∀ (xs : List α) (m : Int), Ev (fun k => H k xs m (xs.length : Int)) m) :
    ∀ (d : Nat) (pre : List α) (m : Int), 0 < m → m + c * d ≤ B → pre.length + d ≤ 140737488351232 → Ev (fun k => H k (pre ++ mkL enc c d m) m (pre.length : Int)) (m + c * d) := by
  intro d
  induction d with
  | zero =>
    intro pre m hm hB hl
    have := hend pre m
    simpa [mkL] using this
  | succ d ih =>
    intro pre m hm hB hl
    have hcd : c * ((d + 1 : Nat) : Int) = c * d + c := by rw [Int.natCast_add, Int.mul_add]; simp
    have hcd0 : 0 ≤ c * (d : Int) := Int.mul_nonneg hc (by omega)
    refine hstep _ m pre.length _ hm (by omega) (by simp [mkL]) (by simp [mkL_len]; omega) (by simp [mkL]) ?_
    have := ih (pre ++ [enc m]) (m + c) (by omega) (by omega) (by simp; omega)
    rw [show m + c * ((d + 1 : Nat) : Int) = m + c + c * d by omega]
    simpa [mkL] using this
theorem to_gen {α β : Type} (L : Nat → List α → List β → Int → Option (List β)) (f : α → β) (z : β) (za : α)
    (hstep : ∀ (xs : List α) (ys : List β) (i : Nat) (r : List β), i < xs.length → i < ys.length → xs.length ≤ 140737488351232 → Ev (fun k => L k xs (ys.set i (f (xs.getD i za))) ((i + 1 : Nat) : Int)) r → Ev (fun k => L k xs ys (i : Int)) r)
    (hend : ∀ (xs : List α) (ys : List β), Ev (fun k => L k xs ys (xs.length : Int)) ys) :
    ∀ (d : Nat) (xs : List α) (i : Nat), i + d = xs.length → xs.length ≤ 140737488351232 → Ev (fun k => L k xs ((xs.take i).map f ++ List.replicate d z) (i : Int)) (xs.map f) := by
  intro d
  induction d with
  | zero =>
    intro xs i hi hl
    obtain rfl : i = xs.length := by omega
    have := hend xs (xs.map f)
    simpa using this
  | succ d ih =>
    intro xs i hi hl
    refine hstep xs _ i _ (by omega) (by simp; omega) hl ?_
    have := ih xs (i + 1) (by omega) hl
    have e : ((xs.take i).map f ++ List.replicate (d + 1) z).set i (f (xs.getD i za)) = (xs.take (i + 1)).map f ++ List.replicate d z := by
      have h0 : i - ((xs.take i).map f).length = 0 := by simp; omega
      rw [List.take_succ_eq_append_getElem (show i < xs.length by omega), List.map_append, List.set_append_right _ _ (by simp; omega), List.append_assoc, h0]
      congr 1
      simp [List.replicate_succ, List.getD_eq_getElem?_getD, List.getElem?_eq_getElem (show i < xs.length by omega)]
    rw [e]
    exact this
theorem eq_gen {α : Type} (E : Nat → List α → List α → Int → Option Bool)
    (hstep : ∀ (xs : List α) (i : Nat), i < xs.length → xs.length ≤ 140737488351232 → Ev (fun k => E k xs xs ((i + 1 : Nat) : Int)) true → Ev (fun k => E k xs xs (i : Int)) true)
    (hend : ∀ (xs : List α), Ev (fun k => E k xs xs (xs.length : Int)) true) :
    ∀ (d : Nat) (xs : List α) (i : Nat), i + d = xs.length → xs.length ≤ 140737488351232 → Ev (fun k => E k xs xs (i : Int)) true := by
  intro d
  induction d with
  | zero => intro xs i hi hl; obtain rfl : i = xs.length := by omega
            exact hend xs
  | succ d ih => intro xs i hi hl; exact hstep xs i (by omega) hl (ih xs (i + 1) (by omega) hl)
theorem sz_gen {α : Type} (Z : Nat → List α → Int → Int → Option Int)
    (hstep : ∀ (xs : List α) (m : Int) (i : Nat), i < xs.length → xs.length ≤ 140737488351232 → (∀ m', ∃ r, Ev (fun k => Z k xs m' ((i + 1 : Nat) : Int)) r) → ∃ r, Ev (fun k => Z k xs m (i : Int)) r)
    (hend : ∀ (xs : List α) (m : Int), ∃ r, Ev (fun k => Z k xs m (xs.length : Int)) r) :
    ∀ (d : Nat) (xs : List α) (m : Int) (i : Nat), i + d = xs.length → xs.length ≤ 140737488351232 → ∃ r, Ev (fun k => Z k xs m (i : Int)) r := by
  intro d
  induction d with
  | zero => intro xs m i hi hl; obtain rfl : i = xs.length := by omega
            exact hend xs m
  | succ d ih => intro xs m i hi hl; exact hstep xs m i (by omega) hl (fun m' => ih xs m' (i + 1) (by omega) hl)
theorem wi {i n : Nat} (h : i < n) (hn : n ≤ 140737488351232) : wrap64 ((i : Int) + 1) = ((i + 1 : Nat) : Int) := by rw [w64 (by omega) (by omega)]; omega
theorem rd_nat (xs : List Int) (i : Nat) : rd xs (i : Int) = xs.getD i 0 := by unfold rd; rw [Int.toNat_natCast]
theorem rdOf_nat {α : Type} (d : α) (xs : List α) (i : Nat) : rdOf d xs (i : Int) = xs.getD i d := by unfold rdOf; rw [Int.toNat_natCast]
theorem getD_of {α : Type} {xs : List α} {i : Nat} {a : α} (d : α) (h : xs[i]? = some a) : xs.getD i d = a := by rw [List.getD_eq_getElem?_getD, h]; rfl

-- part eqStringS needs laws_eqStringS.f
theorem eqStringS_refl (l : List ByteArray) (hl : l.length ≤ 140737488351232) : Ev (fun k => laws_eqStringS.f k l l) true := by
  unfold laws_eqStringS.f
  refine Ev.pos_ rfl (eq_gen laws_eqStringS.l0 (fun xs i hi hn h => Ev.step (fun k => ?_) h) (fun xs => Ev.step (f := fun _ => some true) (fun k => ?_) (Ev.now _)) l.length l 0 (by omega) hl)
  · simp only [laws_eqStringS.l0]; rw [if_pos (by omega), if_pos (by omega), if_pos (by omega), if_pos trivial, wi hi hn]
  · simp only [laws_eqStringS.l0]; rw [if_neg (by omega)]

-- part specIn needs spec_l1In.f
theorem spec_in (a lo hi : Int) : spec_l1In.f a lo hi = some (inB a lo hi) := by
  unfold spec_l1In.f inB; rw [bo_andP]

-- part implIn needs impl_in.f
theorem impl_in_ (a lo hi : Int) : impl_in.f a lo hi = some (inB a lo hi) := by
  unfold impl_in.f inB; rw [bo_andP]

-- part goodFilterD: a good filter
def goodFilterB (h : Int) (b : ByteArray) (m : Int) : Bool := inB h 1 8 && (decide ((b.size : Int) = 32) && inB m 0 1000000)

-- part implGoodFilter needs impl_GoodFilter.f
theorem impl_goodFilter (h : Int) (b : ByteArray) (m : Int) : impl_GoodFilter.f h b m = some (goodFilterB h b m) := by
  unfold impl_GoodFilter.f impl_hashesOk.f goodFilterB
  simp only [impl_in_, Option.bind_some, bo_andP, Bool.decide_eq_true]

-- part goodItem
def keyB (k : ByteArray) : Bool := inB (k.size : Int) 1 16
def seqB (q : Int) : Bool := inB q 0 1000000000
def goodItemB (k : ByteArray) (q d : Int) (v : ByteArray) : Bool := keyB k && (seqB q && (inB d 0 1 && (decide ((v.size : Int) ≤ 40) && (decide (d = 1) || (v.toList == ([] : List UInt8))))))

-- part specKey needs spec_l4Key.f
theorem spec_key (k : ByteArray) : spec_l4Key.f k = some (keyB k) := by unfold spec_l4Key.f keyB; rw [spec_in]; rfl

-- part implKey needs impl_isKey.f
theorem impl_key (k : ByteArray) : impl_isKey.f k = some (keyB k) := by unfold impl_isKey.f keyB; rw [impl_in_]; rfl

-- part sumM: the table of sums and the sum of a text
def crcStep (n : Int) : Int := if Go.bits .and .u32 n 1 = 1 then Go.bits .xor .u32 (n / 2) 2197175160 else n / 2
def crcIt : Nat → Int → Int
  | 0, n => n
  | d + 1, n => crcIt d (crcStep n)
def crcE (i : Nat) : Int := crcIt 8 (i : Int)
def crcT : List Int := (List.range 256).map crcE
theorem crcT_len : crcT.length = 256 := by simp [crcT]
theorem xor_comm_ (k : IntKind) (x y : Int) : Go.bits .xor k x y = Go.bits .xor k y x := by simp only [Go.bits, BitVec.xor_comm]
theorem bits_u8 (op : BinOp) (x y : Int) : 0 ≤ Go.bits op .u8 x y ∧ Go.bits op .u8 x y < 256 := by
  unfold Go.bits; rw [IntKind.wrap_u8]; exact ⟨Int.emod_nonneg _ (by decide), Int.emod_lt_of_pos _ (by decide)⟩
theorem bits_u32 (op : BinOp) (x y : Int) : 0 ≤ Go.bits op .u32 x y ∧ Go.bits op .u32 x y < 4294967296 := by
  unfold Go.bits; rw [IntKind.wrap_u32]; exact ⟨Int.emod_nonneg _ (by decide), Int.emod_lt_of_pos _ (by decide)⟩
def sumR (s : ByteArray) : Nat → Nat → Int → Int
  | 0, _, x => x
  | d + 1, i, x => sumR s d (i + 1) (Go.bits .xor .u32 (x / 256) (rd crcT (Go.bits .xor .u8 (x % 256) (bt s i))))
def sumOnV (x : Int) (s : ByteArray) : Int := sumR s s.size 0 x
def sumV (s : ByteArray) : Int := Go.bits .xor .u32 4294967295 (sumOnV 4294967295 s)
theorem sumV_range (s : ByteArray) : 0 ≤ sumV s ∧ sumV s < 4294967296 := bits_u32 _ _ _

-- part specTable needs spec_l2Table.f
theorem spec_table_in (d : Nat) : ∀ (T : List Int) (i x j y z : Int) (r : List Int), 0 ≤ j → j + d = 8 → 0 ≤ i → i < T.length →
    Ev (fun k => spec_l2Table.l0 k (T.set i.toNat (crcIt d x)) y (wrap64 (z + 1))) r → Ev (fun k => spec_l2Table.l1 k T i x j y z) r := by
  induction d with
  | zero =>
    intro T i x j y z r h0 hd hi hi' h
    refine Ev.step (fun k => ?_) h
    simp only [spec_l2Table.l1]
    rw [if_neg (by omega), if_pos hi, if_pos hi']; rfl
  | succ d ih =>
    intro T i x j y z r h0 hd hi hi' h
    refine Ev.step (fun k => ?_) (ih T i (crcStep x) (j + 1) y z r (by omega) (by omega) hi hi' h)
    simp only [spec_l2Table.l1]
    rw [if_pos (by omega), w64 (by omega) (by omega)]
    unfold crcStep
    split <;> rfl
theorem spec_table_l (d : Nat) : ∀ (i : Nat), i + d = 256 → Ev (fun k => spec_l2Table.l0 k ((List.range i).map crcE ++ List.replicate d 0) 256 i) crcT := by
  induction d with
  | zero =>
    intro i hi
    obtain rfl : i = 256 := by omega
    refine Ev.step (f := fun _ => some crcT) (fun k => ?_) (Ev.now _)
    simp only [spec_l2Table.l0]; rw [if_neg (by omega)]; simp [crcT]
  | succ d ih =>
    intro i hi
    have e : ((List.range i).map crcE ++ List.replicate (d + 1) 0).set (i : Int).toNat (crcE i) = (List.range (i + 1)).map crcE ++ List.replicate d 0 := by
      rw [Int.toNat_natCast, List.range_succ, List.map_append, List.set_append_right _ _ (by simp)]
      simp [List.replicate_succ]
    refine Ev.step (f := fun k => spec_l2Table.l1 k ((List.range i).map crcE ++ List.replicate (d + 1) 0) i i 0 256 i) (fun k => ?_) ?_
    · simp only [spec_l2Table.l0]; rw [if_pos (by omega), Int.emod_eq_of_lt (by omega) (by omega)]
    · refine spec_table_in 8 _ _ _ _ _ _ _ (by omega) rfl (by omega) (by simp; omega) ?_
      have := ih (i + 1) (by omega)
      rw [show crcIt 8 (i : Int) = crcE i from rfl, e, w64 (by omega) (by omega)]
      exact this
theorem spec_table : Ev (fun k => spec_l2Table.f k) crcT := by
  unfold spec_l2Table.f
  refine Ev.pos_ (by decide) ?_
  show Ev (fun k => spec_l2Table.l0 k (List.replicate 256 0) ((List.replicate 256 (0 : Int)).length : Int) 0) crcT
  rw [List.length_replicate]
  exact spec_table_l 256 0 rfl

-- part implTable needs impl_SumTable.f
theorem impl_table_in (d : Nat) : ∀ (T : List Int) (x z j : Int) (r : List Int), 0 ≤ j → j + d = 8 → T.length < 35184372088832 →
    Ev (fun k => impl_SumTable.l0 k (T ++ [crcIt d x]) ((z + 1) % 4294967296)) r → Ev (fun k => impl_SumTable.l1 k T x z j) r := by
  induction d with
  | zero =>
    intro T x z j r h0 hd hi h
    refine Ev.step (fun k => ?_) h
    simp only [impl_SumTable.l1]
    rw [if_neg (by omega), if_pos hi]; rfl
  | succ d ih =>
    intro T x z j r h0 hd hi h
    refine Ev.step (fun k => ?_) (ih T (crcStep x) z (j + 1) r (by omega) (by omega) hi h)
    simp only [impl_SumTable.l1]
    rw [if_pos (by omega), w64 (by omega) (by omega)]
    unfold crcStep
    split <;> rfl
theorem impl_table_l (d : Nat) : ∀ (i : Nat), i + d = 256 → Ev (fun k => impl_SumTable.l0 k ((List.range i).map crcE) i) crcT := by
  induction d with
  | zero =>
    intro i hi
    obtain rfl : i = 256 := by omega
    refine Ev.step (f := fun _ => some crcT) (fun k => ?_) (Ev.now _)
    simp only [impl_SumTable.l0]; rw [if_neg (by omega)]; rfl
  | succ d ih =>
    intro i hi
    refine Ev.step (f := fun k => impl_SumTable.l1 k ((List.range i).map crcE) i i 0) (fun k => ?_) ?_
    · simp only [impl_SumTable.l0]; rw [if_pos (by omega)]
    · refine impl_table_in 8 _ _ _ _ _ (by omega) rfl (by simp; omega) ?_
      have := ih (i + 1) (by omega)
      rw [Int.emod_eq_of_lt (by omega) (by omega)]
      rw [List.range_succ, List.map_append] at this
      exact this
theorem impl_table : Ev (fun k => impl_SumTable.f k) crcT := impl_table_l 256 0 rfl

-- part specOn needs spec_l2On.f
theorem spec_on_l (s : ByteArray) (hs : s.size ≤ 140737488351232) (d : Nat) : ∀ (i : Nat) (x : Int), i + d = s.size → Ev (fun k => spec_l2On.l0 k crcT x s i) (sumR s d i x) := by
  induction d with
  | zero =>
    intro i x hi
    refine Ev.step (f := fun _ => some x) (fun k => ?_) (Ev.now _)
    simp only [spec_l2On.l0]; rw [if_neg (by omega)]
  | succ d ih =>
    intro i x hi
    have hr := bits_u8 .xor (x % 256) (bt s i)
    refine Ev.step (fun k => ?_) (ih (i + 1) _ (by omega))
    simp only [spec_l2On.l0]
    rw [if_pos (by omega), if_pos (by omega), if_pos hr.1, if_pos (by rw [crcT_len]; exact hr.2), xor_comm_ .u32, w64 (by omega) (by omega)]; rfl
theorem spec_on (x : Int) (s : ByteArray) (hs : s.size ≤ 140737488351232) : Ev (fun k => spec_l2On.f k crcT x s) (sumOnV x s) := spec_on_l s hs _ 0 x (by omega)

-- part implOn needs impl_SumOn.f
theorem impl_on_l (s : ByteArray) (hs : s.size ≤ 140737488351232) (d : Nat) : ∀ (i : Nat) (x : Int), i + d = s.size → Ev (fun k => impl_SumOn.l0 k x s crcT (s.size : Int) i) (sumR s d i x) := by
  induction d with
  | zero =>
    intro i x hi
    refine Ev.step (f := fun _ => some x) (fun k => ?_) (Ev.now _)
    simp only [impl_SumOn.l0]; rw [if_neg (by omega)]
  | succ d ih =>
    intro i x hi
    have hr := bits_u8 .xor (x % 256) (bt s i)
    refine Ev.step (fun k => ?_) (ih (i + 1) _ (by omega))
    simp only [impl_SumOn.l0]
    rw [if_pos (by omega), if_pos (by omega), if_pos (by omega), if_pos hr.1, if_pos (by rw [crcT_len]; exact hr.2), w64 (by omega) (by omega)]; rfl
theorem impl_on (x : Int) (s : ByteArray) (hs : s.size ≤ 140737488351232) : Ev (fun k => impl_SumOn.f k x s) (sumOnV x s) :=
  Ev.bind impl_table (impl_on_l s hs _ 0 x (by omega))

-- part implSum needs impl_SumOf.f
theorem impl_sum (s : ByteArray) (hs : s.size ≤ 140737488351232) : Ev (fun k => impl_SumOf.f k s) (sumV s) :=
  Ev.bind (impl_on 4294967295 s hs) (Ev.now _)

-- part placesM: the places of a key
def placesR (b : Int) : Nat → Int → List Int
  | 0, _ => []
  | d + 1, a => (a % 256) :: placesR b d ((a + b) % 4294967296)
def placesV (key : ByteArray) (h : Int) : List Int := placesR (Go.bits .or .u32 (sumOnV 0 key) 1) h.toNat (sumV key)
theorem placesR_len (b : Int) : ∀ (d : Nat) (a : Int), (placesR b d a).length = d := by
  intro d; induction d with
  | zero => intro a; rfl
  | succ d ih => intro a; simp [placesR, ih]
theorem placesR_mem (b : Int) : ∀ (d : Nat) (a x : Int), x ∈ placesR b d a → 0 ≤ x ∧ x < 256 := by
  intro d; induction d with
  | zero => intro a x h; cases h
  | succ d ih =>
    intro a x h
    rcases List.mem_cons.1 h with rfl | h
    · omega
    · exact ih _ _ h
theorem placesV_len (key : ByteArray) {h : Int} (h0 : 0 ≤ h) : ((placesV key h).length : Int) = h := by unfold placesV; rw [placesR_len]; omega

-- part specPlaces needs spec_l5Places.f
theorem spec_places_l (h b : Int) (hh : h ≤ 8) : ∀ (d : Nat) (a : Int) (acc : List Int) (i : Int), 0 ≤ i → i + d = h → 0 ≤ a → acc.length + d ≤ 1000 → Ev (fun k => spec_l5Places.l0 k h a b acc i) (acc ++ placesR b d a) := by
  intro d
  induction d with
  | zero =>
    intro a acc i h0 hi ha hl
    refine Ev.step (f := fun _ => some acc) (fun k => ?_) (by simpa [placesR] using Ev.now _)
    simp only [spec_l5Places.l0]; rw [if_neg (by omega)]
  | succ d ih =>
    intro a acc i h0 hi ha hl
    have := ih ((a + b) % 4294967296) (acc ++ [a % 256]) (i + 1) (by omega) (by omega) (Int.emod_nonneg _ (by decide)) (by simp; omega)
    rw [List.append_assoc] at this
    refine Ev.step (fun k => ?_) this
    simp only [spec_l5Places.l0]
    rw [if_pos (by omega), if_pos (by omega), Int.tmod_eq_emod_of_nonneg ha, w64 (by omega) (by omega), w64 (by omega) (by omega)]
theorem spec_places (key : ByteArray) (h : Int) (h0 : 0 ≤ h) (hh : h ≤ 8) (hs : key.size ≤ 140737488351232) : Ev (fun k => spec_l5Places.f k key h) (placesV key h) := by
  unfold spec_l5Places.f
  refine Ev.bind spec_table (Ev.bind (spec_on 4294967295 key hs) (Ev.bind (spec_on 0 key hs) ?_))
  exact spec_places_l h _ hh h.toNat _ [] 0 (by omega) (by omega) (sumV_range key).1 (by simp; omega)

-- part implPlaces needs impl_places.f
theorem impl_places_l (h b : Int) (hh : h ≤ 8) : ∀ (d : Nat) (a : Int) (acc : List Int) (i : Int), 0 ≤ i → i + d = h → 0 ≤ a → acc.length + d ≤ 1000 → Ev (fun k => impl_places.l0 k a b acc h i) (acc ++ placesR b d a) := by
  intro d
  induction d with
  | zero =>
    intro a acc i h0 hi ha hl
    refine Ev.step (f := fun _ => some acc) (fun k => ?_) (by simpa [placesR] using Ev.now _)
    simp only [impl_places.l0]; rw [if_neg (by omega)]
  | succ d ih =>
    intro a acc i h0 hi ha hl
    have := ih ((a + b) % 4294967296) (acc ++ [a % 256]) (i + 1) (by omega) (by omega) (Int.emod_nonneg _ (by decide)) (by simp; omega)
    rw [List.append_assoc] at this
    refine Ev.step (fun k => ?_) this
    simp only [impl_places.l0]
    rw [if_pos (by omega), if_pos (by omega), Int.tmod_eq_emod_of_nonneg ha, w64 (by omega) (by omega), w64 (by omega) (by omega)]
theorem impl_places_ (key : ByteArray) (h : Int) (h0 : 0 ≤ h) (hh : h ≤ 8) (hs : key.size ≤ 140737488351232) : Ev (fun k => impl_places.f k key h) (placesV key h) := by
  unfold impl_places.f
  refine Ev.bind (impl_sum key hs) (Ev.bind (impl_on 0 key hs) ?_)
  exact impl_places_l h _ hh h.toNat _ [] 0 (by omega) (by omega) (sumV_range key).1 (by simp; omega)

-- part toStringS needs laws_toStringS.f
theorem toStringS_ (l : List ByteArray) (hl : l.length ≤ 17592186044416) : Ev (fun k => laws_toStringS.f k l) l := by
  unfold laws_toStringS.f
  refine Ev.pos_ (by omega) (Ev.pos_ (by omega) ?_)
  have := to_gen laws_toStringS.l0 (fun x => x) (⟨#[]⟩ : ByteArray) ByteArray.empty (fun xs ys i r hi hy hn h => Ev.step (fun k => ?_) h) (fun xs ys => Ev.step (f := fun _ => some ys) (fun k => ?_) (Ev.now _)) l.length l 0 (by omega) (by omega)
  · simpa using this
  · simp only [laws_toStringS.l0]; rw [if_pos (by omega), if_pos (by omega), if_pos (by omega), wi hi hn, Int.toNat_natCast, rdOf_nat]
  · simp only [laws_toStringS.l0]; rw [if_neg (by omega)]

-- part szStringS needs laws_szStringS.f
theorem szStringS_some (l : List ByteArray) (m : Int) (hl : l.length ≤ 140737488351232) : ∃ r, Ev (fun k => laws_szStringS.f k l m) r := by
  unfold laws_szStringS.f
  by_cases h : wrap64 (m - (l.length : Int)) < 0
  · exact ⟨-1, Ev.pos_ h (Ev.now _)⟩
  · have := sz_gen laws_szStringS.l0 (fun xs m i hi hn h => ?_) (fun xs m => ⟨m, Ev.step (f := fun _ => some m) (fun k => ?_) (Ev.now _)⟩) l.length l (wrap64 (m - (l.length : Int))) 0 (by omega) hl
    · obtain ⟨r, hr⟩ := this
      exact ⟨r, Ev.neg_ h (by simpa using hr)⟩
    · by_cases hr : wrap64 (m - ((rdOf ByteArray.empty xs (i : Int)).size : Int)) < 0
      · refine ⟨-1, ?_⟩
        refine Ev.step (fun k => by rw [laws_szStringS.l0]) ?_
        exact Ev.pos_ (by omega) (Ev.pos_ (by omega) (Ev.pos_ hr (Ev.now _)))
      · obtain ⟨q, hq⟩ := h (wrap64 (m - ((rdOf ByteArray.empty xs (i : Int)).size : Int)))
        refine ⟨q, ?_⟩
        refine Ev.step (fun k => by rw [laws_szStringS.l0]) ?_
        refine Ev.pos_ (by omega) (Ev.pos_ (by omega) (Ev.neg_ hr ?_))
        simp only [wi hi hn]; exact hq
    · simp only [laws_szStringS.l0]; rw [if_neg (by omega)]

-- part addM: bits are set
def addBit (xs : List Int) (p : Int) : List Int := xs.set (p / 8).toNat (Go.bits .or .u8 (rd xs (p / 8)) (shl .u8 1 (p % 8)))
def addAll (xs ps : List Int) : List Int := ps.foldl addBit xs
theorem addBit_len (xs : List Int) (p : Int) : (addBit xs p).length = xs.length := by unfold addBit; simp
theorem addAll_len (ps : List Int) : ∀ xs : List Int, (addAll xs ps).length = xs.length := by
  induction ps with
  | nil => intro xs; rfl
  | cons p ps ih => intro xs; show (addAll (addBit xs p) ps).length = _; rw [ih, addBit_len]
theorem addAll_drop (xs ps : List Int) (i : Nat) (h : i < ps.length) : addAll xs (ps.drop i) = addAll (addBit xs (rd ps (i : Int))) (ps.drop (i + 1)) := by
  rw [List.drop_eq_getElem_cons h]
  unfold rd
  rw [List.getD_eq_getElem?_getD, Int.toNat_natCast, List.getElem?_eq_getElem h]; rfl
def addV (h : Int) (b : ByteArray) (m : Int) (key : ByteArray) : Int × ByteArray × Int := (h, strOfNums (addAll (bytesOf b) (placesV key h)), if m < 1000000 then m + 1 else m)
theorem placesV_rd (key : ByteArray) (h : Int) (i : Nat) (hi : i < (placesV key h).length) : 0 ≤ rd (placesV key h) (i : Int) ∧ rd (placesV key h) (i : Int) < 256 := by
  unfold rd
  rw [List.getD_eq_getElem?_getD, Int.toNat_natCast, List.getElem?_eq_getElem hi]
  exact placesR_mem _ _ _ _ (List.getElem_mem hi)
theorem goodFilterB_iff {h : Int} {b : ByteArray} {m : Int} (g : goodFilterB h b m = true) : 1 ≤ h ∧ h ≤ 8 ∧ b.size = 32 ∧ 0 ≤ m ∧ m ≤ 1000000 := by
  unfold goodFilterB at g
  simp only [Bool.and_eq_true, inB_iff, decide_eq_true_eq] at g
  omega

-- part specAdd needs spec_l5Add.f
theorem spec_add_l (h : Int) (b : ByteArray) (m : Int) (hm : 0 ≤ m ∧ m ≤ 1000000) (ps : List Int) (hn : ps.length ≤ 1000) (hp : ∀ i : Nat, i < ps.length → 0 ≤ rd ps (i : Int) ∧ rd ps (i : Int) < 256) : ∀ (d i : Nat) (xs : List Int), i + d = ps.length → xs.length = 32 →
    Ev (fun k => spec_l5Add.l0 k xs ps (ps.length : Int) i h b m) (h, strOfNums (addAll xs (ps.drop i)), if m < 1000000 then m + 1 else m) := by
  intro d
  induction d with
  | zero =>
    intro i xs hi hx
    refine Ev.step (fun k => by rw [spec_l5Add.l0]) ?_
    rw [List.drop_eq_nil_of_le (by omega)]
    refine Ev.neg_ (by omega) (Ev.ite_ (fun hl => ?_) (fun hl => ?_))
    · rw [if_pos hl, w64 (n := m + 1) (by omega) (by omega)]; exact Ev.now _
    · rw [if_neg hl]; exact Ev.now _
  | succ d ih =>
    intro i xs hi hx
    have hr := hp i (by omega)
    refine Ev.step (fun k => by rw [spec_l5Add.l0]) ?_
    rw [w64 (n := (i : Int) + 1) (by omega) (by omega), Int.tdiv_eq_ediv_of_nonneg hr.1, Int.tmod_eq_emod_of_nonneg hr.1, w64 (n := rd ps (i : Int) / 8) (by omega) (by omega), wu64 (n := rd ps (i : Int) % 8) (by omega) (by omega)]
    refine Ev.pos_ (by omega) (Ev.pos_ (by omega) (Ev.pos_ (by omega) (Ev.pos_ (by omega) (Ev.pos_ (by omega) (Ev.pos_ (by omega) ?_)))))
    have := ih (i + 1) (addBit xs (rd ps (i : Int))) (by omega) (by rw [addBit_len]; exact hx)
    rw [← addAll_drop xs ps i (by omega)] at this
    exact this
theorem spec_add (h : Int) (b : ByteArray) (m : Int) (key : ByteArray) (g : goodFilterB h b m = true) (hk : key.size ≤ 140737488351232) : Ev (fun k => spec_l5Add.f k h b m key) (addV h b m key) := by
  have hh := goodFilterB_iff g
  have hl := placesV_len key (h := h) (by omega)
  unfold spec_l5Add.f
  refine Ev.pos_ (by omega) (Ev.bind (spec_places key h (by omega) (by omega) hk) ?_)
  exact spec_add_l h b m (by omega) (placesV key h) (by omega) (placesV_rd key h) (placesV key h).length 0 (bytesOf b) (by omega) (by rw [bytesOf_length]; omega)

-- part implAdd needs impl_AddKey.f
theorem impl_add_l (h : Int) (b : ByteArray) (m : Int) (hm : 0 ≤ m ∧ m ≤ 1000000) (ps : List Int) (hn : ps.length ≤ 1000) (hp : ∀ i : Nat, i < ps.length → 0 ≤ rd ps (i : Int) ∧ rd ps (i : Int) < 256) : ∀ (d i : Nat) (xs : List Int), i + d = ps.length → xs.length = 32 →
    Ev (fun k => impl_AddKey.l0 k xs ps (ps.length : Int) i h b m) (h, strOfNums (addAll xs (ps.drop i)), if m < 1000000 then m + 1 else m, true) := by
  intro d
  induction d with
  | zero =>
    intro i xs hi hx
    refine Ev.step (fun k => by rw [impl_AddKey.l0]) ?_
    rw [List.drop_eq_nil_of_le (by omega)]
    refine Ev.neg_ (by omega) ?_
    rw [w64 (n := m + 1) (by omega) (by omega)]
    have : mn (m + 1) 1000000 = if m < 1000000 then m + 1 else m := by unfold mn; split <;> split <;> omega
    rw [this]; exact Ev.now _
  | succ d ih =>
    intro i xs hi hx
    have hr := hp i (by omega)
    refine Ev.step (fun k => by rw [impl_AddKey.l0]) ?_
    rw [w64 (n := (i : Int) + 1) (by omega) (by omega), Int.tdiv_eq_ediv_of_nonneg hr.1, Int.tmod_eq_emod_of_nonneg hr.1, w64 (n := rd ps (i : Int) / 8) (by omega) (by omega)]
    refine Ev.pos_ (by omega) (Ev.pos_ (by omega) (Ev.pos_ (by omega) (Ev.pos_ (by omega) (Ev.pos_ (by omega) (Ev.pos_ (by omega) ?_)))))
    have := ih (i + 1) (addBit xs (rd ps (i : Int))) (by omega) (by rw [addBit_len]; exact hx)
    rw [← addAll_drop xs ps i (by omega)] at this
    exact this
theorem impl_addKey (h : Int) (b : ByteArray) (m : Int) (key : ByteArray) (hk : key.size ≤ 140737488351232) :
    Ev (fun k => impl_AddKey.f k h b m key) (if goodFilterB h b m = true ∧ keyB key = true then ((addV h b m key).1, (addV h b m key).2.1, (addV h b m key).2.2, true) else (0, ⟨#[]⟩, 0, false)) := by
  unfold impl_AddKey.f
  simp only [impl_goodFilter, impl_key, Option.bind_some]
  by_cases g : goodFilterB h b m = true
  · refine Ev.pos_ g (Ev.step (fun k => by rw [impl_AddKey.j0]) ?_)
    by_cases gk : keyB key = true
    · have hh := goodFilterB_iff g
      have hl := placesV_len key (h := h) (by omega)
      rw [if_pos ⟨g, gk⟩]
      refine Ev.neg_ (by simp [gk]) (Ev.pos_ (by omega) (Ev.bind (impl_places_ key h (by omega) (by omega) hk) ?_))
      exact impl_add_l h b m (by omega) (placesV key h) (by omega) (placesV_rd key h) (placesV key h).length 0 (bytesOf b) (by omega) (by rw [bytesOf_length]; omega)
    · rw [if_neg (fun e => gk e.2)]; exact Ev.pos_ (by simp [gk]) (Ev.now _)
  · rw [if_neg (fun e => g e.1)]
    refine Ev.neg_ g (Ev.step (fun k => by rw [impl_AddKey.j0]) ?_)
    exact Ev.pos_ rfl (Ev.now _)

-- part newM: a new filter
def newV (h : Int) : Int × ByteArray × Int × Bool := if inB h 1 8 = true then (h, strOfNums (List.replicate 32 0), 0, true) else (0, ⟨#[]⟩, 0, false)
theorem newV_good {h : Int} (g : inB h 1 8 = true) : goodFilterB h (strOfNums (List.replicate 32 0)) 0 = true := by
  unfold goodFilterB
  rw [strOfNums_size, g]; rfl
theorem addV_good {h : Int} {b : ByteArray} {m : Int} (key : ByteArray) (g : goodFilterB h b m = true) : goodFilterB (addV h b m key).1 (addV h b m key).2.1 (addV h b m key).2.2 = true := by
  have hh := goodFilterB_iff g
  unfold addV goodFilterB
  rw [strOfNums_size, addAll_len, bytesOf_length]
  have h1 : inB h 1 8 = true := by rw [inB_iff]; omega
  have h2 : inB (if m < 1000000 then m + 1 else m) 0 1000000 = true := by rw [inB_iff]; split <;> omega
  dsimp only
  rw [h1, h2, hh.2.2.1]; rfl

-- part specNew needs spec_NewFilter.f
theorem spec_new (h : Int) : spec_NewFilter.f h = some (newV h) := by
  unfold spec_NewFilter.f spec_l5Hashes.f newV
  simp only [spec_in, Option.bind_some]
  by_cases g : inB h 1 8 = true
  · rw [if_pos g, if_pos (by decide), if_pos g]
  · rw [if_neg g, if_neg g]

-- part implNew needs impl_NewFilter.f
theorem repeat32 : strings_Repeat.f (⟨#[0]⟩ : ByteArray) 32 = some (strOfNums (List.replicate 32 0)) := by
  unfold strings_Repeat.f
  rw [if_pos (by refine ⟨by decide, by decide, ?_⟩; show 1 * 32 ≤ _; decide)]
  rfl
theorem impl_new (h : Int) : impl_NewFilter.f h = some (newV h) := by
  unfold impl_NewFilter.f impl_hashesOk.f newV
  simp only [impl_in_, Option.bind_some, repeat32]
  by_cases g : inB h 1 8 = true
  · rw [if_pos g, if_pos g]
  · rw [if_neg g, if_neg g]

-- part filterM: the filter of keys
def filterR : List ByteArray → Int × ByteArray × Int → Int × ByteArray × Int × Bool
  | [], f => (f.1, f.2.1, f.2.2, true)
  | x :: xs, f => if keyB x = true then filterR xs (addV f.1 f.2.1 f.2.2 x) else (0, ⟨#[]⟩, 0, false)
theorem filterR_drop (l : List ByteArray) (f : Int × ByteArray × Int) (i : Nat) (h : i < l.length) : filterR (l.drop i) f = if keyB (l[i]'h) = true then filterR (l.drop (i + 1)) (addV f.1 f.2.1 f.2.2 (l[i]'h)) else (0, ⟨#[]⟩, 0, false) := by
  rw [List.drop_eq_getElem_cons h]; rfl
def filterV (l : List ByteArray) (h : Int) : Int × ByteArray × Int × Bool :=
  if inB h 1 8 = true ∧ l.length ≤ 200 then filterR l (h, strOfNums (List.replicate 32 0), 0) else (0, ⟨#[]⟩, 0, false)
theorem rdOf_get {α : Type} (d : α) {xs : List α} {i : Nat} (h : i < xs.length) : rdOf d xs (i : Int) = xs[i]'h := by
  rw [rdOf_nat, List.getD_eq_getElem?_getD, List.getElem?_eq_getElem h]; rfl

-- part specFilterOf needs spec_FilterOf.f
theorem spec_filter_l (l : List ByteArray) (hn : l.length ≤ 1000) (hl : ∀ x ∈ l, x.size ≤ 140737488351232) : ∀ (d i : Nat) (h : Int) (b : ByteArray) (m : Int), i + d = l.length → goodFilterB h b m = true →
    Ev (fun k => spec_FilterOf.l0 k l (l.length : Int) i h b m) (filterR (l.drop i) (h, b, m)) := by
  intro d
  induction d with
  | zero =>
    intro i h b m hi g
    refine Ev.step (fun k => by rw [spec_FilterOf.l0]) ?_
    rw [List.drop_eq_nil_of_le (by omega)]
    exact Ev.neg_ (by omega) (Ev.now _)
  | succ d ih =>
    intro i h b m hi g
    refine Ev.step (fun k => by rw [spec_FilterOf.l0]) ?_
    rw [filterR_drop l _ i (by omega), rdOf_get _ (by omega), spec_key, wi (show i < l.length by omega) (by omega)]
    refine Ev.pos_ (by omega) (Ev.pos_ (by omega) (Ev.pos_ (by omega) (Ev.some_ ?_)))
    refine Ev.ite_ (fun gk => ?_) (fun gk => ?_)
    · rw [if_pos gk]
      refine Ev.bind (spec_add h b m (l[i]'(by omega)) g (hl _ (List.getElem_mem _))) ?_
      exact ih (i + 1) _ _ _ (by omega) (addV_good _ g)
    · rw [if_neg gk]; exact Ev.now _
theorem spec_filterOf (l : List ByteArray) (h : Int) (hl : ∀ x ∈ l, x.size ≤ 140737488351232) (hn : l.length ≤ 140737488351232) : Ev (fun k => spec_FilterOf.f k l h) (filterV l h) := by
  unfold spec_FilterOf.f filterV
  rw [spec_new, newV]
  by_cases g : inB h 1 8 = true
  · rw [if_pos g]
    refine Ev.some_ (Ev.pos_ rfl (Ev.step (fun k => by rw [spec_FilterOf.j0]) ?_))
    by_cases hn : l.length ≤ 200
    · rw [if_pos ⟨g, hn⟩]
      refine Ev.neg_ (by simp; omega) ?_
      have := spec_filter_l l (by omega) hl l.length 0 h _ 0 (by omega) (newV_good g)
      simpa using this
    · rw [if_neg (fun e => hn e.2)]
      exact Ev.pos_ (by simp; omega) (Ev.now _)
  · rw [if_neg g, if_neg (fun e => g e.1)]
    exact Ev.some_ (Ev.neg_ (by simp) (Ev.step (fun k => by rw [spec_FilterOf.j0]) (Ev.pos_ rfl (Ev.now _))))

-- part implFilterOf needs impl_FilterOf.f
theorem impl_filter_l (l : List ByteArray) (hn : l.length ≤ 1000) (hl : ∀ x ∈ l, x.size ≤ 140737488351232) : ∀ (d i : Nat) (h : Int) (b : ByteArray) (m : Int), i + d = l.length → goodFilterB h b m = true →
    Ev (fun k => impl_FilterOf.l0 k l (l.length : Int) i h b m) (filterR (l.drop i) (h, b, m)) := by
  intro d
  induction d with
  | zero =>
    intro i h b m hi g
    refine Ev.step (fun k => by rw [impl_FilterOf.l0]) ?_
    rw [List.drop_eq_nil_of_le (by omega)]
    exact Ev.neg_ (by omega) (Ev.now _)
  | succ d ih =>
    intro i h b m hi g
    refine Ev.step (fun k => by rw [impl_FilterOf.l0]) ?_
    rw [filterR_drop l _ i (by omega), rdOf_get _ (by omega), wi (show i < l.length by omega) (by omega)]
    refine Ev.pos_ (by omega) (Ev.pos_ (by omega) (Ev.pos_ (by omega) ?_))
    refine Ev.bind (impl_addKey h b m (l[i]'(by omega)) (hl _ (List.getElem_mem _))) ?_
    by_cases gk : keyB (l[i]'(by omega)) = true
    · rw [if_pos gk, if_pos ⟨g, gk⟩]
      refine Ev.pos_ rfl ?_
      exact ih (i + 1) _ _ _ (by omega) (addV_good _ g)
    · rw [if_neg gk, if_neg (fun e => gk e.2)]; exact Ev.neg_ (by simp) (Ev.now _)
theorem impl_filterOf (l : List ByteArray) (h : Int) (hl : ∀ x ∈ l, x.size ≤ 140737488351232) (hn : l.length ≤ 140737488351232) : Ev (fun k => impl_FilterOf.f k l h) (filterV l h) := by
  unfold impl_FilterOf.f filterV
  rw [impl_new, newV]
  by_cases g : inB h 1 8 = true
  · rw [if_pos g]
    refine Ev.some_ (Ev.pos_ rfl (Ev.step (fun k => by rw [impl_FilterOf.j0]) ?_))
    by_cases hn : l.length ≤ 200
    · rw [if_pos ⟨g, hn⟩]
      refine Ev.neg_ (by simp; omega) ?_
      have := impl_filter_l l (by omega) hl l.length 0 h _ 0 (by omega) (newV_good g)
      simpa using this
    · rw [if_neg (fun e => hn e.2)]
      exact Ev.pos_ (by simp; omega) (Ev.now _)
  · rw [if_neg g, if_neg (fun e => g e.1)]
    exact Ev.some_ (Ev.neg_ (by simp) (Ev.step (fun k => by rw [impl_FilterOf.j0]) (Ev.pos_ rfl (Ev.now _))))

theorem FnExactFilterOf (l : List ByteArray) (h : Int) (hb : l.length * 16 ≤ 140737488351232 ∧ ∀ x ∈ l, x.size ≤ 140737488351232) (_ : (Lit.int .i64 h).wf = true) : ∃ k, laws_FnExactFilterOf.f k l h = some true := by
  apply Ev.rounds (r := true)
  have eqF : ∀ x y z, laws_eqFilter.f x y z x y z = some true := fun x y z => by unfold laws_eqFilter.f; rw [if_pos rfl, if_pos rfl, if_pos rfl]
  obtain ⟨z, hz⟩ := szStringS_some l 1048576 (by omega)
  have ht := toStringS_ l (by omega)
  unfold laws_FnExactFilterOf.f
  refine Ev.bind hz (Ev.ite_ (fun _ => Ev.now _) (fun _ => ?_))
  refine Ev.bind ht ?_
  refine Ev.bind (spec_filterOf l h hb.2 (by omega)) ?_
  refine Ev.bind ht ?_
  refine Ev.bind (impl_filterOf l h hb.2 (by omega)) ?_
  rw [eqF]
  refine Ev.some_ (Ev.pos_ rfl ?_)
  refine Ev.step (fun k => by rw [laws_FnExactFilterOf.j0]) ?_
  refine Ev.neg_ (by simp) ?_
  refine Ev.bind ht ?_
  refine Ev.bind (eqStringS_refl l (by omega)) ?_
  exact Ev.pos_ rfl (Ev.now _)

end Go.Proofs.Ytmakajlkphopbaa.Pure
