/-
  The plain statement of the law FnSought, proved: over numbers and lists alone. No condition beyond the given ones.
-/
import Derived.Test.YtjacppphgccphaaMFnSoughtx10
namespace Go.Proofs.Ytjacppphgccphaa.Pure
open Go Go.RowKit Go.Proofs.Ytjacppphgccphaa.MFnSought Go.Proofs.YtjacppphgccphaaW.PrintWords Go.Proofs.YtjacppphgccphaaW.PrintLast Go.Proofs.YtjacppphgccphaaW.PrintMore
set_option linter.unusedVariables false
set_option linter.unusedSimpArgs false

-- part base: plain facts on Go's numbers and on rounds
theorem lt_mn {i a b : Int} : i < mn a b ↔ i < a ∧ i < b := by unfold mn; split <;> omega
theorem mn_le {a b : Int} : mn a b ≤ a ∧ mn a b ≤ b := by unfold mn; split <;> omega
theorem w64 {n : Int} (h0 : -9223372036854775808 ≤ n) (h1 : n ≤ 9223372036854775807) : wrap64 n = n := by unfold wrap64; omega
theorem wrap_u64 (n : Int) : IntKind.u64.wrap n = n % 18446744073709551616 := by simp [IntKind.wrap, IntKind.bits, IntKind.signed]
theorem wu64 {n : Int} (h0 : 0 ≤ n) (h1 : n ≤ 18446744073709551615) : IntKind.u64.wrap n = n := by rw [wrap_u64]; omega
theorem wu32 {n : Int} (h0 : 0 ≤ n) (h1 : n ≤ 4294967295) : IntKind.u32.wrap n = n := by rw [IntKind.wrap_u32]; omega
theorem wraps_u32 (n : Int) (h₀ : 0 ≤ n) (h₁ : n < 2 ^ 32) : IntKind.u32.wrap n = n := by rw [IntKind.wrap_u32]; omega
theorem wraps_i64 (n : Int) (h₀ : 0 ≤ n) (h₁ : n < 2 ^ 63) : IntKind.i64.wrap n = n := by rw [IntKind.wrap_i64]; omega
theorem and127 {b : Int} (h0 : 0 ≤ b) (h1 : b ≤ 255) : Go.bits .and .u8 b 127 = b % 128 := bits_mask .u8 8 (by decide) wraps_u8 7 (by decide) b h0 (by omega)
theorem wf_i64 {n : Int} (h : (Lit.int .i64 n).wf = true) : -9223372036854775808 ≤ n ∧ n ≤ 9223372036854775807 := by
  simp only [Lit.wf, Bool.and_eq_true, decide_eq_true_eq] at h
  exact h
theorem wf_u32 {n : Int} (h : (Lit.int .u32 n).wf = true) : 0 ≤ n ∧ n ≤ 4294967295 := by
  simp only [Lit.wf, Bool.and_eq_true, decide_eq_true_eq] at h
  exact h
theorem bits_or_comm (k : IntKind) (x y : Int) : Go.bits .or k x y = Go.bits .or k y x := by
  simp only [Go.bits, BitVec.or_comm]
theorem and127i {b : Int} (h0 : 0 ≤ b) (h1 : b ≤ 9223372036854775807) : Go.bits .and .i64 b 127 = b % 128 := bits_mask .i64 63 (by decide) wraps_i64 7 (by decide) b h0 (by omega)
theorem or128i {b : Int} (h0 : 0 ≤ b) (h1 : b < 128) : Go.bits .or .i64 b 128 = b + 128 := by
  rw [bits_or_comm, bits_join .i64 63 (by decide) wraps_i64 7 128 b (by omega) (by omega) (by omega) h0 (by omega) (by omega)]; omega
theorem Ev.ite_ {α : Type} {c : Prop} [Decidable c] {g f : Nat → Option α} {r : α} (h : c → Ev g r) (k : ¬c → Ev f r) : Ev (fun n => if c then g n else f n) r := by
  by_cases hc : c
  · simp only [if_pos hc]; exact h hc
  · simp only [if_neg hc]; exact k hc
theorem Ev.pos_ {α : Type} {c : Prop} [Decidable c] {g f : Nat → Option α} {r : α} (hc : c) (h : Ev g r) : Ev (fun n => if c then g n else f n) r := by simp only [if_pos hc]; exact h
theorem Ev.neg_ {α : Type} {c : Prop} [Decidable c] {g f : Nat → Option α} {r : α} (hc : ¬c) (h : Ev f r) : Ev (fun n => if c then g n else f n) r := by simp only [if_neg hc]; exact h
theorem Ev.some_ {α β : Type} {f : Nat → α → Option β} {x : α} {r : β} (h : Ev (fun n => f n x) r) : Ev (fun n => (some x).bind (f n)) r := by simpa only [Option.bind_some] using h
theorem bo_and (b c : Bool) : (if b = true then some c else some false) = some (b && c) := by cases b <;> rfl
theorem bo_andP (p : Prop) [Decidable p] (c : Bool) : (if p then some c else some false) = some (decide p && c) := by by_cases h : p <;> simp [h]
theorem bo_orP (p : Prop) [Decidable p] (c : Bool) : (if p then some true else some c) = some (decide p || c) := by by_cases h : p <;> simp [h]
theorem bo_or (b c : Bool) : (if b = true then some true else some c) = some (b || c) := by cases b <;> rfl
def inB (a lo hi : Int) : Bool := decide (lo ≤ a) && decide (a ≤ hi)
theorem inB_iff {a lo hi : Int} : inB a lo hi = true ↔ lo ≤ a ∧ a ≤ hi := by simp [inB]

-- part listM: loops over lists by their index
def mkL {α : Type} (enc : Int → α) (c : Int) : Nat → Int → List α
  | 0, _ => []
  | d + 1, m => enc m :: mkL enc c d (m + c)
theorem mkL_len {α : Type} (enc : Int → α) (c : Int) : ∀ (d : Nat) (m : Int), (mkL enc c d m).length = d := by
  intro d; induction d with
  | zero => intro m; rfl
  | succ d ih => intro m; simp [mkL, ih]
theorem mark_gen {α : Type} (L : Nat → List α → Int → Int → Option (Int × List α)) (enc : Int → α) (c B : Int) (hc : 0 ≤ c)
    (hstep : ∀ (xs : List α) (m : Int) (i : Nat) (r : Int × List α), 0 < m → m + c ≤ B → i < xs.length → xs.length ≤ 140737488351232 → Ev (fun k => L k (xs.set i (enc m)) (m + c) ((i + 1 : Nat) : Int)) r → Ev (fun k => L k xs m (i : Int)) r)
    (hend : ∀ (xs : List α) (m : Int), Ev (fun k => L k xs m (xs.length : Int)) (m, xs)) :
    ∀ (d : Nat) (xs : List α) (m : Int) (i : Nat), i + d = xs.length → 0 < m → m + c * d ≤ B → xs.length ≤ 140737488351232 → Ev (fun k => L k xs m (i : Int)) (m + c * d, xs.take i ++ mkL enc c d m) := by
  intro d
  induction d with
  | zero =>
    intro xs m i hi hm hB hl
    have := hend xs m
    obtain rfl : i = xs.length := by omega
    simpa [mkL] using this
  | succ d ih =>
    intro xs m i hi hm hB hl
    have hcd : c * ((d + 1 : Nat) : Int) = c * d + c := by rw [Int.natCast_add, Int.mul_add]; simp
    have hcd0 : 0 ≤ c * (d : Int) := Int.mul_nonneg hc (by omega)
    refine hstep xs m i _ hm (by omega) (by omega) hl ?_
    have := ih (xs.set i (enc m)) (m + c) (i + 1) (by simp; omega) (by omega) (by omega) (by simpa using hl)
    have e : (xs.set i (enc m)).take (i + 1) ++ mkL enc c d (m + c) = xs.take i ++ mkL enc c (d + 1) m := by
      rw [List.take_set, List.take_succ_eq_append_getElem (by omega), List.set_append_right _ _ (by simp; omega)]
      simp [mkL, Nat.min_eq_left (show i ≤ xs.length by omega)]
    rw [e] at this
    rw [show m + c * ((d + 1 : Nat) : Int) = m + c + c * d by omega]
    exact this
theorem held_gen {α : Type} (H : Nat → List α → Int → Int → Option Int) (enc : Int → α) (c B : Int) (hc : 0 ≤ c)
    (hstep : ∀ (xs : List α) (m : Int) (i : Nat) (r : Int), 0 < m → m + c ≤ B → i < xs.length → xs.length ≤ 140737488351232 → xs[i]? = some (enc m) → Ev (fun k => H k xs (m + c) ((i + 1 : Nat) : Int)) r → Ev (fun k => H k xs m (i : Int)) r)
    (hend : ∀ (xs : List α) (m : Int), Ev (fun k => H k xs m (xs.length : Int)) m) :
    ∀ (d : Nat) (pre : List α) (m : Int), 0 < m → m + c * d ≤ B → pre.length + d ≤ 140737488351232 → Ev (fun k => H k (pre ++ mkL enc c d m) m (pre.length : Int)) (m + c * d) := by
  intro d
  induction d with
  | zero =>
    intro pre m hm hB hl
    have := hend pre m
    simpa [mkL] using this
  | succ d ih =>
    intro pre m hm hB hl
    have hcd : c * ((d + 1 : Nat) : Int) = c * d + c := by rw [Int.natCast_add, Int.mul_add]; simp
    have hcd0 : 0 ≤ c * (d : Int) := Int.mul_nonneg hc (by omega)
    refine hstep _ m pre.length _ hm (by omega) (by simp [mkL]) (by simp [mkL_len]; omega) (by simp [mkL]) ?_
    have := ih (pre ++ [enc m]) (m + c) (by omega) (by omega) (by simp; omega)
    rw [show m + c * ((d + 1 : Nat) : Int) = m + c + c * d by omega]
    simpa [mkL] using this
theorem to_gen {α β : Type} (L : Nat → List α → List β → Int → Option (List β)) (f : α → β) (z : β) (za : α)
    (hstep : ∀ (xs : List α) (ys : List β) (i : Nat) (r : List β), i < xs.length → i < ys.length → xs.length ≤ 140737488351232 → Ev (fun k => L k xs (ys.set i (f (xs.getD i za))) ((i + 1 : Nat) : Int)) r → Ev (fun k => L k xs ys (i : Int)) r)
    (hend : ∀ (xs : List α) (ys : List β), Ev (fun k => L k xs ys (xs.length : Int)) ys) :
    ∀ (d : Nat) (xs : List α) (i : Nat), i + d = xs.length → xs.length ≤ 140737488351232 → Ev (fun k => L k xs ((xs.take i).map f ++ List.replicate d z) (i : Int)) (xs.map f) := by
  intro d
  induction d with
  | zero =>
    intro xs i hi hl
    obtain rfl : i = xs.length := by omega
    have := hend xs (xs.map f)
    simpa using this
  | succ d ih =>
    intro xs i hi hl
    refine hstep xs _ i _ (by omega) (by simp; omega) hl ?_
    have := ih xs (i + 1) (by omega) hl
    have e : ((xs.take i).map f ++ List.replicate (d + 1) z).set i (f (xs.getD i za)) = (xs.take (i + 1)).map f ++ List.replicate d z := by
      have h0 : i - ((xs.take i).map f).length = 0 := by simp; omega
      rw [List.take_succ_eq_append_getElem (show i < xs.length by omega), List.map_append, List.set_append_right _ _ (by simp; omega), List.append_assoc, h0]
      congr 1
      simp [List.replicate_succ, List.getD_eq_getElem?_getD, List.getElem?_eq_getElem (show i < xs.length by omega)]
    rw [e]
    exact this
theorem eq_gen {α : Type} (E : Nat → List α → List α → Int → Option Bool)
    (hstep : ∀ (xs : List α) (i : Nat), i < xs.length → xs.length ≤ 140737488351232 → Ev (fun k => E k xs xs ((i + 1 : Nat) : Int)) true → Ev (fun k => E k xs xs (i : Int)) true)
    (hend : ∀ (xs : List α), Ev (fun k => E k xs xs (xs.length : Int)) true) :
    ∀ (d : Nat) (xs : List α) (i : Nat), i + d = xs.length → xs.length ≤ 140737488351232 → Ev (fun k => E k xs xs (i : Int)) true := by
  intro d
  induction d with
  | zero => intro xs i hi hl; obtain rfl : i = xs.length := by omega
            exact hend xs
  | succ d ih => intro xs i hi hl; exact hstep xs i (by omega) hl (ih xs (i + 1) (by omega) hl)
theorem sz_gen {α : Type} (Z : Nat → List α → Int → Int → Option Int)
    (hstep : ∀ (xs : List α) (m : Int) (i : Nat), i < xs.length → xs.length ≤ 140737488351232 → (∀ m', ∃ r, Ev (fun k => Z k xs m' ((i + 1 : Nat) : Int)) r) → ∃ r, Ev (fun k => Z k xs m (i : Int)) r)
    (hend : ∀ (xs : List α) (m : Int), ∃ r, Ev (fun k => Z k xs m (xs.length : Int)) r) :
    ∀ (d : Nat) (xs : List α) (m : Int) (i : Nat), i + d = xs.length → xs.length ≤ 140737488351232 → ∃ r, Ev (fun k => Z k xs m (i : Int)) r := by
  intro d
  induction d with
  | zero => intro xs m i hi hl; obtain rfl : i = xs.length := by omega
            exact hend xs m
  | succ d ih => intro xs m i hi hl; exact hstep xs m i (by omega) hl (fun m' => ih xs m' (i + 1) (by omega) hl)
theorem wi {i n : Nat} (h : i < n) (hn : n ≤ 140737488351232) : wrap64 ((i : Int) + 1) = ((i + 1 : Nat) : Int) := by rw [w64 (by omega) (by omega)]; omega
theorem rd_nat (xs : List Int) (i : Nat) : rd xs (i : Int) = xs.getD i 0 := by unfold rd; rw [Int.toNat_natCast]
theorem rdOf_nat {α : Type} (d : α) (xs : List α) (i : Nat) : rdOf d xs (i : Int) = xs.getD i d := by unfold rdOf; rw [Int.toNat_natCast]
theorem getD_of {α : Type} {xs : List α} {i : Nat} {a : α} (d : α) (h : xs[i]? = some a) : xs.getD i d = a := by rw [List.getD_eq_getElem?_getD, h]; rfl

-- part commonM: how many bytes two texts begin with that are the same
def comR (a b : ByteArray) : Nat → Int → Int
  | 0, i => i
  | d + 1, i => if i < (a.size : Int) ∧ i < (b.size : Int) ∧ bt a i = bt b i then comR a b d (i + 1) else i
def comV (a b : ByteArray) : Int := comR a b (a.size + 1) 0
theorem comR_range (a b : ByteArray) : ∀ (d : Nat) (i : Int), 0 ≤ i → i ≤ a.size → i ≤ b.size → i ≤ comR a b d i ∧ comR a b d i ≤ a.size ∧ comR a b d i ≤ b.size := by
  intro d
  induction d with
  | zero => intro i h0 h1 h2; simp [comR]; omega
  | succ d ih =>
    intro i h0 h1 h2
    unfold comR
    split
    · rename_i h; have := ih (i + 1) (by omega) (by omega) (by omega); omega
    · omega
theorem comV_range (a b : ByteArray) : 0 ≤ comV a b ∧ comV a b ≤ a.size ∧ comV a b ≤ b.size := comR_range a b _ 0 (by omega) (by omega) (by omega)

-- part specCommon needs spec_CommonOf.f
theorem spec_common_l (a b : ByteArray) (ha : a.size ≤ 140737488351232) (d : Nat) : ∀ (i : Int), 0 ≤ i → i ≤ a.size → (a.size : Int) + 1 - i = d → Ev (fun k => spec_CommonOf.l0 k a b i) (comR a b d i) := by
  induction d with
  | zero => intro i h0 h1 hd; omega
  | succ d ih =>
    intro i h0 h1 hd
    unfold comR
    have e1 : wrap64 (i + 1) = i + 1 := w64 (by omega) (by omega)
    by_cases h : i < (a.size : Int) ∧ i < (b.size : Int) ∧ bt a i = bt b i
    · rw [if_pos h]
      obtain ⟨p, q, e⟩ := h
      refine Ev.step (fun k => ?_) (ih (i + 1) (by omega) (by omega) (by omega))
      simp only [spec_CommonOf.l0]
      rw [if_pos p, if_pos q, if_pos h0, if_pos e, e1]
    · rw [if_neg h]
      refine Ev.step (f := fun _ => some i) (fun k => ?_) (Ev.now _)
      simp only [spec_CommonOf.l0]
      by_cases p : i < (a.size : Int)
      · rw [if_pos p]
        by_cases q : i < (b.size : Int)
        · rw [if_pos q, if_pos h0, if_neg (fun e => h ⟨p, q, e⟩)]
        · rw [if_neg q]
      · rw [if_neg p]
theorem spec_common (a b : ByteArray) (ha : a.size ≤ 140737488351232) : Ev (fun k => spec_CommonOf.f k a b) (comV a b) := spec_common_l a b ha _ 0 (by omega) (by omega) (by omega)

-- part implCommon needs impl_CommonOf.f
theorem impl_common_l (a b : ByteArray) (ha : a.size ≤ 140737488351232) (d : Nat) : ∀ (i : Int), 0 ≤ i → i ≤ a.size → (a.size : Int) + 1 - i = d → Ev (fun k => impl_CommonOf.l0 k a b i) (comR a b d i) := by
  induction d with
  | zero => intro i h0 h1 hd; omega
  | succ d ih =>
    intro i h0 h1 hd
    unfold comR
    have e1 : wrap64 (i + 1) = i + 1 := w64 (by omega) (by omega)
    by_cases h : i < (a.size : Int) ∧ i < (b.size : Int) ∧ bt a i = bt b i
    · rw [if_pos h]
      obtain ⟨p, q, e⟩ := h
      refine Ev.step (fun k => ?_) (ih (i + 1) (by omega) (by omega) (by omega))
      simp only [impl_CommonOf.l0]
      rw [if_pos (lt_mn.2 ⟨p, q⟩), if_pos h0, if_pos p, if_pos q, if_pos e, e1]
    · rw [if_neg h]
      refine Ev.step (f := fun _ => some i) (fun k => ?_) (Ev.now _)
      simp only [impl_CommonOf.l0]
      by_cases p : i < mn (a.size : Int) (b.size : Int)
      · have p' := lt_mn.1 p
        rw [if_pos p, if_pos h0, if_pos p'.1, if_pos p'.2, if_neg (fun e => h ⟨p'.1, p'.2, e⟩)]
      · rw [if_neg p]
theorem impl_common (a b : ByteArray) (ha : a.size ≤ 140737488351232) : Ev (fun k => impl_CommonOf.f k a b) (comV a b) := impl_common_l a b ha _ 0 (by omega) (by omega) (by omega)

-- part specIn needs spec_l1In.f
theorem spec_in (a lo hi : Int) : spec_l1In.f a lo hi = some (inB a lo hi) := by
  unfold spec_l1In.f inB; rw [bo_andP]

-- part implIn needs impl_in.f
theorem impl_in_ (a lo hi : Int) : impl_in.f a lo hi = some (inB a lo hi) := by
  unfold impl_in.f inB; rw [bo_andP]

-- part goodItem
def keyB (k : ByteArray) : Bool := inB (k.size : Int) 1 16
def seqB (q : Int) : Bool := inB q 0 1000000000
def goodItemB (k : ByteArray) (q d : Int) (v : ByteArray) : Bool := keyB k && (seqB q && (inB d 0 1 && (decide ((v.size : Int) ≤ 40) && (decide (d = 1) || (v.toList == ([] : List UInt8))))))

-- part specGoodItem needs spec_GoodItem.f
theorem spec_goodItem (k : ByteArray) (q d : Int) (v : ByteArray) : spec_GoodItem.f k q d v = some (goodItemB k q d v) := by
  unfold spec_GoodItem.f spec_l4Key.f spec_l4Seq.f goodItemB keyB seqB
  simp only [spec_in, Option.bind_some, bo_andP, bo_orP, Bool.decide_eq_true]

-- part implGoodItem needs impl_GoodItem.f
theorem impl_goodItem (k : ByteArray) (q d : Int) (v : ByteArray) : impl_GoodItem.f k q d v = some (goodItemB k q d v) := by
  unfold impl_GoodItem.f impl_isKey.f impl_isSeq.f impl_isValue.f goodItemB keyB seqB
  simp only [impl_in_, Option.bind_some, bo_andP, bo_orP, Bool.decide_eq_true]

-- part specKey needs spec_l4Key.f
theorem spec_key (k : ByteArray) : spec_l4Key.f k = some (keyB k) := by unfold spec_l4Key.f keyB; rw [spec_in]; rfl

-- part implKey needs impl_isKey.f
theorem impl_key (k : ByteArray) : impl_isKey.f k = some (keyB k) := by unfold impl_isKey.f keyB; rw [impl_in_]; rfl

-- part specSeq needs spec_l4Seq.f
theorem spec_seq (q : Int) : spec_l4Seq.f q = some (seqB q) := by unfold spec_l4Seq.f seqB; rw [spec_in]; rfl

-- part implSeq needs impl_isSeq.f
theorem impl_seq (q : Int) : impl_isSeq.f q = some (seqB q) := by unfold impl_isSeq.f seqB; rw [impl_in_]; rfl

-- part cmpM: items by their order
def cmpV (k1 : ByteArray) (q1 : Int) (k2 : ByteArray) (q2 : Int) : Int :=
  if Op.bytesLess k1.toList k2.toList = true then -1 else if k1.toList = k2.toList then (if q1 > q2 then -1 else if q1 = q2 then 0 else 1) else 1
theorem less_irrefl (a : List UInt8) : Op.bytesLess a a = false := by
  have := Go.Proofs.YtjacppphgccphaaX.less_of a a
  cases h : Op.bytesLess a a <;> simp_all
theorem less_eq {a b : List UInt8} (h1 : ¬ Op.bytesLess a b = true) (h2 : ¬ Op.bytesLess b a = true) : a = b := by
  have := Go.Proofs.YtjacppphgccphaaX.less_of a b
  cases h3 : Op.bytesLess a b <;> simp_all

-- part specCmp needs spec_l4Compare.f
theorem spec_cmp (k1 : ByteArray) (q1 d1 : Int) (v1 k2 : ByteArray) (q2 d2 : Int) (v2 : ByteArray) : Ev (fun k => spec_l4Compare.f k k1 q1 d1 v1 k2 q2 d2 v2) (cmpV k1 q1 k2 q2) := by
  unfold spec_l4Compare.f cmpV
  by_cases h1 : Op.bytesLess k1.toList k2.toList = true
  · rw [if_pos h1]
    exact Ev.pos_ h1 (Ev.step (fun k => by rw [spec_l4Compare.j0]) (Ev.pos_ rfl (Ev.now _)))
  · rw [if_neg h1]
    refine Ev.neg_ h1 ?_
    by_cases h2 : k1.toList = k2.toList
    · rw [if_pos h2]
      refine Ev.pos_ h2 (Ev.step (fun k => by rw [spec_l4Compare.j0]) ?_)
      by_cases h3 : q1 > q2
      · rw [if_pos h3]; exact Ev.pos_ (by simpa using h3) (Ev.now _)
      · rw [if_neg h3]
        refine Ev.neg_ (by simpa using h3) (Ev.pos_ h2 ?_)
        by_cases h4 : q1 = q2
        · simp only [if_pos h4]; exact Ev.now _
        · simp only [if_neg h4]; exact Ev.now _
    · rw [if_neg h2]
      exact Ev.neg_ h2 (Ev.step (fun k => by rw [spec_l4Compare.j0]) (Ev.neg_ (by simp) (Ev.neg_ h2 (Ev.now _))))

-- part implCmp needs impl_itemOrder.f
theorem or_two (a b : Int) : Ev (fun k => cmp_Or_int.f k [a, b]) (if a = 0 then b else a) := by
  unfold cmp_Or_int.f
  refine Ev.step (fun k => by rw [cmp_Or_int.l0]) ?_
  refine Ev.pos_ (by simp) (Ev.pos_ (by omega) (Ev.pos_ (by simp) ?_))
  have e0 : rd [a, b] 0 = a := rfl
  have e1 : rd [a, b] 1 = b := rfl
  have ew : wrap64 (0 + 1) = 1 := by rw [w64 (by omega) (by omega)]; rfl
  rw [e0, ew]
  by_cases h : a = 0
  · rw [if_pos h]
    refine Ev.pos_ h ?_
    refine Ev.step (fun k => by rw [cmp_Or_int.l0]) ?_
    refine Ev.pos_ (by simp) (Ev.pos_ (by omega) (Ev.pos_ (by simp) ?_))
    rw [e1]
    by_cases h' : b = 0
    · refine Ev.pos_ h' ?_
      have ew2 : wrap64 (1 + 1) = 2 := by rw [w64 (by omega) (by omega)]; rfl
      rw [ew2]
      subst h'
      exact Ev.step (fun k => by rw [cmp_Or_int.l0]) (Ev.neg_ (by simp) (Ev.now _))
    · exact Ev.neg_ h' (Ev.now _)
  · rw [if_neg h]; exact Ev.neg_ h (Ev.now _)
theorem impl_cmp (k1 : ByteArray) (q1 d1 : Int) (v1 k2 : ByteArray) (q2 d2 : Int) (v2 : ByteArray) : Ev (fun k => impl_itemOrder.f k k1 q1 d1 v1 k2 q2 d2 v2) (cmpV k1 q1 k2 q2) := by
  unfold impl_itemOrder.f
  have e1 : cmp_Compare_string.f k1 k2 = some (if Op.bytesLess k1.toList k2.toList = true then -1 else if k1.toList = k2.toList then 0 else 1) := by
    unfold cmp_Compare_string.f cmp_isNaN_string.f
    simp only [Option.bind_some]
    by_cases h1 : Op.bytesLess k1.toList k2.toList = true
    · simp [h1]
    · by_cases h2 : Op.bytesLess k2.toList k1.toList = true
      · have h3 : ¬ k1.toList = k2.toList := fun e => by rw [e, less_irrefl] at h2; cases h2
        simp [h1, h2, h3]
      · have h3 := less_eq h1 h2
        simp [h1, h2, h3, less_irrefl]
  have e2 : cmp_Compare_int.f q2 q1 = some (if q1 > q2 then -1 else if q1 = q2 then 0 else 1) := by
    unfold cmp_Compare_int.f cmp_isNaN_int.f
    simp only [Option.bind_some, bne_self_eq_false]
    by_cases h1 : q2 < q1
    · simp [h1]
    · by_cases h2 : q2 > q1
      · have : ¬ q1 = q2 := by omega
        simp [h1, h2, this]
      · obtain rfl : q1 = q2 := by omega
        simp
  simp only [e1, e2, Option.bind_some]
  refine Ev.bind (or_two _ _) ?_
  have : (if (if Op.bytesLess k1.toList k2.toList = true then (-1 : Int) else if k1.toList = k2.toList then 0 else 1) = 0 then (if q1 > q2 then (-1 : Int) else if q1 = q2 then 0 else 1) else (if Op.bytesLess k1.toList k2.toList = true then -1 else if k1.toList = k2.toList then 0 else 1)) = cmpV k1 q1 k2 q2 := by
    unfold cmpV
    by_cases h1 : Op.bytesLess k1.toList k2.toList = true
    · simp [h1]
    · by_cases h3 : k1.toList = k2.toList
      · simp [h3, less_irrefl]
      · simp [h1, h3]
  rw [this]
  exact Ev.now _

-- part runM: runs of items
def goodI (a : S27) : Bool := goodItemB a.f0 a.f1 a.f2 a.f3
def cmpI (a b : S27) : Int := cmpV a.f0 a.f1 b.f0 b.f1
def goodRunR (l : List S27) : Nat → Nat → Bool
  | 0, _ => true
  | d + 1, i => if goodI (l.getD i z27) = true then (if i > 0 then (if cmpI (l.getD (i - 1) z27) (l.getD i z27) ≥ 0 then false else goodRunR l d (i + 1)) else goodRunR l d (i + 1)) else false
def goodRunV (l : List S27) : Bool := goodRunR l l.length 0
theorem rdI_nat (xs : List S27) (i : Nat) : rd_T27 xs (i : Int) = xs.getD i z27 := by unfold rd_T27; rw [Int.toNat_natCast]
theorem goodRunR_good (l : List S27) : ∀ (d i : Nat), i + d = l.length → goodRunR l d i = true → ∀ j, i ≤ j → j < l.length → goodI (l.getD j z27) = true := by
  intro d
  induction d with
  | zero => intro i hi h j h1 h2; omega
  | succ d ih =>
    intro i hi h j h1 h2
    unfold goodRunR at h
    by_cases hg : goodI (l.getD i z27) = true
    · rw [if_pos hg] at h
      by_cases hj : j = i
      · subst hj; exact hg
      · refine ih (i + 1) (by omega) ?_ j (by omega) h2
        by_cases h0 : i > 0
        · rw [if_pos h0] at h
          split at h
          · cases h
          · exact h
        · rw [if_neg h0] at h; exact h
    · rw [if_neg hg] at h; cases h
theorem goodRunV_good {l : List S27} (h : goodRunV l = true) (j : Nat) (hj : j < l.length) : goodI (l.getD j z27) = true := goodRunR_good l l.length 0 (by omega) h j (by omega) hj
theorem goodI_iff {a : S27} (h : goodI a = true) : 1 ≤ a.f0.size ∧ a.f0.size ≤ 16 ∧ 0 ≤ a.f1 ∧ a.f1 ≤ 1000000000 ∧ 0 ≤ a.f2 ∧ a.f2 ≤ 1 ∧ a.f3.size ≤ 40 := by
  unfold goodI goodItemB keyB seqB at h
  simp only [Bool.and_eq_true, inB_iff, decide_eq_true_eq] at h
  omega

-- part specRun needs spec_GoodRun.f
theorem spec_run_l (l : List S27) (hl : l.length ≤ 140737488351232) : ∀ (d i : Nat), i + d = l.length → Ev (fun k => spec_GoodRun.l0 k l l (l.length : Int) i) (goodRunR l d i) := by
  intro d
  induction d with
  | zero =>
    intro i hi
    refine Ev.step (fun k => by rw [spec_GoodRun.l0]) ?_
    exact Ev.neg_ (by omega) (Ev.now _)
  | succ d ih =>
    intro i hi
    unfold goodRunR
    have hn := ih (i + 1) (by omega)
    refine Ev.step (fun k => by rw [spec_GoodRun.l0]) ?_
    refine Ev.pos_ (by omega) (Ev.pos_ (by omega) (Ev.pos_ (by omega) ?_))
    simp only [rdI_nat, spec_goodItem, Option.bind_some, wi (show i < l.length by omega) hl]
    by_cases h : goodI (l.getD i z27) = true
    · rw [if_pos h]
      refine Ev.pos_ h ?_
      by_cases h0 : i > 0
      · rw [if_pos h0]
        have ew : wrap64 ((i : Int) - 1) = ((i - 1 : Nat) : Int) := by rw [w64 (by omega) (by omega)]; omega
        refine Ev.pos_ (by omega) ?_
        simp only [ew, rdI_nat]
        refine Ev.pos_ (by omega) (Ev.pos_ (by omega) (Ev.bind (spec_cmp _ _ _ _ _ _ _ _) ?_))
        by_cases hc : cmpI (l.getD (i - 1) z27) (l.getD i z27) ≥ 0
        · rw [if_pos hc]; exact Ev.pos_ hc (Ev.now _)
        · rw [if_neg hc]; exact Ev.neg_ hc hn
      · rw [if_neg h0]
        exact Ev.neg_ (by omega) hn
    · rw [if_neg h]; exact Ev.neg_ h (Ev.now _)
theorem spec_run (l : List S27) (hl : l.length ≤ 140737488351232) : Ev (fun k => spec_GoodRun.f k l) (goodRunV l) := spec_run_l l hl l.length 0 (by omega)

-- part implRun needs impl_GoodRun.f
theorem impl_run_l (l : List S27) (hl : l.length ≤ 140737488351232) : ∀ (d i : Nat), i + d = l.length → Ev (fun k => impl_GoodRun.l0 k l l (l.length : Int) i) (goodRunR l d i) := by
  intro d
  induction d with
  | zero =>
    intro i hi
    refine Ev.step (fun k => by rw [impl_GoodRun.l0]) ?_
    exact Ev.neg_ (by omega) (Ev.now _)
  | succ d ih =>
    intro i hi
    unfold goodRunR
    have hn := ih (i + 1) (by omega)
    refine Ev.step (fun k => by rw [impl_GoodRun.l0]) ?_
    refine Ev.pos_ (by omega) (Ev.pos_ (by omega) (Ev.pos_ (by omega) ?_))
    simp only [rdI_nat, impl_goodItem, Option.bind_some, wi (show i < l.length by omega) hl]
    by_cases h : goodI (l.getD i z27) = true
    · rw [if_pos h]
      refine Ev.pos_ h ?_
      by_cases h0 : i > 0
      · rw [if_pos h0]
        have ew : wrap64 ((i : Int) - 1) = ((i - 1 : Nat) : Int) := by rw [w64 (by omega) (by omega)]; omega
        refine Ev.pos_ (by omega) ?_
        simp only [ew, rdI_nat]
        refine Ev.pos_ (by omega) (Ev.pos_ (by omega) (Ev.bind (impl_cmp _ _ _ _ _ _ _ _) ?_))
        by_cases hc : cmpI (l.getD (i - 1) z27) (l.getD i z27) ≥ 0
        · rw [if_pos hc]; exact Ev.pos_ hc (Ev.now _)
        · rw [if_neg hc]; exact Ev.neg_ hc hn
      · rw [if_neg h0]
        exact Ev.neg_ (by omega) hn
    · rw [if_neg h]; exact Ev.neg_ h (Ev.now _)
theorem impl_run (l : List S27) (hl : l.length ≤ 140737488351232) : Ev (fun k => impl_GoodRun.f k l) (goodRunV l) := impl_run_l l hl l.length 0 (by omega)

-- part byL: rows of bytes
def ByL (l : List Int) : Prop := ∀ x ∈ l, 0 ≤ x ∧ x ≤ 255
theorem byL {l : List Int} (h : ∀ x ∈ l, (Lit.int .u8 x).wf = true) : ByL l := fun x hx => by
  have := h x hx
  simp only [Lit.wf, Bool.and_eq_true, decide_eq_true_eq] at this
  exact this
theorem ByL.rd_ {l : List Int} (h : ByL l) (i : Int) : 0 ≤ rd l i ∧ rd l i ≤ 255 := by
  unfold rd
  rw [List.getD_eq_getElem?_getD]
  cases e : l[i.toNat]? with
  | none => simp
  | some x => exact h x (List.mem_of_getElem? e)

-- part drawNext needs spec_l1Cur_next.f
theorem and255_ {b : Int} (h0 : 0 ≤ b) (h1 : b < 18446744073709551616) : Go.bits .and .u64 b 255 = b % 256 := bits_mask .u64 64 (by decide) (fun n a b => by rw [wrap_u64]; omega) 8 (by decide) b h0 (by omega)
theorem mix_range (x : Int) : 0 ≤ wrap64 (Go.bits .and .u64 (IntKind.u64.wrap x / 1099511627776) 255) ∧ wrap64 (Go.bits .and .u64 (IntKind.u64.wrap x / 1099511627776) 255) ≤ 255 := by
  rw [wrap_u64, and255_ (by omega) (by omega), w64 (by omega) (by omega)]
  omega
theorem draw_next {l : List Int} (hl : ByL l) (a s : Int) (h0 : 0 ≤ a) (h1 : a ≤ 4611686018427387904) : ∃ b s', spec_l1Cur_next.f l a s = some (b, a + 1, s') ∧ 0 ≤ b ∧ b ≤ 255 := by
  have hw : wrap64 (a + 1) = a + 1 := w64 (by omega) (by omega)
  have hr := hl.rd_ a
  have hwr : wrap64 (rd l a) = rd l a := w64 (by omega) (by omega)
  unfold spec_l1Cur_next.f
  rw [hw, if_pos h0]
  split
  · split
    · exact ⟨_, _, rfl, by rw [hwr]; exact hr⟩
    · exact ⟨_, _, rfl, mix_range _⟩
  · split
    · exact ⟨_, _, rfl, by omega, by omega⟩
    · exact ⟨_, _, rfl, mix_range _⟩

-- part drawPick needs spec_l1Cur_pick.f
theorem tmod_range {x n : Int} (hx : 0 ≤ x) (hn : 1 ≤ n) : 0 ≤ Int.tmod x n ∧ Int.tmod x n < n ∧ Int.tmod x n ≤ x := by
  rw [Int.tmod_eq_emod_of_nonneg hx]
  have h1 := Int.emod_add_mul_ediv x n
  have h2 : 0 ≤ x / n := Int.ediv_nonneg hx (by omega)
  have h3 := Int.mul_nonneg (show (0 : Int) ≤ n by omega) h2
  exact ⟨Int.emod_nonneg _ (by omega), Int.emod_lt_of_pos _ (by omega), by omega⟩
theorem draw_pick {l : List Int} (hl : ByL l) (a s n : Int) (h0 : 0 ≤ a) (h1 : a ≤ 4611686018427387000) : ∃ v a' s', spec_l1Cur_pick.f l a s n = some (v, a', s') ∧ a ≤ a' ∧ a' ≤ a + 2 ∧ 0 ≤ v ∧ (1 ≤ n → v < n) ∧ v ≤ 65535 := by
  unfold spec_l1Cur_pick.f
  by_cases hn : n ≤ 1
  · rw [if_pos hn]; exact ⟨_, _, _, rfl, by omega, by omega, by omega, fun h => by omega, by omega⟩
  · rw [if_neg hn]
    obtain ⟨b, s1, e1, hb0, hb1⟩ := draw_next hl a s h0 (by omega)
    rw [e1, Option.bind_some]
    simp only
    by_cases h2 : n > 200
    · obtain ⟨c, s2, e2, hc0, hc1⟩ := draw_next hl (a + 1) s1 (by omega) (by omega)
      rw [if_pos h2, e2, Option.bind_some, if_neg (by omega), w64 (n := b * 256) (by omega) (by omega), w64 (n := b * 256 + c) (by omega) (by omega)]
      have := tmod_range (x := b * 256 + c) (n := n) (by omega) (by omega)
      exact ⟨_, _, _, rfl, by simp only; omega, by simp only; omega, this.1, fun _ => this.2.1, by omega⟩
    · rw [if_neg h2, if_neg (by omega)]
      have := tmod_range (x := b) (n := n) (by omega) (by omega)
      exact ⟨_, _, _, rfl, by omega, by omega, this.1, fun _ => this.2.1, by omega⟩

-- part drawAmong needs spec_l1Cur_among.f
theorem draw_among {l : List Int} (hl : ByL l) (a s : Int) (h0 : 0 ≤ a) (h1 : a ≤ 4611686018427387000) (xs : List Int) (hx : 1 ≤ xs.length) : ∃ v a' s', spec_l1Cur_among.f l a s xs = some (v, a', s') ∧ a ≤ a' ∧ a' ≤ a + 2 ∧ v ∈ xs := by
  unfold spec_l1Cur_among.f
  obtain ⟨i, a', s', e, h2, h3, h4, h5, h6⟩ := draw_pick hl a s (xs.length : Int) h0 h1
  have := h5 (by omega)
  rw [e, Option.bind_some]
  simp only
  rw [if_pos h4, if_pos this]
  refine ⟨_, _, _, rfl, h2, h3, ?_⟩
  unfold rd
  rw [List.getD_eq_getElem?_getD, List.getElem?_eq_getElem (by omega)]
  exact List.getElem_mem _

-- part drawOf needs spec_l1Cur_of.f
theorem draw_of {l : List Int} (hl : ByL l) (a s : Int) (h0 : 0 ≤ a) (h1 : a ≤ 4611686018427387000) (xs : List ByteArray) (hx : 1 ≤ xs.length) : ∃ v a' s', spec_l1Cur_of.f l a s xs = some (v, a', s') ∧ a ≤ a' ∧ a' ≤ a + 2 ∧ v ∈ xs := by
  unfold spec_l1Cur_of.f
  obtain ⟨i, a', s', e, h2, h3, h4, h5, h6⟩ := draw_pick hl a s (xs.length : Int) h0 h1
  have := h5 (by omega)
  rw [e, Option.bind_some]
  simp only
  rw [if_pos h4, if_pos this]
  refine ⟨_, _, _, rfl, h2, h3, ?_⟩
  unfold rdOf
  rw [List.getD_eq_getElem?_getD, List.getElem?_eq_getElem (by omega)]
  exact List.getElem_mem _

-- part drawText needs spec_l1Cur_text.f
theorem draw_text_l {l : List Int} (hl : ByL l) (d : Nat) : ∀ (xs : List Int) (i : Nat) (a s : Int), i + d = xs.length → xs.length ≤ 140737488351232 → 0 ≤ a → a + 2 * d ≤ 4611686018427380000 →
    ∃ t a' s', Ev (fun k => spec_l1Cur_text.l0 k xs (xs.length : Int) i l a s) (t, a', s') ∧ a ≤ a' ∧ a' ≤ a + 2 * d ∧ t.size = xs.length := by
  induction d with
  | zero =>
    intro xs i a s hi hx ha ha'
    refine ⟨strOfNums xs, a, s, Ev.step (f := fun _ => some (strOfNums xs, a, s)) (fun k => ?_) (Ev.now _), by omega, by omega, strOfNums_size _⟩
    simp only [spec_l1Cur_text.l0]; rw [if_neg (by omega)]
  | succ d ih =>
    intro xs i a s hi hx ha ha'
    obtain ⟨b, a1, s1, e1, h2, h3, h4, h5, h6⟩ := draw_pick hl a s 256 ha (by omega)
    obtain ⟨t, a', s', e, h7, h8, h9⟩ := ih (xs.set i (b % 256)) (i + 1) a1 s1 (by simp; omega) (by simpa using hx) (by omega) (by omega)
    rw [List.length_set] at e h9
    refine ⟨t, a', s', Ev.step (fun k => ?_) e, by omega, by omega, h9⟩
    simp only [spec_l1Cur_text.l0]
    rw [if_pos (by omega), e1, w64 (by omega) (by omega), Option.bind_some, if_pos (by omega), if_pos (by omega)]; rfl
theorem draw_text {l : List Int} (hl : ByL l) (a s n : Int) (h0 : 0 ≤ a) (h1 : a ≤ 4611686018427370000 - 140737488351232 * 2) (hn : 0 ≤ n) (hn' : n ≤ 140737488351232) : ∃ t a' s', Ev (fun k => spec_l1Cur_text.f k l a s n) (t, a', s') ∧ a ≤ a' ∧ a' ≤ a + 2 * n ∧ (t.size : Int) = n := by
  obtain ⟨t, a', s', e, h2, h3, h4⟩ := draw_text_l hl n.toNat (List.replicate n.toNat 0) 0 a s (by simp) (by simp; omega) h0 (by omega)
  refine ⟨t, a', s', ?_, h2, by omega, by rw [h4]; simp; omega⟩
  unfold spec_l1Cur_text.f
  exact Ev.pos_ hn (Ev.pos_ (by omega) e)

-- part seekM: the search in a run
def seekR (l : List S27) (key : ByteArray) (q : Int) : Nat → Nat → Nat → Nat
  | 0, lo, _ => lo
  | d + 1, lo, hi => if lo < hi then (if cmpI (l.getD ((lo + hi) / 2) z27) ⟨key, q, 0, ⟨#[]⟩⟩ < 0 then seekR l key q d ((lo + hi) / 2 + 1) hi else seekR l key q d lo ((lo + hi) / 2)) else lo
def seekV (l : List S27) (key : ByteArray) (q : Int) : Nat := seekR l key q l.length 0 l.length
theorem seekR_le (l : List S27) (key : ByteArray) (q : Int) : ∀ (d lo hi : Nat), lo ≤ hi → lo ≤ seekR l key q d lo hi ∧ seekR l key q d lo hi ≤ hi := by
  intro d
  induction d with
  | zero => intro lo hi h; exact ⟨Nat.le_refl _, h⟩
  | succ d ih =>
    intro lo hi h
    unfold seekR
    split
    · split
      · have := ih ((lo + hi) / 2 + 1) hi (by omega); omega
      · have := ih lo ((lo + hi) / 2) (by omega); omega
    · omega
def seekRunV (l : List S27) (key : ByteArray) (q : Int) : Int × Bool := if goodRunV l = true ∧ keyB key = true ∧ seqB q = true then ((seekV l key q : Nat), true) else (0, false)

-- part specSeek needs spec_l6Seek.f
theorem spec_seek_l (l : List S27) (key : ByteArray) (q c : Int) (v : ByteArray) (hl : l.length ≤ 140737488351232) : ∀ (d lo hi : Nat), lo ≤ hi → hi ≤ l.length → hi - lo ≤ d →
    Ev (fun k => spec_l6Seek.l0 k l lo hi key q c v) ((seekR l key q d lo hi : Nat) : Int) := by
  intro d
  induction d with
  | zero =>
    intro lo hi h1 h2 h3
    refine Ev.step (fun k => by rw [spec_l6Seek.l0]) ?_
    exact Ev.neg_ (by omega) (Ev.now _)
  | succ d ih =>
    intro lo hi h1 h2 h3
    refine Ev.step (fun k => by rw [spec_l6Seek.l0]) ?_
    have e : wrap64 (Int.tdiv (wrap64 ((lo : Int) + hi)) 2) = (((lo + hi) / 2 : Nat) : Int) := by
      rw [w64 (n := (lo : Int) + hi) (by omega) (by omega), Int.tdiv_eq_ediv_of_nonneg (by omega), w64 (by omega) (by omega)]; omega
    rw [e, rdI_nat]
    unfold seekR
    by_cases h : lo < hi
    · rw [if_pos h, w64 (n := (((lo + hi) / 2 : Nat) : Int) + 1) (by omega) (by omega)]
      refine Ev.pos_ (by omega) (Ev.pos_ (by omega) (Ev.pos_ (by omega) (Ev.bind (spec_cmp _ _ _ _ _ _ _ _) ?_)))
      by_cases hc : cmpI (l.getD ((lo + hi) / 2) z27) ⟨key, q, 0, ⟨#[]⟩⟩ < 0
      · rw [if_pos hc]
        refine Ev.pos_ hc ?_
        exact ih ((lo + hi) / 2 + 1) hi (by omega) h2 (by omega)
      · rw [if_neg hc]
        refine Ev.neg_ hc ?_
        exact ih lo ((lo + hi) / 2) (by omega) (by omega) (by omega)
    · rw [if_neg h]
      exact Ev.neg_ (by omega) (Ev.now _)
theorem spec_seek (l : List S27) (key : ByteArray) (q c : Int) (v : ByteArray) (hl : l.length ≤ 140737488351232) : Ev (fun k => spec_l6Seek.f k l key q c v) ((seekV l key q : Nat) : Int) := spec_seek_l l key q c v hl l.length 0 l.length (by omega) (by omega) (by omega)

-- part specSeekRun needs spec_SeekRun.f
theorem spec_seekRun (l : List S27) (key : ByteArray) (q : Int) (hl : l.length ≤ 140737488351232) : Ev (fun k => spec_SeekRun.f k l key q) (seekRunV l key q) := by
  unfold spec_SeekRun.f seekRunV
  refine Ev.bind (spec_run l hl) ?_
  simp only [spec_key, spec_seq, Option.bind_some]
  by_cases g : goodRunV l = true
  · by_cases gk : keyB key = true
    · by_cases gq : seqB q = true
      · rw [if_pos ⟨g, gk, gq⟩]; exact Ev.pos_ g (Ev.pos_ gk (Ev.pos_ gq (Ev.bind (spec_seek l key q _ _ hl) (Ev.now _))))
      · rw [if_neg (fun e => gq e.2.2)]; exact Ev.pos_ g (Ev.pos_ gk (Ev.neg_ gq (Ev.now _)))
    · rw [if_neg (fun e => gk e.2.1)]; exact Ev.pos_ g (Ev.neg_ gk (Ev.now _))
  · rw [if_neg (fun e => g e.1)]; exact Ev.neg_ g (Ev.now _)

-- part implSeek needs impl_SeekRun.f
theorem impl_seek_l (l : List S27) (key : ByteArray) (q : Int) (hl : l.length ≤ 140737488351232) : ∀ (d lo hi : Nat), lo ≤ hi → hi ≤ l.length → hi - lo ≤ d →
    ∃ b, Ev (fun k => slices_BinarySearchFunc_f37.l0 k l (l.length : Int) lo hi key q 0 ⟨#[]⟩) (((seekR l key q d lo hi : Nat) : Int), b) := by
  have e0 : ∀ lo hi : Nat, lo ≤ hi → hi ≤ l.length → wrap64 ((IntKind.u64.wrap (wrap64 ((lo : Int) + hi))) / 2) = (((lo + hi) / 2 : Nat) : Int) := by
    intro lo hi h1 h2
    rw [w64 (n := (lo : Int) + hi) (by omega) (by omega), wu64 (by omega) (by omega), w64 (by omega) (by omega)]; omega
  have fin : ∀ lo hi : Nat, ¬lo < hi → lo ≤ l.length → ∃ b, Ev (fun k => slices_BinarySearchFunc_f37.l0 k l (l.length : Int) lo hi key q 0 ⟨#[]⟩) ((lo : Int), b) := by
    intro lo hi h h2
    by_cases hx : lo < l.length
    · refine ⟨cmpI (l.getD lo z27) ⟨key, q, 0, ⟨#[]⟩⟩ == 0, Ev.step (fun k => by rw [slices_BinarySearchFunc_f37.l0]) ?_⟩
      · rw [rdI_nat]
        refine Ev.neg_ (by omega) (Ev.pos_ (by omega) (Ev.pos_ (by omega) (Ev.pos_ (by omega) (Ev.bind (impl_cmp _ _ _ _ _ _ _ _) ?_))))
        exact Ev.now _
    · refine ⟨false, Ev.step (fun k => by rw [slices_BinarySearchFunc_f37.l0]) ?_⟩
      exact Ev.neg_ (by omega) (Ev.neg_ (by omega) (Ev.now _))
  intro d
  induction d with
  | zero =>
    intro lo hi h1 h2 h3
    exact fin lo hi (by omega) (by omega)
  | succ d ih =>
    intro lo hi h1 h2 h3
    unfold seekR
    by_cases h : lo < hi
    · rw [if_pos h]
      by_cases hc : cmpI (l.getD ((lo + hi) / 2) z27) ⟨key, q, 0, ⟨#[]⟩⟩ < 0
      · rw [if_pos hc]
        obtain ⟨b, hb⟩ := ih ((lo + hi) / 2 + 1) hi (by omega) h2 (by omega)
        refine ⟨b, Ev.step (fun k => by rw [slices_BinarySearchFunc_f37.l0]) ?_⟩
        rw [e0 lo hi h1 h2, rdI_nat, w64 (n := (((lo + hi) / 2 : Nat) : Int) + 1) (by omega) (by omega)]
        refine Ev.pos_ (by omega) (Ev.pos_ (by omega) (Ev.pos_ (by omega) (Ev.bind (impl_cmp _ _ _ _ _ _ _ _) ?_)))
        exact Ev.pos_ hc hb
      · rw [if_neg hc]
        obtain ⟨b, hb⟩ := ih lo ((lo + hi) / 2) (by omega) (by omega) (by omega)
        refine ⟨b, Ev.step (fun k => by rw [slices_BinarySearchFunc_f37.l0]) ?_⟩
        rw [e0 lo hi h1 h2, rdI_nat, w64 (n := (((lo + hi) / 2 : Nat) : Int) + 1) (by omega) (by omega)]
        refine Ev.pos_ (by omega) (Ev.pos_ (by omega) (Ev.pos_ (by omega) (Ev.bind (impl_cmp _ _ _ _ _ _ _ _) ?_)))
        exact Ev.neg_ hc hb
    · rw [if_neg h]; exact fin lo hi h (by omega)
theorem impl_seek (l : List S27) (key : ByteArray) (q : Int) (hl : l.length ≤ 140737488351232) : Ev (fun k => impl_seekRun.f k l key q) ((seekV l key q : Nat) : Int) := by
  obtain ⟨b, hb⟩ := impl_seek_l l key q hl l.length 0 l.length (by omega) (by omega) (by omega)
  unfold impl_seekRun.f slices_BinarySearchFunc_f37.f
  exact Ev.bind hb (Ev.now _)
theorem impl_seekRun_ (l : List S27) (key : ByteArray) (q : Int) (hl : l.length ≤ 140737488351232) : Ev (fun k => impl_SeekRun.f k l key q) (seekRunV l key q) := by
  unfold impl_SeekRun.f seekRunV
  refine Ev.bind (impl_run l hl) ?_
  simp only [impl_key, impl_seq, Option.bind_some]
  by_cases g : goodRunV l = true
  · by_cases gk : keyB key = true
    · by_cases gq : seqB q = true
      · rw [if_pos ⟨g, gk, gq⟩]; exact Ev.pos_ g (Ev.pos_ gk (Ev.pos_ gq (Ev.bind (impl_seek l key q hl) (Ev.now _))))
      · rw [if_neg (fun e => gq e.2.2)]; exact Ev.pos_ g (Ev.pos_ gk (Ev.neg_ gq (Ev.now _)))
    · rw [if_neg (fun e => gk e.2.1)]; exact Ev.pos_ g (Ev.neg_ gk (Ev.now _))
  · rw [if_neg (fun e => g e.1)]; exact Ev.neg_ g (Ev.now _)

-- part drawKey needs spec_l1Cur_key.f
theorem draw_one {l : List Int} (hl : ByL l) (a s n : Int) (h0 : 0 ≤ a) (h1 : a ≤ 4611686018427387000) : ∃ v a' s', spec_l1Cur_one.f l a s n = some (v, a', s') ∧ a ≤ a' ∧ a' ≤ a + 2 := by
  unfold spec_l1Cur_one.f
  obtain ⟨i, a', s', e, h2, h3, _⟩ := draw_pick hl a s n h0 h1
  rw [e]
  exact ⟨_, _, _, rfl, h2, h3⟩
theorem draw_key {l : List Int} (hl : ByL l) (a s : Int) (h0 : 0 ≤ a) (h1 : a ≤ 4611686018427380000) : ∃ v a' s', spec_l1Cur_key.f l a s = some (v, a', s') ∧ a ≤ a' ∧ a' ≤ a + 4 ∧ v.size ≤ 17 := by
  unfold spec_l1Cur_key.f
  obtain ⟨v, a1, s1, e, h2, h3⟩ := draw_one hl a s 60 h0 (by omega)
  rw [e, Option.bind_some]
  dsimp only
  split
  · obtain ⟨x, a2, s2, e2, h4, h5, h6⟩ := draw_of hl a1 s1 (by omega) (by omega) [(⟨#[]⟩ : ByteArray), (⟨#[49, 50, 51, 52, 53, 54, 55, 56, 57, 48, 49, 50, 51, 52, 53, 54, 55]⟩ : ByteArray)] (by decide)
    rw [e2]
    refine ⟨_, _, _, rfl, by dsimp only; omega, by dsimp only; omega, ?_⟩
    simp only [List.mem_cons, List.not_mem_nil, or_false] at h6
    rcases h6 with rfl | rfl <;> (show (_ : Nat) ≤ 17) <;> first | exact (by decide : (0 : Nat) ≤ 17) | exact (by decide : (17 : Nat) ≤ 17) | exact (by decide : (1 : Nat) ≤ 17) | exact (by decide : (2 : Nat) ≤ 17) | exact (by decide : (3 : Nat) ≤ 17)
  · obtain ⟨x, a2, s2, e2, h4, h5, h6⟩ := draw_of hl a1 s1 (by omega) (by omega) [(⟨#[97]⟩ : ByteArray), (⟨#[98]⟩ : ByteArray), (⟨#[98, 97]⟩ : ByteArray), (⟨#[99]⟩ : ByteArray), (⟨#[99, 97, 114]⟩ : ByteArray), (⟨#[100]⟩ : ByteArray), (⟨#[101]⟩ : ByteArray)] (by decide)
    rw [e2]
    refine ⟨_, _, _, rfl, by dsimp only; omega, by dsimp only; omega, ?_⟩
    simp only [List.mem_cons, List.not_mem_nil, or_false] at h6
    rcases h6 with rfl | rfl | rfl | rfl | rfl | rfl | rfl <;> (show (_ : Nat) ≤ 17) <;> first | exact (by decide : (0 : Nat) ≤ 17) | exact (by decide : (17 : Nat) ≤ 17) | exact (by decide : (1 : Nat) ≤ 17) | exact (by decide : (2 : Nat) ≤ 17) | exact (by decide : (3 : Nat) ≤ 17)

-- part orderM: the order of items
theorem less_trans : ∀ a b c : List UInt8, Op.bytesLess a b = true → Op.bytesLess b c = true → Op.bytesLess a c = true := by
  intro a
  induction a with
  | nil =>
    intro b c h1 h2
    cases c with
    | nil => cases b <;> simp [Op.bytesLess] at h2
    | cons z c => rfl
  | cons x a ih =>
    intro b c h1 h2
    cases b with
    | nil => simp [Op.bytesLess] at h1
    | cons y b =>
      cases c with
      | nil => simp [Op.bytesLess] at h2
      | cons z c =>
        simp only [Op.bytesLess, Bool.or_eq_true, Bool.and_eq_true, decide_eq_true_eq, beq_iff_eq] at h1 h2 ⊢
        rcases h1 with h1 | ⟨rfl, h1⟩
        · rcases h2 with h2 | ⟨rfl, h2⟩
          · exact .inl (UInt8.lt_trans h1 h2)
          · exact .inl h1
        · rcases h2 with h2 | ⟨rfl, h2⟩
          · exact .inl h2
          · exact .inr ⟨rfl, ih b c h1 h2⟩
theorem cmpV_neg {k1 k2 : ByteArray} {q1 q2 : Int} : cmpV k1 q1 k2 q2 < 0 ↔ Op.bytesLess k1.toList k2.toList = true ∨ (k1.toList = k2.toList ∧ q1 > q2) := by
  unfold cmpV
  by_cases h1 : Op.bytesLess k1.toList k2.toList = true
  · rw [if_pos h1]; exact ⟨fun _ => .inl h1, fun _ => by omega⟩
  · rw [if_neg h1]
    by_cases h2 : k1.toList = k2.toList
    · rw [if_pos h2]
      by_cases h3 : q1 > q2
      · rw [if_pos h3]; exact ⟨fun _ => .inr ⟨h2, h3⟩, fun _ => by omega⟩
      · rw [if_neg h3]
        refine ⟨fun h => ?_, fun h => ?_⟩
        · by_cases h4 : q1 = q2
          · rw [if_pos h4] at h; omega
          · rw [if_neg h4] at h; omega
        · rcases h with h | ⟨_, h⟩
          · exact absurd h h1
          · exact absurd h h3
    · rw [if_neg h2]
      refine ⟨fun h => by omega, fun h => ?_⟩
      rcases h with h | ⟨h, _⟩
      · exact absurd h h1
      · exact absurd h h2
theorem cmpV_trans {k1 k2 k3 : ByteArray} {q1 q2 q3 : Int} (h1 : cmpV k1 q1 k2 q2 < 0) (h2 : cmpV k2 q2 k3 q3 < 0) : cmpV k1 q1 k3 q3 < 0 := by
  rw [cmpV_neg] at h1 h2 ⊢
  rcases h1 with h1 | ⟨e1, h1⟩
  · rcases h2 with h2 | ⟨e2, h2⟩
    · exact .inl (less_trans _ _ _ h1 h2)
    · rw [e2] at h1; exact .inl h1
  · rcases h2 with h2 | ⟨e2, h2⟩
    · rw [e1]; exact .inl h2
    · exact .inr ⟨e1.trans e2, by omega⟩

-- part seekOrd: what the search in a run finds
theorem goodRunR_lt (l : List S27) : ∀ (d i : Nat), i + d = l.length → goodRunR l d i = true → ∀ j, i ≤ j → 0 < j → j < l.length → cmpI (l.getD (j - 1) z27) (l.getD j z27) < 0 := by
  intro d
  induction d with
  | zero => intro i hi h j h1 h0 h2; omega
  | succ d ih =>
    intro i hi h j h1 h0 h2
    unfold goodRunR at h
    by_cases hg : goodI (l.getD i z27) = true
    · rw [if_pos hg] at h
      by_cases h0' : i > 0
      · rw [if_pos h0'] at h
        by_cases hc : cmpI (l.getD (i - 1) z27) (l.getD i z27) ≥ 0
        · rw [if_pos hc] at h; cases h
        · rw [if_neg hc] at h
          by_cases hj : j = i
          · subst hj; omega
          · exact ih (i + 1) (by omega) h j (by omega) h0 h2
      · rw [if_neg h0'] at h
        exact ih (i + 1) (by omega) h j (by omega) h0 h2
    · rw [if_neg hg] at h; cases h
theorem goodRunV_lt {l : List S27} (h : goodRunV l = true) : ∀ (d i : Nat), i + d + 1 < l.length → cmpI (l.getD i z27) (l.getD (i + d + 1) z27) < 0 := by
  intro d
  induction d with
  | zero =>
    intro i hi
    have := goodRunR_lt l l.length 0 (by omega) h (i + 1) (by omega) (by omega) (by omega)
    simpa using this
  | succ d ih =>
    intro i hi
    have h1 := ih i (by omega)
    have h2 := goodRunR_lt l l.length 0 (by omega) h (i + (d + 1) + 1) (by omega) (by omega) (by omega)
    exact cmpV_trans h1 h2
theorem goodRunV_lt' {l : List S27} (h : goodRunV l = true) (i j : Nat) (hij : i < j) (hj : j < l.length) : cmpI (l.getD i z27) (l.getD j z27) < 0 := by
  have := goodRunV_lt h (j - i - 1) i (by omega)
  rwa [show i + (j - i - 1) + 1 = j by omega] at this
theorem seekR_ord {l : List S27} (h : goodRunV l = true) (key : ByteArray) (q : Int) : ∀ (d lo hi : Nat), lo ≤ hi → hi ≤ l.length → hi - lo ≤ d →
    (∀ i, i < lo → cmpI (l.getD i z27) ⟨key, q, 0, ⟨#[]⟩⟩ < 0) → (∀ i, hi ≤ i → i < l.length → ¬ cmpI (l.getD i z27) ⟨key, q, 0, ⟨#[]⟩⟩ < 0) →
    ∀ i, i < l.length → (cmpI (l.getD i z27) ⟨key, q, 0, ⟨#[]⟩⟩ < 0 ↔ i < seekR l key q d lo hi) := by
  have fin : ∀ lo hi : Nat, lo ≤ hi → hi ≤ lo → (∀ i, i < lo → cmpI (l.getD i z27) ⟨key, q, 0, ⟨#[]⟩⟩ < 0) → (∀ i, hi ≤ i → i < l.length → ¬ cmpI (l.getD i z27) ⟨key, q, 0, ⟨#[]⟩⟩ < 0) →
      ∀ i, i < l.length → (cmpI (l.getD i z27) ⟨key, q, 0, ⟨#[]⟩⟩ < 0 ↔ i < lo) := by
    intro lo hi h1 h2 h3 h4 i hi'
    refine ⟨fun hc => ?_, fun hc => h3 i hc⟩
    by_cases hlt : i < lo
    · exact hlt
    · exact absurd hc (h4 i (by omega) hi')
  intro d
  induction d with
  | zero => intro lo hi h1 h2 h3 h4 h5; exact fin lo hi h1 (by omega) h4 h5
  | succ d ih =>
    intro lo hi h1 h2 h3 h4 h5
    unfold seekR
    by_cases hlt : lo < hi
    · rw [if_pos hlt]
      by_cases hc : cmpI (l.getD ((lo + hi) / 2) z27) ⟨key, q, 0, ⟨#[]⟩⟩ < 0
      · rw [if_pos hc]
        refine ih ((lo + hi) / 2 + 1) hi (by omega) h2 (by omega) (fun i hi' => ?_) h5
        by_cases e : i = (lo + hi) / 2
        · rw [e]; exact hc
        · exact cmpV_trans (goodRunV_lt' h i ((lo + hi) / 2) (by omega) (by omega)) hc
      · rw [if_neg hc]
        refine ih lo ((lo + hi) / 2) (by omega) (by omega) (by omega) h4 (fun i hi' hi2 hc2 => ?_)
        by_cases e : i = (lo + hi) / 2
        · rw [e] at hc2; exact hc hc2
        · exact hc (cmpV_trans (goodRunV_lt' h ((lo + hi) / 2) i (by omega) hi2) hc2)
    · rw [if_neg hlt]; exact fin lo hi h1 (by omega) h4 h5
theorem seekV_ord {l : List S27} (h : goodRunV l = true) (key : ByteArray) (q : Int) (i : Nat) (hi : i < l.length) : cmpI (l.getD i z27) ⟨key, q, 0, ⟨#[]⟩⟩ < 0 ↔ i < seekV l key q :=
  seekR_ord h key q l.length 0 l.length (by omega) (by omega) (by omega) (fun i hi => by omega) (fun i h1 h2 => by omega) i hi

-- part drawItem needs spec_l1Cur_item.f
theorem draw_item_j {l : List Int} (hl : ByL l) (a s : Int) (f0 : ByteArray) (f1 f2 : Int) (f3 : ByteArray) (h0 : 0 ≤ a) (h1 : a ≤ 4000000000000000) :
    ∃ g0 g1 g2 g3 a' s', Ev (fun k => spec_l1Cur_item.j0 k l a s f0 f1 f2 f3) (g0, g1, g2, g3, a', s') ∧ a ≤ a' ∧ a' ≤ a + 4 := by
  obtain ⟨v, a1, s1, e1, h2, h3, h4, h5, _⟩ := draw_pick hl a s 60 h0 (by omega)
  by_cases c0 : v = 0
  · obtain ⟨x, a2, s2, e2, h6, h7, _⟩ := draw_among hl a1 s1 (by omega) (by omega) [(-1), 1000000000, 1000000001] (by decide)
    refine ⟨f0, x, f2, f3, a2, s2, Ev.step (fun k => by rw [spec_l1Cur_item.j0]) ?_, by omega, by omega⟩
    rw [e1]
    refine Ev.some_ (Ev.pos_ c0 ?_)
    dsimp only
    rw [e2]
    exact Ev.some_ (Ev.now _)
  · by_cases c1 : v = 1
    · obtain ⟨x, a2, s2, e2, h6, h7, h8, h9, _⟩ := draw_pick hl a1 s1 2 (by omega) (by omega)
      have := h9 (by omega)
      refine ⟨f0, f1, f2, strOfNums (List.replicate (40 + x).toNat 0), a2, s2, Ev.step (fun k => by rw [spec_l1Cur_item.j0]) ?_, by omega, by omega⟩
      rw [e1]
      refine Ev.some_ (Ev.neg_ c0 (Ev.pos_ c1 ?_))
      dsimp only
      rw [e2]
      refine Ev.some_ ?_
      dsimp only
      rw [w64 (n := 40 + x) (by omega) (by omega)]
      exact Ev.pos_ (by omega) (Ev.pos_ (by omega) (Ev.now _))
    · refine ⟨f0, f1, f2, f3, a1, s1, Ev.step (fun k => by rw [spec_l1Cur_item.j0]) ?_, by omega, by omega⟩
      rw [e1]
      exact Ev.some_ (Ev.neg_ c0 (Ev.neg_ c1 (Ev.now _)))
theorem draw_item {l : List Int} (hl : ByL l) (a s : Int) (h0 : 0 ≤ a) (h1 : a ≤ 3000000000000000) :
    ∃ g0 g1 g2 g3 a' s', Ev (fun k => spec_l1Cur_item.f k l a s) (g0, g1, g2, g3, a', s') ∧ a ≤ a' ∧ a' ≤ a + 30 := by
  obtain ⟨x, a1, s1, e1, h2, h3, _⟩ := draw_key hl a s h0 (by omega)
  obtain ⟨v, a2, s2, e2, h4, h5, h6, h7, _⟩ := draw_pick hl a1 s1 20 (by omega) (by omega)
  obtain ⟨n, a3, s3, e3, h8, h9, h10, h11, _⟩ := draw_pick hl a2 s2 5 (by omega) (by omega)
  have hn := h11 (by omega)
  obtain ⟨t, a4, s4, e4, h12, h13, h14⟩ := draw_text hl a3 s3 n (by omega) (by omega) (by omega) (by omega)
  obtain ⟨w, a5, s5, e5, h15, h16⟩ := draw_one hl a4 s4 4 (by omega) (by omega)
  unfold spec_l1Cur_item.f
  by_cases hw : w = true
  · obtain ⟨g0, g1, g2, g3, a', s', hE, p1, p2⟩ := draw_item_j hl a5 s5 x v 0 ⟨#[]⟩ (by omega) (by omega)
    refine ⟨g0, g1, g2, g3, a', s', ?_, by omega, by omega⟩
    rw [e1]
    refine Ev.some_ ?_
    dsimp only
    rw [e2]
    refine Ev.some_ ?_
    dsimp only
    rw [e3]
    refine Ev.some_ (Ev.bind e4 ?_)
    dsimp only
    rw [e5]
    exact Ev.some_ (Ev.pos_ hw hE)
  · obtain ⟨g0, g1, g2, g3, a', s', hE, p1, p2⟩ := draw_item_j hl a5 s5 x v 1 t (by omega) (by omega)
    refine ⟨g0, g1, g2, g3, a', s', ?_, by omega, by omega⟩
    rw [e1]
    refine Ev.some_ ?_
    dsimp only
    rw [e2]
    refine Ev.some_ ?_
    dsimp only
    rw [e3]
    refine Ev.some_ (Ev.bind e4 ?_)
    dsimp only
    rw [e5]
    exact Ev.some_ (Ev.neg_ hw hE)

-- part drawRun needs spec_l1Cur_run.f
theorem spec_put (l : List S27) (f0 : ByteArray) (f1 f2 : Int) (f3 : ByteArray) (hl : l.length ≤ 100000) : ∃ m, Ev (fun k => spec_l6Put.f k l f0 f1 f2 f3) m ∧ m.length ≤ l.length + 1 := by
  have hs := spec_seek l f0 f1 f2 f3 (by omega)
  have hr := seekR_le l f0 f1 l.length 0 l.length (by omega)
  have hr2 : seekV l f0 f1 ≤ l.length := hr.2
  have hlen : ∀ n : Nat, n ≤ l.length → ((l.take n ++ [(⟨f0, f1, f2, f3⟩ : S27)]) ++ l.drop n).length ≤ l.length + 1 := by intro n hn; simp; omega
  unfold spec_l6Put.f
  have tail : Ev (fun k => (if 0 ≤ ((seekV l f0 f1 : Nat) : Int) then (if ((seekV l f0 f1 : Nat) : Int) ≤ (l.length : Int) then ((some (l.take (((seekV l f0 f1 : Nat) : Int) : Int).toNat : List (S27))).bind fun y255 => (if ([] : List (S27)).length + y255.length < 2932031007402 then ((some (([] : List (S27)) ++ y255 : List (S27))).bind fun y259 => (if y259.length < 2932031007402 then ((some (y259 ++ [(⟨f0, f1, f2, f3⟩ : S27)] : List (S27))).bind fun y262 => ((some (l.drop (((seekV l f0 f1 : Nat) : Int) : Int).toNat : List (S27))).bind fun y265 => (if y262.length + y265.length < 2932031007402 then (some (y262 ++ y265)) else (none)))) else (none))) else (none))) else (none)) else (none))) (l.take (seekV l f0 f1) ++ [(⟨f0, f1, f2, f3⟩ : S27)] ++ l.drop (seekV l f0 f1)) := by
    rw [Int.toNat_natCast]
    refine Ev.pos_ (by omega) (Ev.pos_ (by omega) (Ev.some_ (Ev.pos_ (by simp; omega) (Ev.some_ (Ev.pos_ (by simp; omega) (Ev.some_ (Ev.some_ (Ev.pos_ (by simp; omega) ?_))))))))
    exact Ev.now _
  by_cases hlt : seekV l f0 f1 < l.length
  · by_cases hc : cmpV (l.getD (seekV l f0 f1) z27).f0 (l.getD (seekV l f0 f1) z27).f1 f0 f1 = 0
    · refine ⟨l, Ev.bind hs (Ev.pos_ (by omega) (Ev.pos_ (by omega) ?_)), by omega⟩
      rw [rdI_nat]
      exact Ev.bind (spec_cmp _ _ _ _ _ _ _ _) (Ev.pos_ hc (Ev.now _))
    · refine ⟨_, Ev.bind hs (Ev.pos_ (by omega) (Ev.pos_ (by omega) ?_)), hlen (seekV l f0 f1) hr2⟩
      rw [rdI_nat]
      refine Ev.bind (spec_cmp _ _ _ _ _ _ _ _) (Ev.neg_ hc ?_)
      have := tail
      rw [if_pos (by omega)] at this
      exact this
  · exact ⟨_, Ev.bind hs (Ev.neg_ (by omega) tail), hlen (seekV l f0 f1) hr2⟩
theorem draw_run_l {l : List Int} (hl : ByL l) : ∀ (d : Nat) (acc : List S27) (a s : Int), d ≤ 100 → acc.length + d ≤ 100 → 0 ≤ a → a ≤ 1000000 - 30 * (d : Int) →
    ∃ m a' s', Ev (fun k => spec_l1Cur_run.l0 k (d : Int) acc l a s) (m, a', s') ∧ m.length ≤ 100 ∧ a ≤ a' ∧ a' ≤ a + 30 * (d : Int) := by
  intro d
  induction d with
  | zero =>
    intro acc a s hd hn h0 h1
    refine ⟨acc, a, s, Ev.step (fun k => by rw [spec_l1Cur_run.l0]) ?_, by omega, by omega, by omega⟩
    exact Ev.neg_ (by omega) (Ev.now _)
  | succ d ih =>
    intro acc a s hd hn h0 h1
    obtain ⟨g0, g1, g2, g3, a1, s1, hE, p1, p2⟩ := draw_item hl a s h0 (by omega)
    have ew : wrap64 (((d + 1 : Nat) : Int) - 1) = (d : Int) := by rw [w64 (by omega) (by omega)]; omega
    by_cases hg : goodItemB g0 g1 g2 g3 = true
    · obtain ⟨m1, hE2, hm⟩ := spec_put acc g0 g1 g2 g3 (by omega)
      obtain ⟨m, a', s', hE3, q1, q2, q3⟩ := ih m1 a1 s1 (by omega) (by omega) (by omega) (by omega)
      refine ⟨m, a', s', Ev.step (fun k => by rw [spec_l1Cur_run.l0]) ?_, q1, by omega, by omega⟩
      refine Ev.pos_ (by omega) (Ev.bind hE ?_)
      rw [spec_goodItem, ew]
      exact Ev.some_ (Ev.pos_ hg (Ev.bind hE2 hE3))
    · obtain ⟨m, a', s', hE3, q1, q2, q3⟩ := ih acc a1 s1 (by omega) (by omega) (by omega) (by omega)
      refine ⟨m, a', s', Ev.step (fun k => by rw [spec_l1Cur_run.l0]) ?_, q1, by omega, by omega⟩
      refine Ev.pos_ (by omega) (Ev.bind hE ?_)
      rw [spec_goodItem, ew]
      exact Ev.some_ (Ev.neg_ hg hE3)

-- part drawBlock needs spec_l1Cur_block.f
theorem draw_block_j {l : List Int} (hl : ByL l) (n a s : Int) (hn : 0 ≤ n ∧ n ≤ 70) (h0 : 0 ≤ a) (h1 : a ≤ 900000) :
    ∃ m a' s', Ev (fun k => spec_l1Cur_block.j0 k n l a s) (m, a', s') ∧ m.length ≤ 100 ∧ a ≤ a' ∧ a' ≤ a + 3000 := by
  obtain ⟨d, rfl⟩ := Int.eq_ofNat_of_zero_le hn.1
  obtain ⟨m, a1, s1, hE, q1, q2, q3⟩ := draw_run_l hl d [] a s (by omega) (by simp; omega) h0 (by omega)
  have hE' : Ev (fun k => spec_l1Cur_run.f k l a s (d : Int)) (m, a1, s1) := hE
  by_cases hm : (m.length : Int) > 1
  · obtain ⟨v, a2, s2, e2, h2, h3⟩ := draw_one hl a1 s1 30 (by omega) (by omega)
    by_cases hv : v = true
    · refine ⟨m.set (0 : Int).toNat (⟨(rd_T27 m 1).f0, (rd_T27 m 1).f1, (rd_T27 m 1).f2, (rd_T27 m 1).f3⟩ : S27), a2, s2, Ev.step (fun k => by rw [spec_l1Cur_block.j0]) (Ev.bind hE' (Ev.pos_ hm ?_)), ?_, by omega, by omega⟩
      · dsimp only
        rw [e2]
        exact Ev.some_ (Ev.pos_ hv (Ev.pos_ (by omega) (Ev.pos_ (by omega) (Ev.now _))))
      · simpa using q1
    · refine ⟨m, a2, s2, Ev.step (fun k => by rw [spec_l1Cur_block.j0]) (Ev.bind hE' (Ev.pos_ hm ?_)), q1, by omega, by omega⟩
      dsimp only
      rw [e2]
      exact Ev.some_ (Ev.neg_ hv (Ev.now _))
  · exact ⟨m, a1, s1, Ev.step (fun k => by rw [spec_l1Cur_block.j0]) (Ev.bind hE' (Ev.neg_ hm (Ev.now _))), q1, by omega, by omega⟩
theorem draw_block {l : List Int} (hl : ByL l) (a s : Int) (h0 : 0 ≤ a) (h1 : a ≤ 800000) :
    ∃ m a' s', Ev (fun k => spec_l1Cur_block.f k l a s) (m, a', s') ∧ m.length ≤ 100 ∧ a ≤ a' ∧ a' ≤ a + 4000 := by
  obtain ⟨n, a1, s1, e1, h2, h3, h4, h5, _⟩ := draw_pick hl a s 10 h0 (by omega)
  have hn := h5 (by omega)
  obtain ⟨v, a2, s2, e2, h6, h7⟩ := draw_one hl a1 s1 12 (by omega) (by omega)
  unfold spec_l1Cur_block.f
  by_cases hv : v = true
  · obtain ⟨m, a', s', hE, q1, q2, q3⟩ := draw_block_j hl 70 a2 s2 (by omega) (by omega) (by omega)
    refine ⟨m, a', s', ?_, q1, by omega, by omega⟩
    rw [e1]
    refine Ev.some_ ?_
    dsimp only
    rw [e2]
    exact Ev.some_ (Ev.pos_ hv hE)
  · obtain ⟨m, a', s', hE, q1, q2, q3⟩ := draw_block_j hl n a2 s2 (by omega) (by omega) (by omega)
    refine ⟨m, a', s', ?_, q1, by omega, by omega⟩
    rw [e1]
    refine Ev.some_ ?_
    dsimp only
    rw [e2]
    exact Ev.some_ (Ev.neg_ hv hE)

-- part commonP: what two texts begin with
theorem comR_prop (a b : ByteArray) : ∀ (d : Nat) (i : Int), 0 ≤ i → (a.size : Int) + 1 - i = d → (∀ j : Int, 0 ≤ j → j < i → bt a j = bt b j) →
    (∀ j : Int, 0 ≤ j → j < comR a b d i → bt a j = bt b j) ∧ ¬ (comR a b d i < (a.size : Int) ∧ comR a b d i < (b.size : Int) ∧ bt a (comR a b d i) = bt b (comR a b d i)) := by
  intro d
  induction d with
  | zero => intro i h0 hd h; refine ⟨h, fun hc => ?_⟩; have := hc.1; unfold comR at this; omega
  | succ d ih =>
    intro i h0 hd h
    unfold comR
    by_cases hc : i < (a.size : Int) ∧ i < (b.size : Int) ∧ bt a i = bt b i
    · rw [if_pos hc]
      refine ih (i + 1) (by omega) (by omega) (fun j h1 h2 => ?_)
      by_cases e : j = i
      · rw [e]; exact hc.2.2
      · exact h j h1 (by omega)
    · rw [if_neg hc]; exact ⟨h, hc⟩
theorem bt_cut (s : ByteArray) (b i : Nat) (h : i < b) (hb : b ≤ s.size) : bt (s.extract 0 b) (i : Int) = bt s (i : Int) := by
  unfold bt
  rw [dif_pos (by rw [ByteArray.size_extract]; simp; omega), dif_pos (by simp; omega)]
  congr 2
  rw [ByteArray.getElem_extract]
  congr 1; simp
theorem bt_all {a b : ByteArray} (hs : a.size = b.size) (h : ∀ i : Nat, i < a.size → bt a (i : Int) = bt b (i : Int)) : a = b := by
  apply ByteArray.ext_getElem hs
  intro i h1 h2
  have := h i h1
  unfold bt at this
  rw [dif_pos (by simpa using h1), dif_pos (by simpa using h2)] at this
  simp only [Int.toNat_natCast] at this
  exact UInt8.toNat_inj.1 (by omega)
theorem com_cut (a b : ByteArray) : (a.extract 0 (comV a b).toNat) = (b.extract 0 (comV a b).toNat) := by
  have hr := comV_range a b
  have hp := (comR_prop a b (a.size + 1) 0 (by omega) (by omega) (fun j h1 h2 => by omega)).1
  apply bt_all
  · rw [ByteArray.size_extract, ByteArray.size_extract]; omega
  · intro i hi
    rw [ByteArray.size_extract] at hi
    rw [bt_cut a _ i (by omega) (by omega), bt_cut b _ i (by omega) (by omega)]
    exact hp i (by omega) (by show (i : Int) < comV a b; omega)
theorem com_stop (a b : ByteArray) (h1 : comV a b < a.size) (h2 : comV a b < b.size) : bt a (comV a b) ≠ bt b (comV a b) := fun e =>
  (comR_prop a b (a.size + 1) 0 (by omega) (by omega) (fun j h1 h2 => by omega)).2 ⟨h1, h2, e⟩

theorem sought_j2 (l1 : List Int) (b1 : ByL l1) : Ev (fun k => laws_FnSought.j2 k l1) true := by
  obtain ⟨x, a1, s1, e1, h2, h3, h4⟩ := draw_key b1 0 0 (by omega) (by omega)
  obtain ⟨y, a2, s2, e2, h5, h6, h7⟩ := draw_key b1 a1 s1 (by omega) (by omega)
  obtain ⟨z, a3, s3, e3, h8, h9, h10⟩ := draw_key b1 a2 s2 (by omega) (by omega)
  have hD : Ev (fun k => spec_DrawCommonOf.f l1) (x, y ++ z) := by
    unfold spec_DrawCommonOf.f
    rw [e1]
    refine Ev.some_ ?_
    dsimp only
    rw [e2]
    refine Ev.some_ ?_
    dsimp only
    rw [e3]
    exact Ev.some_ (Ev.pos_ (by dsimp only; omega) (Ev.now _))
  have hr := comV_range x (y ++ z)
  refine Ev.step (fun k => by rw [laws_FnSought.j2]) ?_
  refine Ev.bind hD (Ev.bind (impl_common x (y ++ z) (by omega)) (Ev.bind (spec_common x (y ++ z) (by omega)) ?_))
  refine Ev.pos_ rfl (Ev.pos_ hr.1 (Ev.pos_ hr.2.1 (Ev.pos_ hr.2.2 (Ev.pos_ (by dsimp only; rw [com_cut]) ?_))))
  refine Ev.ite_ (fun _ => Ev.now _) (fun n1 => Ev.ite_ (fun _ => Ev.now _) (fun n2 => ?_))
  dsimp only at n1 n2 ⊢
  refine Ev.pos_ (by omega) (Ev.pos_ (by omega) ?_)
  have := com_stop x (y ++ z) (by omega) (by omega)
  rw [bne_iff_ne.2 this]; exact Ev.now _
theorem sought_l (l1 : List Int) (b1 : ByL l1) (l : List S27) (key : ByteArray) (q : Int) (hl : l.length ≤ 100) (g : goodRunV l = true) (gk : keyB key = true) (gq : seqB q = true) : ∀ (d i : Nat), i + d = l.length →
    Ev (fun k => laws_FnSought.l0 k l1 key q ((seekV l key q : Nat) : Int) l (l.length : Int) i) true := by
  intro d
  induction d with
  | zero =>
    intro i hi
    refine Ev.step (fun k => by rw [laws_FnSought.l0]) ?_
    exact Ev.neg_ (by omega) (sought_j2 l1 b1)
  | succ d ih =>
    intro i hi
    have hg := goodRunV_good g i (by omega)
    have hg2 : goodItemB key q 0 ⟨#[]⟩ = true := by
      have e : (⟨#[]⟩ : ByteArray).toList = [] := by unfold ByteArray.toList; unfold ByteArray.toList.loop; rw [if_neg (by decide)]; rfl
      unfold goodItemB; rw [gk, gq, e]; rfl
    have ho := seekV_ord g key q i (by omega)
    refine Ev.step (fun k => by rw [laws_FnSought.l0]) ?_
    rw [rdI_nat, wi (show i < l.length by omega) (by omega)]
    refine Ev.pos_ (by omega) (Ev.pos_ (by omega) (Ev.pos_ (by omega) ?_))
    have hC : Ev (fun k => spec_CompareItem.f k (l.getD i z27).f0 (l.getD i z27).f1 (l.getD i z27).f2 (l.getD i z27).f3 key q 0 ⟨#[]⟩) (cmpV (l.getD i z27).f0 (l.getD i z27).f1 key q, true) := by
      unfold spec_CompareItem.f
      rw [spec_goodItem, spec_goodItem]
      exact Ev.some_ (Ev.pos_ hg (Ev.some_ (Ev.pos_ hg2 (Ev.bind (spec_cmp _ _ _ _ _ _ _ _) (Ev.now _)))))
    refine Ev.bind hC (Ev.neg_ ?_ (ih (i + 1) (by omega)))
    have ho' : cmpV (l.getD i z27).f0 (l.getD i z27).f1 key q < 0 ↔ (i : Int) < ((seekV l key q : Nat) : Int) := by
      rw [Int.ofNat_lt]; exact ho
    dsimp only
    simp only [ho']; simp
theorem FnSought (l0 l1 : List Int) (h1 : l0.length ≤ maxLen) (h2 : l0.length * 1 ≤ 140737488351232) (h3 : ∀ x ∈ l0, (Lit.int .u8 x).wf = true) (h4 : l1.length ≤ maxLen) (h5 : l1.length * 1 ≤ 140737488351232) (h6 : ∀ x ∈ l1, (Lit.int .u8 x).wf = true) : ∃ k, laws_FnSought.f k l0 l1 = some true := by
  apply Ev.rounds (r := true)
  have b0 := byL h3
  have b1 := byL h6
  unfold laws_FnSought.f
  refine Ev.ite_ (fun _ => Ev.now _) (fun _ => ?_)
  obtain ⟨l, a1, s1, hE1, q1, q2, q3⟩ := draw_block b0 0 0 (by omega) (by omega)
  obtain ⟨key, a2, s2, e2, p1, p2, p3⟩ := draw_key b0 a1 s1 (by omega) (by omega)
  obtain ⟨q, a3, s3, e3, p4, p5, p6, p7, _⟩ := draw_pick b0 a2 s2 24 (by omega) (by omega)
  have hD : Ev (fun k => spec_DrawSeekRun.f k l0) (l, key, q) := by
    unfold spec_DrawSeekRun.f
    refine Ev.bind hE1 ?_
    dsimp only
    rw [e2]
    refine Ev.some_ ?_
    dsimp only
    rw [e3]
    exact Ev.some_ (Ev.now _)
  refine Ev.bind hD (Ev.bind (impl_seekRun_ l key q (by omega)) (Ev.bind (spec_seekRun l key q (by omega)) ?_))
  refine Ev.neg_ (by simp) ?_
  refine Ev.step (fun k => by rw [laws_FnSought.j0]) ?_
  refine Ev.neg_ (by simp) ?_
  unfold seekRunV
  by_cases c : goodRunV l = true ∧ keyB key = true ∧ seqB q = true
  · rw [if_pos c]
    exact Ev.pos_ rfl (sought_l l1 b1 l key q q1 c.1 c.2.1 c.2.2 l.length 0 (by omega))
  · rw [if_neg c]
    exact Ev.neg_ (by simp) (sought_j2 l1 b1)

end Go.Proofs.Ytjacppphgccphaa.Pure
