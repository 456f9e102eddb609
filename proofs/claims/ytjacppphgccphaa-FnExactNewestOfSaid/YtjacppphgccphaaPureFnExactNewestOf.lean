/-
  The plain statement of the law FnExactNewestOf, proved: over numbers and lists alone. No condition beyond the given ones.
-/
import Derived.Test.YtjacppphgccphaaMFnExactNewestOfx7
namespace Go.Proofs.Ytjacppphgccphaa.Pure
open Go Go.RowKit Go.Proofs.Ytjacppphgccphaa.MFnExactNewestOf Go.Proofs.YtjacppphgccphaaW.PrintWords Go.Proofs.YtjacppphgccphaaW.PrintLast Go.Proofs.YtjacppphgccphaaW.PrintMore
set_option linter.unusedVariables false
set_option linter.unusedSimpArgs false

-- part base: plain facts on Go's numbers and on rounds
theorem lt_mn {i a b : Int} : i < mn a b ↔ i < a ∧ i < b := by unfold mn; split <;> omega
theorem mn_le {a b : Int} : mn a b ≤ a ∧ mn a b ≤ b := by unfold mn; split <;> omega
theorem w64 {n : Int} (h0 : -9223372036854775808 ≤ n) (h1 : n ≤ 9223372036854775807) : wrap64 n = n := by unfold wrap64; omega
theorem wrap_u64 (n : Int) : IntKind.u64.wrap n = n % 18446744073709551616 := by simp [IntKind.wrap, IntKind.bits, IntKind.signed]
theorem wu64 {n : Int} (h0 : 0 ≤ n) (h1 : n ≤ 18446744073709551615) : IntKind.u64.wrap n = n := by rw [wrap_u64]; omega
theorem wu32 {n : Int} (h0 : 0 ≤ n) (h1 : n ≤ 4294967295) : IntKind.u32.wrap n = n := by rw [IntKind.wrap_u32]; omega
theorem wraps_u32 (n : Int) (h₀ : 0 ≤ n) (h₁ : n < 2 ^ 32) : IntKind.u32.wrap n = n := by rw [IntKind.wrap_u32]; omega
theorem wraps_i64 (n : Int) (h₀ : 0 ≤ n) (h₁ : n < 2 ^ 63) : IntKind.i64.wrap n = n := by rw [IntKind.wrap_i64]; omega
theorem and127 {b : Int} (h0 : 0 ≤ b) (h1 : b ≤ 255) : Go.bits .and .u8 b 127 = b % 128 := bits_mask .u8 8 (by decide) wraps_u8 7 (by decide) b h0 (by omega)
theorem wf_i64 {n : Int} (h : (Lit.int .i64 n).wf = true) : -9223372036854775808 ≤ n ∧ n ≤ 9223372036854775807 := by
  simp only [Lit.wf, Bool.and_eq_true, decide_eq_true_eq] at h
  exact h
theorem wf_u32 {n : Int} (h : (Lit.int .u32 n).wf = true) : 0 ≤ n ∧ n ≤ 4294967295 := by
  simp only [Lit.wf, Bool.and_eq_true, decide_eq_true_eq] at h
  exact h
theorem bits_or_comm (k : IntKind) (x y : Int) : Go.bits .or k x y = Go.bits .or k y x := by
  simp only [Go.bits, BitVec.or_comm]
theorem and127i {b : Int} (h0 : 0 ≤ b) (h1 : b ≤ 9223372036854775807) : Go.bits .and .i64 b 127 = b % 128 := bits_mask .i64 63 (by decide) wraps_i64 7 (by decide) b h0 (by omega)
theorem or128i {b : Int} (h0 : 0 ≤ b) (h1 : b < 128) : Go.bits .or .i64 b 128 = b + 128 := by
  rw [bits_or_comm, bits_join .i64 63 (by decide) wraps_i64 7 128 b (by omega) (by omega) (by omega) h0 (by omega) (by omega)]; omega
theorem Ev.ite_ {α : Type} {c : Prop} [Decidable c] {g f : Nat → Option α} {r : α} (h : c → Ev g r) (k : ¬c → Ev f r) : Ev (fun n => if c then g n else f n) r := by
  by_cases hc : c
  · simp only [if_pos hc]; exact h hc
  · simp only [if_neg hc]; exact k hc
theorem Ev.pos_ {α : Type} {c : Prop} [Decidable c] {g f : Nat → Option α} {r : α} (hc : c) (h : Ev g r) : Ev (fun n => if c then g n else f n) r := by simp only [if_pos hc]; exact h
theorem Ev.neg_ {α : Type} {c : Prop} [Decidable c] {g f : Nat → Option α} {r : α} (hc : ¬c) (h : Ev f r) : Ev (fun n => if c then g n else f n) r := by simp only [if_neg hc]; exact h
theorem Ev.some_ {α β : Type} {f : Nat → α → Option β} {x : α} {r : β} (h : Ev (fun n => f n x) r) : Ev (fun n => (some x).bind (f n)) r := by simpa only [Option.bind_some] using h
theorem bo_and (b c : Bool) : (if b = true then some c else some false) = some (b && c) := by cases b <;> rfl
theorem bo_andP (p : Prop) [Decidable p] (c : Bool) : (if p then some c else some false) = some (decide p && c) := by by_cases h : p <;> simp [h]
theorem bo_orP (p : Prop) [Decidable p] (c : Bool) : (if p then some true else some c) = some (decide p || c) := by by_cases h : p <;> simp [h]
theorem bo_or (b c : Bool) : (if b = true then some true else some c) = some (b || c) := by cases b <;> rfl
def inB (a lo hi : Int) : Bool := decide (lo ≤ a) && decide (a ≤ hi)
theorem inB_iff {a lo hi : Int} : inB a lo hi = true ↔ lo ≤ a ∧ a ≤ hi := by simp [inB]

-- part listM: loops over lists by their index
def mkL {α : Type} (enc : Int → α) (c : Int) : Nat → Int → List α
  | 0, _ => []
  | d + 1, m => enc m :: mkL enc c d (m + c)
theorem mkL_len {α : Type} (enc : Int → α) (c : Int) : ∀ (d : Nat) (m : Int), (mkL enc c d m).length = d := by
  intro d; induction d with
  | zero => intro m; rfl
  | succ d ih => intro m; simp [mkL, ih]
theorem mark_gen {α : Type} (L : Nat → List α → Int → Int → Option (Int × List α)) (enc : Int → α) (c B : Int) (hc : 0 ≤ c)
    (hstep : ∀ (xs : List α) (m : Int) (i : Nat) (r : Int × List α), 0 < m → m + c ≤ B → i < xs.length → xs.length ≤ 140737488351232 → Ev (fun k => L k (xs.set i (enc m)) (m + c) ((i + 1 : Nat) : Int)) r → Ev (fun k => L k xs m (i : Int)) r)
    (hend : ∀ (xs : List α) (m : Int), Ev (fun k => L k xs m (xs.length : Int)) (m, xs)) :
    ∀ (d : Nat) (xs : List α) (m : Int) (i : Nat), i + d = xs.length → 0 < m → m + c * d ≤ B → xs.length ≤ 140737488351232 → Ev (fun k => L k xs m (i : Int)) (m + c * d, xs.take i ++ mkL enc c d m) := by
  intro d
  induction d with
  | zero =>
    intro xs m i hi hm hB hl
    have := hend xs m
    obtain rfl : i = xs.length := by omega
    simpa [mkL] using this
  | succ d ih =>
    intro xs m i hi hm hB hl
    have hcd : c * ((d + 1 : Nat) : Int) = c * d + c := by rw [Int.natCast_add, Int.mul_add]; simp
    have hcd0 : 0 ≤ c * (d : Int) := Int.mul_nonneg hc (by omega)
    refine hstep xs m i _ hm (by omega) (by omega) hl ?_
    have := ih (xs.set i (enc m)) (m + c) (i + 1) (by simp; omega) (by omega) (by omega) (by simpa using hl)
    have e : (xs.set i (enc m)).take (i + 1) ++ mkL enc c d (m + c) = xs.take i ++ mkL enc c (d + 1) m := by
      rw [List.take_set, List.take_succ_eq_append_getElem (by omega), List.set_append_right _ _ (by simp; omega)]
      simp [mkL, Nat.min_eq_left (show i ≤ xs.length by omega)]
    rw [e] at this
    rw [show m + c * ((d + 1 : Nat) : Int) = m + c + c * d by omega]
    exact this
theorem held_gen {α : Type} (H : Nat → List α → Int → Int → Option Int) (enc : Int → α) (c B : Int) (hc : 0 ≤ c)
    (hstep : ∀ (xs : List α) (m : Int) (i : Nat) (r : Int), 0 < m → m + c ≤ B → i < xs.length → xs.length ≤ 140737488351232 → xs[i]? = some (enc m) → Ev (fun k => H k xs (m + c) ((i + 1 : Nat) : Int)) r → Ev (fun k => H k xs m (i : Int)) r)
    (hend : ∀ (xs : List α) (m : Int), Ev (fun k => H k xs m (xs.length : Int)) m) :
    ∀ (d : Nat) (pre : List α) (m : Int), 0 < m → m + c * d ≤ B → pre.length + d ≤ 140737488351232 → Ev (fun k => H k (pre ++ mkL enc c d m) m (pre.length : Int)) (m + c * d) := by
  intro d
  induction d with
  | zero =>
    intro pre m hm hB hl
    have := hend pre m
    simpa [mkL] using this
  | succ d ih =>
    intro pre m hm hB hl
    have hcd : c * ((d + 1 : Nat) : Int) = c * d + c := by rw [Int.natCast_add, Int.mul_add]; simp
    have hcd0 : 0 ≤ c * (d : Int) := Int.mul_nonneg hc (by omega)
    refine hstep _ m pre.length _ hm (by omega) (by simp [mkL]) (by simp [mkL_len]; omega) (by simp [mkL]) ?_
    have := ih (pre ++ [enc m]) (m + c) (by omega) (by omega) (by simp; omega)
    rw [show m + c * ((d + 1 : Nat) : Int) = m + c + c * d by omega]
    simpa [mkL] using this
theorem to_gen {α β : Type} (L : Nat → List α → List β → Int → Option (List β)) (f : α → β) (z : β) (za : α)
    (hstep : ∀ (xs : List α) (ys : List β) (i : Nat) (r : List β), i < xs.length → i < ys.length → xs.length ≤ 140737488351232 → Ev (fun k => L k xs (ys.set i (f (xs.getD i za))) ((i + 1 : Nat) : Int)) r → Ev (fun k => L k xs ys (i : Int)) r)
    (hend : ∀ (xs : List α) (ys : List β), Ev (fun k => L k xs ys (xs.length : Int)) ys) :
    ∀ (d : Nat) (xs : List α) (i : Nat), i + d = xs.length → xs.length ≤ 140737488351232 → Ev (fun k => L k xs ((xs.take i).map f ++ List.replicate d z) (i : Int)) (xs.map f) := by
  intro d
  induction d with
  | zero =>
    intro xs i hi hl
    obtain rfl : i = xs.length := by omega
    have := hend xs (xs.map f)
    simpa using this
  | succ d ih =>
    intro xs i hi hl
    refine hstep xs _ i _ (by omega) (by simp; omega) hl ?_
    have := ih xs (i + 1) (by omega) hl
    have e : ((xs.take i).map f ++ List.replicate (d + 1) z).set i (f (xs.getD i za)) = (xs.take (i + 1)).map f ++ List.replicate d z := by
      have h0 : i - ((xs.take i).map f).length = 0 := by simp; omega
      rw [List.take_succ_eq_append_getElem (show i < xs.length by omega), List.map_append, List.set_append_right _ _ (by simp; omega), List.append_assoc, h0]
      congr 1
      simp [List.replicate_succ, List.getD_eq_getElem?_getD, List.getElem?_eq_getElem (show i < xs.length by omega)]
    rw [e]
    exact this
theorem eq_gen {α : Type} (E : Nat → List α → List α → Int → Option Bool)
    (hstep : ∀ (xs : List α) (i : Nat), i < xs.length → xs.length ≤ 140737488351232 → Ev (fun k => E k xs xs ((i + 1 : Nat) : Int)) true → Ev (fun k => E k xs xs (i : Int)) true)
    (hend : ∀ (xs : List α), Ev (fun k => E k xs xs (xs.length : Int)) true) :
    ∀ (d : Nat) (xs : List α) (i : Nat), i + d = xs.length → xs.length ≤ 140737488351232 → Ev (fun k => E k xs xs (i : Int)) true := by
  intro d
  induction d with
  | zero => intro xs i hi hl; obtain rfl : i = xs.length := by omega
            exact hend xs
  | succ d ih => intro xs i hi hl; exact hstep xs i (by omega) hl (ih xs (i + 1) (by omega) hl)
theorem sz_gen {α : Type} (Z : Nat → List α → Int → Int → Option Int)
    (hstep : ∀ (xs : List α) (m : Int) (i : Nat), i < xs.length → xs.length ≤ 140737488351232 → (∀ m', ∃ r, Ev (fun k => Z k xs m' ((i + 1 : Nat) : Int)) r) → ∃ r, Ev (fun k => Z k xs m (i : Int)) r)
    (hend : ∀ (xs : List α) (m : Int), ∃ r, Ev (fun k => Z k xs m (xs.length : Int)) r) :
    ∀ (d : Nat) (xs : List α) (m : Int) (i : Nat), i + d = xs.length → xs.length ≤ 140737488351232 → ∃ r, Ev (fun k => Z k xs m (i : Int)) r := by
  intro d
  induction d with
  | zero => intro xs m i hi hl; obtain rfl : i = xs.length := by omega
            exact hend xs m
  | succ d ih => intro xs m i hi hl; exact hstep xs m i (by omega) hl (fun m' => ih xs m' (i + 1) (by omega) hl)
theorem wi {i n : Nat} (h : i < n) (hn : n ≤ 140737488351232) : wrap64 ((i : Int) + 1) = ((i + 1 : Nat) : Int) := by rw [w64 (by omega) (by omega)]; omega
theorem rd_nat (xs : List Int) (i : Nat) : rd xs (i : Int) = xs.getD i 0 := by unfold rd; rw [Int.toNat_natCast]
theorem rdOf_nat {α : Type} (d : α) (xs : List α) (i : Nat) : rdOf d xs (i : Int) = xs.getD i d := by unfold rdOf; rw [Int.toNat_natCast]
theorem getD_of {α : Type} {xs : List α} {i : Nat} {a : α} (d : α) (h : xs[i]? = some a) : xs.getD i d = a := by rw [List.getD_eq_getElem?_getD, h]; rfl

-- part specIn needs spec_l1In.f
theorem spec_in (a lo hi : Int) : spec_l1In.f a lo hi = some (inB a lo hi) := by
  unfold spec_l1In.f inB; rw [bo_andP]

-- part implIn needs impl_in.f
theorem impl_in_ (a lo hi : Int) : impl_in.f a lo hi = some (inB a lo hi) := by
  unfold impl_in.f inB; rw [bo_andP]

-- part goodItem
def keyB (k : ByteArray) : Bool := inB (k.size : Int) 1 16
def seqB (q : Int) : Bool := inB q 0 1000000000
def goodItemB (k : ByteArray) (q d : Int) (v : ByteArray) : Bool := keyB k && (seqB q && (inB d 0 1 && (decide ((v.size : Int) ≤ 40) && (decide (d = 1) || (v.toList == ([] : List UInt8))))))

-- part specGoodItem needs spec_GoodItem.f
theorem spec_goodItem (k : ByteArray) (q d : Int) (v : ByteArray) : spec_GoodItem.f k q d v = some (goodItemB k q d v) := by
  unfold spec_GoodItem.f spec_l4Key.f spec_l4Seq.f goodItemB keyB seqB
  simp only [spec_in, Option.bind_some, bo_andP, bo_orP, Bool.decide_eq_true]

-- part implGoodItem needs impl_GoodItem.f
theorem impl_goodItem (k : ByteArray) (q d : Int) (v : ByteArray) : impl_GoodItem.f k q d v = some (goodItemB k q d v) := by
  unfold impl_GoodItem.f impl_isKey.f impl_isSeq.f impl_isValue.f goodItemB keyB seqB
  simp only [impl_in_, Option.bind_some, bo_andP, bo_orP, Bool.decide_eq_true]

-- part cmpM: items by their order
def cmpV (k1 : ByteArray) (q1 : Int) (k2 : ByteArray) (q2 : Int) : Int :=
  if Op.bytesLess k1.toList k2.toList = true then -1 else if k1.toList = k2.toList then (if q1 > q2 then -1 else if q1 = q2 then 0 else 1) else 1
theorem less_irrefl (a : List UInt8) : Op.bytesLess a a = false := by
  have := Go.Proofs.YtjacppphgccphaaX.less_of a a
  cases h : Op.bytesLess a a <;> simp_all
theorem less_eq {a b : List UInt8} (h1 : ¬ Op.bytesLess a b = true) (h2 : ¬ Op.bytesLess b a = true) : a = b := by
  have := Go.Proofs.YtjacppphgccphaaX.less_of a b
  cases h3 : Op.bytesLess a b <;> simp_all

-- part specCmp needs spec_l4Compare.f
theorem spec_cmp (k1 : ByteArray) (q1 d1 : Int) (v1 k2 : ByteArray) (q2 d2 : Int) (v2 : ByteArray) : Ev (fun k => spec_l4Compare.f k k1 q1 d1 v1 k2 q2 d2 v2) (cmpV k1 q1 k2 q2) := by
  unfold spec_l4Compare.f cmpV
  by_cases h1 : Op.bytesLess k1.toList k2.toList = true
  · rw [if_pos h1]
    exact Ev.pos_ h1 (Ev.step (fun k => by rw [spec_l4Compare.j0]) (Ev.pos_ rfl (Ev.now _)))
  · rw [if_neg h1]
    refine Ev.neg_ h1 ?_
    by_cases h2 : k1.toList = k2.toList
    · rw [if_pos h2]
      refine Ev.pos_ h2 (Ev.step (fun k => by rw [spec_l4Compare.j0]) ?_)
      by_cases h3 : q1 > q2
      · rw [if_pos h3]; exact Ev.pos_ (by simpa using h3) (Ev.now _)
      · rw [if_neg h3]
        refine Ev.neg_ (by simpa using h3) (Ev.pos_ h2 ?_)
        by_cases h4 : q1 = q2
        · simp only [if_pos h4]; exact Ev.now _
        · simp only [if_neg h4]; exact Ev.now _
    · rw [if_neg h2]
      exact Ev.neg_ h2 (Ev.step (fun k => by rw [spec_l4Compare.j0]) (Ev.neg_ (by simp) (Ev.neg_ h2 (Ev.now _))))

-- part implCmp needs impl_itemOrder.f
theorem or_two (a b : Int) : Ev (fun k => cmp_Or_int.f k [a, b]) (if a = 0 then b else a) := by
  unfold cmp_Or_int.f
  refine Ev.step (fun k => by rw [cmp_Or_int.l0]) ?_
  refine Ev.pos_ (by simp) (Ev.pos_ (by omega) (Ev.pos_ (by simp) ?_))
  have e0 : rd [a, b] 0 = a := rfl
  have e1 : rd [a, b] 1 = b := rfl
  have ew : wrap64 (0 + 1) = 1 := by rw [w64 (by omega) (by omega)]; rfl
  rw [e0, ew]
  by_cases h : a = 0
  · rw [if_pos h]
    refine Ev.pos_ h ?_
    refine Ev.step (fun k => by rw [cmp_Or_int.l0]) ?_
    refine Ev.pos_ (by simp) (Ev.pos_ (by omega) (Ev.pos_ (by simp) ?_))
    rw [e1]
    by_cases h' : b = 0
    · refine Ev.pos_ h' ?_
      have ew2 : wrap64 (1 + 1) = 2 := by rw [w64 (by omega) (by omega)]; rfl
      rw [ew2]
      subst h'
      exact Ev.step (fun k => by rw [cmp_Or_int.l0]) (Ev.neg_ (by simp) (Ev.now _))
    · exact Ev.neg_ h' (Ev.now _)
  · rw [if_neg h]; exact Ev.neg_ h (Ev.now _)
theorem impl_cmp (k1 : ByteArray) (q1 d1 : Int) (v1 k2 : ByteArray) (q2 d2 : Int) (v2 : ByteArray) : Ev (fun k => impl_itemOrder.f k k1 q1 d1 v1 k2 q2 d2 v2) (cmpV k1 q1 k2 q2) := by
  unfold impl_itemOrder.f
  have e1 : cmp_Compare_string.f k1 k2 = some (if Op.bytesLess k1.toList k2.toList = true then -1 else if k1.toList = k2.toList then 0 else 1) := by
    unfold cmp_Compare_string.f cmp_isNaN_string.f
    simp only [Option.bind_some]
    by_cases h1 : Op.bytesLess k1.toList k2.toList = true
    · simp [h1]
    · by_cases h2 : Op.bytesLess k2.toList k1.toList = true
      · have h3 : ¬ k1.toList = k2.toList := fun e => by rw [e, less_irrefl] at h2; cases h2
        simp [h1, h2, h3]
      · have h3 := less_eq h1 h2
        simp [h1, h2, h3, less_irrefl]
  have e2 : cmp_Compare_int.f q2 q1 = some (if q1 > q2 then -1 else if q1 = q2 then 0 else 1) := by
    unfold cmp_Compare_int.f cmp_isNaN_int.f
    simp only [Option.bind_some, bne_self_eq_false]
    by_cases h1 : q2 < q1
    · simp [h1]
    · by_cases h2 : q2 > q1
      · have : ¬ q1 = q2 := by omega
        simp [h1, h2, this]
      · obtain rfl : q1 = q2 := by omega
        simp
  simp only [e1, e2, Option.bind_some]
  refine Ev.bind (or_two _ _) ?_
  have : (if (if Op.bytesLess k1.toList k2.toList = true then (-1 : Int) else if k1.toList = k2.toList then 0 else 1) = 0 then (if q1 > q2 then (-1 : Int) else if q1 = q2 then 0 else 1) else (if Op.bytesLess k1.toList k2.toList = true then -1 else if k1.toList = k2.toList then 0 else 1)) = cmpV k1 q1 k2 q2 := by
    unfold cmpV
    by_cases h1 : Op.bytesLess k1.toList k2.toList = true
    · simp [h1]
    · by_cases h3 : k1.toList = k2.toList
      · simp [h3, less_irrefl]
      · simp [h1, h3]
  rw [this]
  exact Ev.now _

-- part toItemS needs laws_toItemS.f
def convItem (a : S23) : S27 := ⟨a.f0, a.f1, a.f2, a.f3⟩
theorem rd_T23_nat (xs : List S23) (i : Nat) : rd_T23 xs (i : Int) = xs.getD i z23 := by unfold rd_T23; rw [Int.toNat_natCast]
theorem toItemS_ (l : List S23) (hl : l.length * 16 ≤ 140737488351232 ∧ l.length ≤ 5864062014805) : Ev (fun k => laws_toItemS.f k l) (l.map convItem) := by
  unfold laws_toItemS.f
  refine Ev.pos_ (by omega) (Ev.pos_ (by omega) ?_)
  have := to_gen laws_toItemS.l0 convItem z27 z23 (fun xs ys i r hi hy hn h => ?_) (fun xs ys => Ev.step (f := fun _ => some ys) (fun k => ?_) (Ev.now _)) l.length l 0 (by omega) (by omega)
  · simpa using this
  · refine Ev.step (fun k => by rw [laws_toItemS.l0]) ?_
    refine Ev.pos_ (by omega) (Ev.pos_ (by omega) ?_)
    simp only [laws_toItem.f, Option.bind_some]
    refine Ev.pos_ (by omega) ?_
    simp only [wi hi hn, Int.toNat_natCast, rd_T23_nat]; exact h
  · simp only [laws_toItemS.l0]; rw [if_neg (by omega)]

-- part szItemS needs laws_szItemS.f
theorem szItem_some (f0 f1 f2 f3) (m : Int) : ∃ r, laws_szItem.f f0 f1 f2 f3 m = some r := by
  unfold laws_szItem.f
  repeat' first | exact ⟨_, rfl⟩ | split
theorem szItemS_some (l : List S23) (m : Int) (hl : l.length ≤ 140737488351232) : ∃ r, Ev (fun k => laws_szItemS.f k l m) r := by
  unfold laws_szItemS.f
  by_cases h : wrap64 (m - (l.length : Int)) < 0
  · exact ⟨-1, Ev.pos_ h (Ev.now _)⟩
  · have := sz_gen laws_szItemS.l0 (fun xs m i hi hn h => ?_) (fun xs m => ⟨m, Ev.step (f := fun _ => some m) (fun k => ?_) (Ev.now _)⟩) l.length l (wrap64 (m - (l.length : Int))) 0 (by omega) hl
    · obtain ⟨r, hr⟩ := this
      exact ⟨r, Ev.neg_ h (by simpa using hr)⟩
    · obtain ⟨r, e⟩ := szItem_some (rd_T23 xs i).f0 (rd_T23 xs i).f1 (rd_T23 xs i).f2 (rd_T23 xs i).f3 m
      by_cases hr : r < 0
      · refine ⟨-1, ?_⟩
        refine Ev.step (fun k => by rw [laws_szItemS.l0]) ?_
        refine Ev.pos_ (by omega) (Ev.pos_ (by omega) ?_)
        simp only [e, Option.bind_some]
        exact Ev.pos_ hr (Ev.now _)
      · obtain ⟨q, hq⟩ := h r
        refine ⟨q, ?_⟩
        refine Ev.step (fun k => by rw [laws_szItemS.l0]) ?_
        refine Ev.pos_ (by omega) (Ev.pos_ (by omega) ?_)
        simp only [e, Option.bind_some]
        refine Ev.neg_ hr ?_
        simp only [wi hi hn]; exact hq
    · simp only [laws_szItemS.l0]; rw [if_neg (by omega)]

-- part eqItemS needs laws_eqItemS.f
theorem eqItemS_refl (l : List S27) (hl : l.length ≤ 140737488351232) : Ev (fun k => laws_eqItemS.f k l l) true := by
  unfold laws_eqItemS.f
  refine Ev.pos_ rfl (eq_gen laws_eqItemS.l0 (fun xs i hi hn h => Ev.step (fun k => ?_) h) (fun xs => Ev.step (f := fun _ => some true) (fun k => ?_) (Ev.now _)) l.length l 0 (by omega) hl)
  · have e : laws_eqItem.f (rd_T27 xs i).f0 (rd_T27 xs i).f1 (rd_T27 xs i).f2 (rd_T27 xs i).f3 (rd_T27 xs i).f0 (rd_T27 xs i).f1 (rd_T27 xs i).f2 (rd_T27 xs i).f3 = some true := by simp [laws_eqItem.f]
    simp only [laws_eqItemS.l0]; rw [if_pos (by omega), if_pos (by omega), if_pos (by omega), e, wi hi hn]; rfl
  · simp only [laws_eqItemS.l0]; rw [if_neg (by omega)]

-- part runM: runs of items
def goodI (a : S27) : Bool := goodItemB a.f0 a.f1 a.f2 a.f3
def cmpI (a b : S27) : Int := cmpV a.f0 a.f1 b.f0 b.f1
def goodRunR (l : List S27) : Nat → Nat → Bool
  | 0, _ => true
  | d + 1, i => if goodI (l.getD i z27) = true then (if i > 0 then (if cmpI (l.getD (i - 1) z27) (l.getD i z27) ≥ 0 then false else goodRunR l d (i + 1)) else goodRunR l d (i + 1)) else false
def goodRunV (l : List S27) : Bool := goodRunR l l.length 0
theorem rdI_nat (xs : List S27) (i : Nat) : rd_T27 xs (i : Int) = xs.getD i z27 := by unfold rd_T27; rw [Int.toNat_natCast]
theorem goodRunR_good (l : List S27) : ∀ (d i : Nat), i + d = l.length → goodRunR l d i = true → ∀ j, i ≤ j → j < l.length → goodI (l.getD j z27) = true := by
  intro d
  induction d with
  | zero => intro i hi h j h1 h2; omega
  | succ d ih =>
    intro i hi h j h1 h2
    unfold goodRunR at h
    by_cases hg : goodI (l.getD i z27) = true
    · rw [if_pos hg] at h
      by_cases hj : j = i
      · subst hj; exact hg
      · refine ih (i + 1) (by omega) ?_ j (by omega) h2
        by_cases h0 : i > 0
        · rw [if_pos h0] at h
          split at h
          · cases h
          · exact h
        · rw [if_neg h0] at h; exact h
    · rw [if_neg hg] at h; cases h
theorem goodRunV_good {l : List S27} (h : goodRunV l = true) (j : Nat) (hj : j < l.length) : goodI (l.getD j z27) = true := goodRunR_good l l.length 0 (by omega) h j (by omega) hj
theorem goodI_iff {a : S27} (h : goodI a = true) : 1 ≤ a.f0.size ∧ a.f0.size ≤ 16 ∧ 0 ≤ a.f1 ∧ a.f1 ≤ 1000000000 ∧ 0 ≤ a.f2 ∧ a.f2 ≤ 1 ∧ a.f3.size ≤ 40 := by
  unfold goodI goodItemB keyB seqB at h
  simp only [Bool.and_eq_true, inB_iff, decide_eq_true_eq] at h
  omega

-- part specRun needs spec_GoodRun.f
theorem spec_run_l (l : List S27) (hl : l.length ≤ 140737488351232) : ∀ (d i : Nat), i + d = l.length → Ev (fun k => spec_GoodRun.l0 k l l (l.length : Int) i) (goodRunR l d i) := by
  intro d
  induction d with
  | zero =>
    intro i hi
    refine Ev.step (fun k => by rw [spec_GoodRun.l0]) ?_
    exact Ev.neg_ (by omega) (Ev.now _)
  | succ d ih =>
    intro i hi
    unfold goodRunR
    have hn := ih (i + 1) (by omega)
    refine Ev.step (fun k => by rw [spec_GoodRun.l0]) ?_
    refine Ev.pos_ (by omega) (Ev.pos_ (by omega) (Ev.pos_ (by omega) ?_))
    simp only [rdI_nat, spec_goodItem, Option.bind_some, wi (show i < l.length by omega) hl]
    by_cases h : goodI (l.getD i z27) = true
    · rw [if_pos h]
      refine Ev.pos_ h ?_
      by_cases h0 : i > 0
      · rw [if_pos h0]
        have ew : wrap64 ((i : Int) - 1) = ((i - 1 : Nat) : Int) := by rw [w64 (by omega) (by omega)]; omega
        refine Ev.pos_ (by omega) ?_
        simp only [ew, rdI_nat]
        refine Ev.pos_ (by omega) (Ev.pos_ (by omega) (Ev.bind (spec_cmp _ _ _ _ _ _ _ _) ?_))
        by_cases hc : cmpI (l.getD (i - 1) z27) (l.getD i z27) ≥ 0
        · rw [if_pos hc]; exact Ev.pos_ hc (Ev.now _)
        · rw [if_neg hc]; exact Ev.neg_ hc hn
      · rw [if_neg h0]
        exact Ev.neg_ (by omega) hn
    · rw [if_neg h]; exact Ev.neg_ h (Ev.now _)
theorem spec_run (l : List S27) (hl : l.length ≤ 140737488351232) : Ev (fun k => spec_GoodRun.f k l) (goodRunV l) := spec_run_l l hl l.length 0 (by omega)

-- part implRun needs impl_GoodRun.f
theorem impl_run_l (l : List S27) (hl : l.length ≤ 140737488351232) : ∀ (d i : Nat), i + d = l.length → Ev (fun k => impl_GoodRun.l0 k l l (l.length : Int) i) (goodRunR l d i) := by
  intro d
  induction d with
  | zero =>
    intro i hi
    refine Ev.step (fun k => by rw [impl_GoodRun.l0]) ?_
    exact Ev.neg_ (by omega) (Ev.now _)
  | succ d ih =>
    intro i hi
    unfold goodRunR
    have hn := ih (i + 1) (by omega)
    refine Ev.step (fun k => by rw [impl_GoodRun.l0]) ?_
    refine Ev.pos_ (by omega) (Ev.pos_ (by omega) (Ev.pos_ (by omega) ?_))
    simp only [rdI_nat, impl_goodItem, Option.bind_some, wi (show i < l.length by omega) hl]
    by_cases h : goodI (l.getD i z27) = true
    · rw [if_pos h]
      refine Ev.pos_ h ?_
      by_cases h0 : i > 0
      · rw [if_pos h0]
        have ew : wrap64 ((i : Int) - 1) = ((i - 1 : Nat) : Int) := by rw [w64 (by omega) (by omega)]; omega
        refine Ev.pos_ (by omega) ?_
        simp only [ew, rdI_nat]
        refine Ev.pos_ (by omega) (Ev.pos_ (by omega) (Ev.bind (impl_cmp _ _ _ _ _ _ _ _) ?_))
        by_cases hc : cmpI (l.getD (i - 1) z27) (l.getD i z27) ≥ 0
        · rw [if_pos hc]; exact Ev.pos_ hc (Ev.now _)
        · rw [if_neg hc]; exact Ev.neg_ hc hn
      · rw [if_neg h0]
        exact Ev.neg_ (by omega) hn
    · rw [if_neg h]; exact Ev.neg_ h (Ev.now _)
theorem impl_run (l : List S27) (hl : l.length ≤ 140737488351232) : Ev (fun k => impl_GoodRun.f k l) (goodRunV l) := impl_run_l l hl l.length 0 (by omega)

-- part newestM: the greatest number of a run
def maxQ (q : Int) (l : List S27) : Int := l.foldl (fun q x => if x.f1 > q then x.f1 else q) q
theorem maxQ_drop (l : List S27) (q : Int) (i : Nat) (h : i < l.length) : maxQ q (l.drop i) = maxQ (if (l.getD i z27).f1 > q then (l.getD i z27).f1 else q) (l.drop (i + 1)) := by
  rw [List.drop_eq_getElem_cons h, List.getD_eq_getElem?_getD, List.getElem?_eq_getElem h]; rfl
def newestV (l : List S27) : Int × Bool := if goodRunV l = true ∧ l.length ≤ 400 then (maxQ 0 l, true) else (0, false)

-- part specNewest needs spec_NewestOf.f
theorem spec_newest_l (l : List S27) (hl : l.length ≤ 140737488351232) : ∀ (d i : Nat) (q : Int), i + d = l.length → Ev (fun k => spec_NewestOf.l0 k q l (l.length : Int) i) (maxQ q (l.drop i), true) := by
  intro d
  induction d with
  | zero =>
    intro i q hi
    refine Ev.step (fun k => by rw [spec_NewestOf.l0]) ?_
    rw [List.drop_eq_nil_of_le (by omega)]
    exact Ev.neg_ (by omega) (Ev.now _)
  | succ d ih =>
    intro i q hi
    refine Ev.step (fun k => by rw [spec_NewestOf.l0]) ?_
    rw [wi (show i < l.length by omega) hl, rdI_nat, maxQ_drop l q i (by omega)]
    refine Ev.pos_ (by omega) (Ev.pos_ (by omega) (Ev.pos_ (by omega) (Ev.ite_ (fun h => ?_) (fun h => ?_))))
    · rw [if_pos h]; exact ih (i + 1) _ (by omega)
    · rw [if_neg h]; exact ih (i + 1) _ (by omega)
theorem spec_newestOf (l : List S27) (hl : l.length ≤ 140737488351232) : Ev (fun k => spec_NewestOf.f k l) (newestV l) := by
  unfold spec_NewestOf.f spec_l8Run.f newestV
  by_cases g : goodRunV l = true
  · by_cases hn : l.length ≤ 400
    · rw [if_pos ⟨g, hn⟩]
      refine Ev.bind (Ev.bind (spec_run l hl) (Ev.pos_ g (Ev.now _))) ?_
      refine Ev.pos_ (by simp; omega) ?_
      exact spec_newest_l l hl l.length 0 0 (by omega)
    · rw [if_neg (fun e => hn e.2)]
      refine Ev.bind (Ev.bind (spec_run l hl) (Ev.pos_ g (Ev.now _))) ?_
      exact Ev.neg_ (by simp; omega) (Ev.now _)
  · rw [if_neg (fun e => g e.1)]
    refine Ev.bind (Ev.bind (spec_run l hl) (Ev.neg_ g (Ev.now _))) ?_
    exact Ev.neg_ (by simp) (Ev.now _)

-- part implNewest needs impl_NewestOf.f
theorem impl_newest_one (a0 : ByteArray) (a1 a2 : Int) (a3 b0 : ByteArray) (b1 b2 : Int) (b3 : ByteArray) : impl_newest_1.f a0 a1 a2 a3 b0 b1 b2 b3 = some (if a1 < b1 then -1 else if a1 > b1 then 1 else 0) := by
  unfold impl_newest_1.f cmp_Compare_int.f cmp_isNaN_int.f
  simp only [Option.bind_some, bne_self_eq_false, Bool.false_eq_true, if_false]
  by_cases h : a1 < b1
  · simp [h]
  · by_cases h2 : a1 > b1
    · simp [h, h2]
    · simp [h, h2]
theorem impl_newest_l (l : List S27) (hl : l.length ≤ 140737488351232) : ∀ (d i : Nat) (a : ByteArray) (q c : Int) (b : ByteArray), i + d = l.length →
    ∃ a' c' b', Ev (fun k => slices_MaxFunc_f64.l0 k l i a q c b) (a', maxQ q (l.drop i), c', b') := by
  intro d
  induction d with
  | zero =>
    intro i a q c b hi
    refine ⟨a, c, b, Ev.step (fun k => by rw [slices_MaxFunc_f64.l0]) ?_⟩
    rw [List.drop_eq_nil_of_le (by omega)]
    exact Ev.neg_ (by omega) (Ev.now _)
  | succ d ih =>
    intro i a q c b hi
    by_cases h : (l.getD i z27).f1 > q
    · obtain ⟨a', c', b', hE⟩ := ih (i + 1) (l.getD i z27).f0 (l.getD i z27).f1 (l.getD i z27).f2 (l.getD i z27).f3 (by omega)
      refine ⟨a', c', b', Ev.step (fun k => by rw [slices_MaxFunc_f64.l0]) ?_⟩
      rw [wi (show i < l.length by omega) hl, rdI_nat, maxQ_drop l q i (by omega), if_pos h, impl_newest_one]
      refine Ev.pos_ (by omega) (Ev.pos_ (by omega) (Ev.some_ ?_))
      rw [if_neg (by omega), if_pos h]
      exact Ev.pos_ (by omega) hE
    · obtain ⟨a', c', b', hE⟩ := ih (i + 1) a q c b (by omega)
      refine ⟨a', c', b', Ev.step (fun k => by rw [slices_MaxFunc_f64.l0]) ?_⟩
      rw [wi (show i < l.length by omega) hl, rdI_nat, maxQ_drop l q i (by omega), if_neg h, impl_newest_one]
      have hne : ¬ (if (l.getD i z27).f1 < q then (-1 : Int) else if (l.getD i z27).f1 > q then 1 else 0) > 0 := by
        by_cases h2 : (l.getD i z27).f1 < q
        · rw [if_pos h2]; omega
        · rw [if_neg h2, if_neg h]; omega
      exact Ev.pos_ (by omega) (Ev.pos_ (by omega) (Ev.some_ (Ev.neg_ hne hE)))
theorem impl_newestOf (l : List S27) (hl : l.length ≤ 140737488351232) : Ev (fun k => impl_NewestOf.f k l) (newestV l) := by
  unfold impl_NewestOf.f impl_runOk.f newestV
  by_cases hn : l.length ≤ 400
  · by_cases g : goodRunV l = true
    · rw [if_pos ⟨g, hn⟩]
      refine Ev.bind (Ev.pos_ (by omega) (Ev.bind (impl_run l hl) (Ev.now _))) (Ev.pos_ g ?_)
      unfold impl_newest.f
      by_cases h0 : l.length = 0
      · have : l = [] := List.length_eq_zero_iff.1 h0
        subst this
        refine Ev.bind (Ev.pos_ (by simp) (Ev.now _)) (Ev.now _)
      · have hg := goodI_iff (goodRunV_good g 0 (by omega))
        have e : maxQ 0 l = maxQ (l.getD 0 z27).f1 (l.drop 1) := by
          have := maxQ_drop l 0 0 (by omega)
          rw [List.drop_zero] at this
          rw [this]
          by_cases hp : (l.getD 0 z27).f1 > 0
          · rw [if_pos hp]
          · rw [if_neg hp, show (l.getD 0 z27).f1 = 0 by omega]
        obtain ⟨a', c', b', hE⟩ := impl_newest_l l hl (l.length - 1) 1 (l.getD 0 z27).f0 (l.getD 0 z27).f1 (l.getD 0 z27).f2 (l.getD 0 z27).f3 (by omega)
        have e0 : rd_T27 l 0 = l.getD 0 z27 := rdI_nat l 0
        rw [e]
        refine Ev.bind (Ev.neg_ (by omega) ?_) (Ev.now _)
        unfold slices_MaxFunc_f64.f
        rw [e0]
        exact Ev.bind (Ev.neg_ (by omega) (Ev.pos_ (by omega) hE)) (Ev.now _)
    · rw [if_neg (fun e => g e.1)]
      refine Ev.bind (Ev.pos_ (by omega) (Ev.bind (impl_run l hl) (Ev.now _))) (Ev.neg_ g (Ev.now _))
  · rw [if_neg (fun e => hn e.2)]
    refine Ev.bind (Ev.neg_ (by omega) (Ev.now _)) (Ev.neg_ (by simp) (Ev.now _))

theorem FnExactNewestOf (l : List S23) (hb : l.length * 48 ≤ 140737488351232 ∧ ∀ x ∈ l, x.f0.size ≤ 140737488351232 ∧ (Lit.int .i64 x.f1).wf = true ∧ (Lit.int .i64 x.f2).wf = true ∧ x.f3.size ≤ 140737488351232) : ∃ k, laws_FnExactNewestOf.f k l = some true := by
  apply Ev.rounds (r := true)
  obtain ⟨z, hz⟩ := szItemS_some l 1048576 (by omega)
  have ht := toItemS_ l (by omega)
  have hl : (l.map convItem).length ≤ 140737488351232 := by simp; omega
  have htr : Ev (fun k => laws_toRun.f k l) (l.map convItem) := by unfold laws_toRun.f; exact Ev.bind ht (Ev.now _)
  unfold laws_FnExactNewestOf.f
  have hzr : ∃ z', Ev (fun k => laws_szRun.f k l 1048576) z' := by
    unfold laws_szRun.f
    by_cases hz0 : z < 0
    · exact ⟨-1, Ev.bind hz (Ev.pos_ hz0 (Ev.now _))⟩
    · exact ⟨z, Ev.bind hz (Ev.neg_ hz0 (Ev.now _))⟩
  obtain ⟨z', hz'⟩ := hzr
  refine Ev.bind hz' (Ev.ite_ (fun _ => Ev.now _) (fun _ => ?_))
  refine Ev.bind htr ?_
  refine Ev.bind (spec_newestOf _ hl) ?_
  refine Ev.bind htr ?_
  refine Ev.bind (impl_newestOf _ hl) ?_
  refine Ev.pos_ rfl (Ev.step (fun k => by rw [laws_FnExactNewestOf.j0]) ?_)
  refine Ev.neg_ (by simp) ?_
  refine Ev.bind htr ?_
  unfold laws_eqRun.f
  refine Ev.bind (Ev.bind (eqItemS_refl _ hl) (Ev.pos_ rfl (Ev.now _))) ?_
  exact Ev.pos_ rfl (Ev.now _)

end Go.Proofs.Ytjacppphgccphaa.Pure
