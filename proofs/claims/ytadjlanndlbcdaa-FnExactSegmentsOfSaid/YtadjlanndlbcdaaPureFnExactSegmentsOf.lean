/-
  The plain statement of the law FnExactSegmentsOf, proved: over numbers and lists alone. No condition beyond the given ones.
-/
import Derived.Test.YtadjlanndlbcdaaMFnExactSegmentsOfx7
namespace Go.Proofs.Ytadjlanndlbcdaa.Pure
open Go Go.RowKit Go.Proofs.Ytadjlanndlbcdaa.MFnExactSegmentsOf Go.Proofs.YtadjlanndlbcdaaW.PrintWords Go.Proofs.YtadjlanndlbcdaaW.PrintLast Go.Proofs.YtadjlanndlbcdaaW.PrintMore
set_option linter.unusedVariables false
set_option linter.unusedSimpArgs false

-- part base: plain facts on Go's numbers and on rounds
theorem lt_mn {i a b : Int} : i < mn a b ↔ i < a ∧ i < b := by unfold mn; split <;> omega
theorem mn_le {a b : Int} : mn a b ≤ a ∧ mn a b ≤ b := by unfold mn; split <;> omega
theorem w64 {n : Int} (h0 : -9223372036854775808 ≤ n) (h1 : n ≤ 9223372036854775807) : wrap64 n = n := by unfold wrap64; omega
theorem wrap_u64 (n : Int) : IntKind.u64.wrap n = n % 18446744073709551616 := by simp [IntKind.wrap, IntKind.bits, IntKind.signed]
theorem wu64 {n : Int} (h0 : 0 ≤ n) (h1 : n ≤ 18446744073709551615) : IntKind.u64.wrap n = n := by rw [wrap_u64]; omega
theorem wu32 {n : Int} (h0 : 0 ≤ n) (h1 : n ≤ 4294967295) : IntKind.u32.wrap n = n := by rw [IntKind.wrap_u32]; omega
theorem wraps_u32 (n : Int) (h₀ : 0 ≤ n) (h₁ : n < 2 ^ 32) : IntKind.u32.wrap n = n := by rw [IntKind.wrap_u32]; omega
theorem wraps_i64 (n : Int) (h₀ : 0 ≤ n) (h₁ : n < 2 ^ 63) : IntKind.i64.wrap n = n := by rw [IntKind.wrap_i64]; omega
theorem and127 {b : Int} (h0 : 0 ≤ b) (h1 : b ≤ 255) : Go.bits .and .u8 b 127 = b % 128 := bits_mask .u8 8 (by decide) wraps_u8 7 (by decide) b h0 (by omega)
theorem wf_i64 {n : Int} (h : (Lit.int .i64 n).wf = true) : -9223372036854775808 ≤ n ∧ n ≤ 9223372036854775807 := by
  simp only [Lit.wf, Bool.and_eq_true, decide_eq_true_eq] at h
  exact h
theorem wf_u32 {n : Int} (h : (Lit.int .u32 n).wf = true) : 0 ≤ n ∧ n ≤ 4294967295 := by
  simp only [Lit.wf, Bool.and_eq_true, decide_eq_true_eq] at h
  exact h
theorem bits_or_comm (k : IntKind) (x y : Int) : Go.bits .or k x y = Go.bits .or k y x := by
  simp only [Go.bits, BitVec.or_comm]
theorem and127i {b : Int} (h0 : 0 ≤ b) (h1 : b ≤ 9223372036854775807) : Go.bits .and .i64 b 127 = b % 128 := bits_mask .i64 63 (by decide) wraps_i64 7 (by decide) b h0 (by omega)
theorem or128i {b : Int} (h0 : 0 ≤ b) (h1 : b < 128) : Go.bits .or .i64 b 128 = b + 128 := by
  rw [bits_or_comm, bits_join .i64 63 (by decide) wraps_i64 7 128 b (by omega) (by omega) (by omega) h0 (by omega) (by omega)]; omega
theorem Ev.ite_ {α : Type} {c : Prop} [Decidable c] {g f : Nat → Option α} {r : α} (h : c → Ev g r) (k : ¬c → Ev f r) : Ev (fun n => if c then g n else f n) r := by
  by_cases hc : c
  · simp only [if_pos hc]; exact h hc
  · simp only [if_neg hc]; exact k hc
theorem Ev.pos_ {α : Type} {c : Prop} [Decidable c] {g f : Nat → Option α} {r : α} (hc : c) (h : Ev g r) : Ev (fun n => if c then g n else f n) r := by simp only [if_pos hc]; exact h
theorem Ev.neg_ {α : Type} {c : Prop} [Decidable c] {g f : Nat → Option α} {r : α} (hc : ¬c) (h : Ev f r) : Ev (fun n => if c then g n else f n) r := by simp only [if_neg hc]; exact h
theorem Ev.some_ {α β : Type} {f : Nat → α → Option β} {x : α} {r : β} (h : Ev (fun n => f n x) r) : Ev (fun n => (some x).bind (f n)) r := by simpa only [Option.bind_some] using h
theorem bo_and (b c : Bool) : (if b = true then some c else some false) = some (b && c) := by cases b <;> rfl
theorem bo_andP (p : Prop) [Decidable p] (c : Bool) : (if p then some c else some false) = some (decide p && c) := by by_cases h : p <;> simp [h]
theorem bo_orP (p : Prop) [Decidable p] (c : Bool) : (if p then some true else some c) = some (decide p || c) := by by_cases h : p <;> simp [h]
theorem bo_or (b c : Bool) : (if b = true then some true else some c) = some (b || c) := by cases b <;> rfl
def inB (a lo hi : Int) : Bool := decide (lo ≤ a) && decide (a ≤ hi)
theorem inB_iff {a lo hi : Int} : inB a lo hi = true ↔ lo ≤ a ∧ a ≤ hi := by simp [inB]

-- part listM: loops over lists by their index
def mkL {α : Type} (enc : Int → α) (c : Int) : Nat → Int → List α
  | 0, _ => []
  | d + 1, m => enc m :: mkL enc c d (m + c)
theorem mkL_len {α : Type} (enc : Int → α) (c : Int) : ∀ (d : Nat) (m : Int), (mkL enc c d m).length = d := by
  intro d; induction d with
  | zero => intro m; rfl
  | succ d ih => intro m; simp [mkL, ih]
theorem mark_gen {α : Type} (L : Nat → List α → Int → Int → Option (Int × List α)) (enc : Int → α) (c B : Int) (hc : 0 ≤ c)
    (hstep : ∀ (xs : List α) (m : Int) (i : Nat) (r : Int × List α), 0 < m → m + c ≤ B → i < xs.length → xs.length ≤ 140737488351232 → Ev (fun k => L k (xs.set i (enc m)) (m + c) ((i + 1 : Nat) : Int)) r → Ev (fun k => L k xs m (i : Int)) r)
    (hend : ∀ (xs : List α) (m : Int), Ev (fun k => L k xs m (xs.length : Int)) (m, xs)) :
    ∀ (d : Nat) (xs : List α) (m : Int) (i : Nat), i + d = xs.length → 0 < m → m + c * d ≤ B → xs.length ≤ 140737488351232 → Ev (fun k => L k xs m (i : Int)) (m + c * d, xs.take i ++ mkL enc c d m) := by
  intro d
  induction d with
  | zero =>
    intro xs m i hi hm hB hl
    have := hend xs m
    obtain rfl : i = xs.length := by omega
    simpa [mkL] using this
  | succ d ih =>
    intro xs m i hi hm hB hl
    have hcd : c * ((d + 1 : Nat) : Int) = c * d + c := by rw [Int.natCast_add, Int.mul_add]; simp
    have hcd0 : 0 ≤ c * (d : Int) := Int.mul_nonneg hc (by omega)
    refine hstep xs m i _ hm (by omega) (by omega) hl ?_
    have := ih (xs.set i (enc m)) (m + c) (i + 1) (by simp; omega) (by omega) (by omega) (by simpa using hl)
    have e : (xs.set i (enc m)).take (i + 1) ++ mkL enc c d (m + c) = xs.take i ++ mkL enc c (d + 1) m := by
      rw [List.take_set, List.take_succ_eq_append_getElem (by omega), List.set_append_right _ _ (by simp; omega)]
      simp [mkL, Nat.min_eq_left (show i ≤ xs.length by omega)]
    rw [e] at this
    rw [show m + c * ((d + 1 : Nat) : Int) = m + c + c * d by omega]
    exact this
theorem held_gen {α : Type} (H : Nat → List α → Int → Int → Option Int) (enc : Int → α) (c B : Int) (hc : 0 ≤ c)
    (hstep : ∀ (xs : List α) (m : Int) (i : Nat) (r : Int), 0 < m → m + c ≤ B → i < xs.length → xs.length ≤ 140737488351232 → xs[i]? = some (enc m) → Ev (fun k => H k xs (m + c) ((i + 1 : Nat) : Int)) r → Ev (fun k => H k xs m (i : Int)) r)
    (hend : ∀ (xs : List α) (m : Int), Ev (fun k => H k xs m (xs.length : Int)) m) :
    ∀ (d : Nat) (pre : List α) (m : Int), 0 < m → m + c * d ≤ B → pre.length + d ≤ 140737488351232 → Ev (fun k => H k (pre ++ mkL enc c d m) m (pre.length : Int)) (m + c * d) := by
  intro d
  induction d with
  | zero =>
    intro pre m hm hB hl
    have := hend pre m
    simpa [mkL] using this
  | succ d ih =>
    intro pre m hm hB hl
    have hcd : c * ((d + 1 : Nat) : Int) = c * d + c := by rw [Int.natCast_add, Int.mul_add]; simp
    have hcd0 : 0 ≤ c * (d : Int) := Int.mul_nonneg hc (by omega)
    refine hstep _ m pre.length _ hm (by omega) (by simp [mkL]) (by simp [mkL_len]; omega) (by simp [mkL]) ?_
    have := ih (pre ++ [enc m]) (m + c) (by omega) (by omega) (by simp; omega)
    rw [show m + c * ((d + 1 : Nat) : Int) = m + c + c * d by omega]
    simpa [mkL] using this
theorem to_gen {α β : Type} (L : Nat → List α → List β → Int → Option (List β)) (f : α → β) (z : β) (za : α)
    (hstep : ∀ (xs : List α) (ys : List β) (i : Nat) (r : List β), i < xs.length → i < ys.length → xs.length ≤ 140737488351232 → Ev (fun k => L k xs (ys.set i (f (xs.getD i za))) ((i + 1 : Nat) : Int)) r → Ev (fun k => L k xs ys (i : Int)) r)
    (hend : ∀ (xs : List α) (ys : List β), Ev (fun k => L k xs ys (xs.length : Int)) ys) :
    ∀ (d : Nat) (xs : List α) (i : Nat), i + d = xs.length → xs.length ≤ 140737488351232 → Ev (fun k => L k xs ((xs.take i).map f ++ List.replicate d z) (i : Int)) (xs.map f) := by
  intro d
  induction d with
  | zero =>
    intro xs i hi hl
    obtain rfl : i = xs.length := by omega
    have := hend xs (xs.map f)
    simpa using this
  | succ d ih =>
    intro xs i hi hl
    refine hstep xs _ i _ (by omega) (by simp; omega) hl ?_
    have := ih xs (i + 1) (by omega) hl
    have e : ((xs.take i).map f ++ List.replicate (d + 1) z).set i (f (xs.getD i za)) = (xs.take (i + 1)).map f ++ List.replicate d z := by
      have h0 : i - ((xs.take i).map f).length = 0 := by simp; omega
      rw [List.take_succ_eq_append_getElem (show i < xs.length by omega), List.map_append, List.set_append_right _ _ (by simp; omega), List.append_assoc, h0]
      congr 1
      simp [List.replicate_succ, List.getD_eq_getElem?_getD, List.getElem?_eq_getElem (show i < xs.length by omega)]
    rw [e]
    exact this
theorem eq_gen {α : Type} (E : Nat → List α → List α → Int → Option Bool)
    (hstep : ∀ (xs : List α) (i : Nat), i < xs.length → xs.length ≤ 140737488351232 → Ev (fun k => E k xs xs ((i + 1 : Nat) : Int)) true → Ev (fun k => E k xs xs (i : Int)) true)
    (hend : ∀ (xs : List α), Ev (fun k => E k xs xs (xs.length : Int)) true) :
    ∀ (d : Nat) (xs : List α) (i : Nat), i + d = xs.length → xs.length ≤ 140737488351232 → Ev (fun k => E k xs xs (i : Int)) true := by
  intro d
  induction d with
  | zero => intro xs i hi hl; obtain rfl : i = xs.length := by omega
            exact hend xs
  | succ d ih => intro xs i hi hl; exact hstep xs i (by omega) hl (ih xs (i + 1) (by omega) hl)
theorem sz_gen {α : Type} (Z : Nat → List α → Int → Int → Option Int)
    (hstep : ∀ (xs : List α) (m : Int) (i : Nat), i < xs.length → xs.length ≤ 140737488351232 → (∀ m', ∃ r, Ev (fun k => Z k xs m' ((i + 1 : Nat) : Int)) r) → ∃ r, Ev (fun k => Z k xs m (i : Int)) r)
    (hend : ∀ (xs : List α) (m : Int), ∃ r, Ev (fun k => Z k xs m (xs.length : Int)) r) :
    ∀ (d : Nat) (xs : List α) (m : Int) (i : Nat), i + d = xs.length → xs.length ≤ 140737488351232 → ∃ r, Ev (fun k => Z k xs m (i : Int)) r := by
  intro d
  induction d with
  | zero => intro xs m i hi hl; obtain rfl : i = xs.length := by omega
            exact hend xs m
  | succ d ih => intro xs m i hi hl; exact hstep xs m i (by omega) hl (fun m' => ih xs m' (i + 1) (by omega) hl)
theorem wi {i n : Nat} (h : i < n) (hn : n ≤ 140737488351232) : wrap64 ((i : Int) + 1) = ((i + 1 : Nat) : Int) := by rw [w64 (by omega) (by omega)]; omega
theorem rd_nat (xs : List Int) (i : Nat) : rd xs (i : Int) = xs.getD i 0 := by unfold rd; rw [Int.toNat_natCast]
theorem rdOf_nat {α : Type} (d : α) (xs : List α) (i : Nat) : rdOf d xs (i : Int) = xs.getD i d := by unfold rdOf; rw [Int.toNat_natCast]
theorem getD_of {α : Type} {xs : List α} {i : Nat} {a : α} (d : α) (h : xs[i]? = some a) : xs.getD i d = a := by rw [List.getD_eq_getElem?_getD, h]; rfl

-- part eqStringS needs laws_eqStringS.f
theorem eqStringS_refl (l : List ByteArray) (hl : l.length ≤ 140737488351232) : Ev (fun k => laws_eqStringS.f k l l) true := by
  unfold laws_eqStringS.f
  refine Ev.pos_ rfl (eq_gen laws_eqStringS.l0 (fun xs i hi hn h => Ev.step (fun k => ?_) h) (fun xs => Ev.step (f := fun _ => some true) (fun k => ?_) (Ev.now _)) l.length l 0 (by omega) hl)
  · simp only [laws_eqStringS.l0]; rw [if_pos (by omega), if_pos (by omega), if_pos (by omega), if_pos trivial, wi hi hn]
  · simp only [laws_eqStringS.l0]; rw [if_neg (by omega)]

-- part varM: a number's bytes, as a list of numbers
def varL : Nat → Int → List Int
  | 0, x => [x]
  | d + 1, x => if x ≥ 128 then (x % 128 + 128) :: varL d (x / 128) else [x]
def varB (x : Int) : ByteArray := strOfNums (varL 8 x)
theorem varL_len (d : Nat) : ∀ x : Int, 1 ≤ (varL d x).length ∧ (varL d x).length ≤ d + 1 := by
  induction d with
  | zero => intro x; simp [varL]
  | succ d ih =>
    intro x
    unfold varL
    split
    · have := ih (x / 128); simp only [List.length_cons]; omega
    · simp
theorem varB_size (x : Int) : 1 ≤ (varB x).size ∧ (varB x).size ≤ 9 := by
  have := varL_len 8 x; unfold varB; rw [strOfNums_size]; exact this

-- part specVar needs spec_l2Var.f
theorem spec_var_l (d : Nat) : ∀ (x : Int) (acc : List Int), 0 ≤ x → x < 128 ^ (d + 1) → x ≤ 9223372036854775807 → acc.length + d < 1000 →
    Ev (fun k => spec_l2Var.l0 k x acc) (strOfNums (acc ++ varL d x)) := by
  induction d with
  | zero =>
    intro x acc h0 h1 hx ha
    refine Ev.step (f := fun _ => some (strOfNums (acc ++ varL 0 x))) (fun k => ?_) (Ev.now _)
    simp only [spec_l2Var.l0]
    rw [if_neg (by omega), if_pos (by omega), Int.emod_eq_of_lt h0 (by omega)]; rfl
  | succ d ih =>
    intro x acc h0 h1 hx ha
    by_cases hb : x ≥ 128
    · have := ih (x / 128) (acc ++ [x % 128 + 128]) (by omega) (by rw [Int.pow_succ] at h1; omega) (by omega) (by simp; omega)
      have e : acc ++ varL (d + 1) x = acc ++ [x % 128 + 128] ++ varL d (x / 128) := by simp [varL, hb]
      rw [e]
      refine Ev.step (fun k => ?_) this
      simp only [spec_l2Var.l0]
      rw [if_pos (by omega), if_pos (by omega), and127i h0 hx, or128i (by omega) (by omega), Int.emod_eq_of_lt (by omega) (by omega)]
    · refine Ev.step (f := fun _ => some (strOfNums (acc ++ varL (d + 1) x))) (fun k => ?_) (Ev.now _)
      simp only [spec_l2Var.l0, varL]
      rw [if_neg (by omega), if_pos (by omega), if_neg (by omega), Int.emod_eq_of_lt h0 (by omega)]
theorem spec_var {x : Int} (h0 : 0 ≤ x) (hx : x ≤ 9223372036854775807) : Ev (fun k => spec_l2Var.f k x) (varB x) :=
  spec_var_l 8 x [] h0 (by omega) hx (by simp)

-- part implVar needs impl_varBytes.f
theorem impl_var_l (d : Nat) : ∀ (x : Int) (acc : List Int), 0 ≤ x → x < 128 ^ (d + 1) → x ≤ 9223372036854775807 → acc.length + d < 1000 →
    Ev (fun k => impl_varBytes.l0 k x acc) (strOfNums (acc ++ varL d x)) := by
  induction d with
  | zero =>
    intro x acc h0 h1 hx ha
    refine Ev.step (f := fun _ => some (strOfNums (acc ++ varL 0 x))) (fun k => ?_) (Ev.now _)
    simp only [impl_varBytes.l0]
    rw [if_neg (by omega), if_pos (by omega), Int.emod_eq_of_lt h0 (by omega)]; rfl
  | succ d ih =>
    intro x acc h0 h1 hx ha
    by_cases hb : x ≥ 128
    · have := ih (x / 128) (acc ++ [x % 128 + 128]) (by omega) (by rw [Int.pow_succ] at h1; omega) (by omega) (by simp; omega)
      have e : acc ++ varL (d + 1) x = acc ++ [x % 128 + 128] ++ varL d (x / 128) := by simp [varL, hb]
      rw [e]
      refine Ev.step (fun k => ?_) this
      simp only [impl_varBytes.l0]
      rw [if_pos (by omega), if_pos (by omega), Int.tdiv_eq_ediv_of_nonneg h0, Int.tmod_eq_emod_of_nonneg h0, w64 (by omega) (by omega)]
      rw [show (x % 128 + 128) % 256 = x % 128 + 128 by omega]
    · refine Ev.step (f := fun _ => some (strOfNums (acc ++ varL (d + 1) x))) (fun k => ?_) (Ev.now _)
      simp only [impl_varBytes.l0, varL]
      rw [if_neg (by omega), if_pos (by omega), if_neg (by omega), Int.emod_eq_of_lt h0 (by omega)]
theorem impl_var {x : Int} (h0 : 0 ≤ x) (hx : x ≤ 9223372036854775807) : Ev (fun k => impl_varBytes.f k x) (varB x) :=
  impl_var_l 8 x [] h0 (by omega) hx (by simp)

-- part specIn needs spec_l1In.f
theorem spec_in (a lo hi : Int) : spec_l1In.f a lo hi = some (inB a lo hi) := by
  unfold spec_l1In.f inB; rw [bo_andP]

-- part implIn needs impl_in.f
theorem impl_in_ (a lo hi : Int) : impl_in.f a lo hi = some (inB a lo hi) := by
  unfold impl_in.f inB; rw [bo_andP]

-- part sumM: the table of sums and the sum of a text
def crcStep (n : Int) : Int := if Go.bits .and .u32 n 1 = 1 then Go.bits .xor .u32 (n / 2) 2197175160 else n / 2
def crcIt : Nat → Int → Int
  | 0, n => n
  | d + 1, n => crcIt d (crcStep n)
def crcE (i : Nat) : Int := crcIt 8 (i : Int)
def crcT : List Int := (List.range 256).map crcE
theorem crcT_len : crcT.length = 256 := by simp [crcT]
theorem xor_comm_ (k : IntKind) (x y : Int) : Go.bits .xor k x y = Go.bits .xor k y x := by simp only [Go.bits, BitVec.xor_comm]
theorem bits_u8 (op : BinOp) (x y : Int) : 0 ≤ Go.bits op .u8 x y ∧ Go.bits op .u8 x y < 256 := by
  unfold Go.bits; rw [IntKind.wrap_u8]; exact ⟨Int.emod_nonneg _ (by decide), Int.emod_lt_of_pos _ (by decide)⟩
theorem bits_u32 (op : BinOp) (x y : Int) : 0 ≤ Go.bits op .u32 x y ∧ Go.bits op .u32 x y < 4294967296 := by
  unfold Go.bits; rw [IntKind.wrap_u32]; exact ⟨Int.emod_nonneg _ (by decide), Int.emod_lt_of_pos _ (by decide)⟩
def sumR (s : ByteArray) : Nat → Nat → Int → Int
  | 0, _, x => x
  | d + 1, i, x => sumR s d (i + 1) (Go.bits .xor .u32 (x / 256) (rd crcT (Go.bits .xor .u8 (x % 256) (bt s i))))
def sumOnV (x : Int) (s : ByteArray) : Int := sumR s s.size 0 x
def sumV (s : ByteArray) : Int := Go.bits .xor .u32 4294967295 (sumOnV 4294967295 s)
theorem sumV_range (s : ByteArray) : 0 ≤ sumV s ∧ sumV s < 4294967296 := bits_u32 _ _ _

-- part specTable needs spec_l2Table.f
theorem spec_table_in (d : Nat) : ∀ (T : List Int) (i x j y z : Int) (r : List Int), 0 ≤ j → j + d = 8 → 0 ≤ i → i < T.length →
    Ev (fun k => spec_l2Table.l0 k (T.set i.toNat (crcIt d x)) y (wrap64 (z + 1))) r → Ev (fun k => spec_l2Table.l1 k T i x j y z) r := by
  induction d with
  | zero =>
    intro T i x j y z r h0 hd hi hi' h
    refine Ev.step (fun k => ?_) h
    simp only [spec_l2Table.l1]
    rw [if_neg (by omega), if_pos hi, if_pos hi']; rfl
  | succ d ih =>
    intro T i x j y z r h0 hd hi hi' h
    refine Ev.step (fun k => ?_) (ih T i (crcStep x) (j + 1) y z r (by omega) (by omega) hi hi' h)
    simp only [spec_l2Table.l1]
    rw [if_pos (by omega), w64 (by omega) (by omega)]
    unfold crcStep
    split <;> rfl
theorem spec_table_l (d : Nat) : ∀ (i : Nat), i + d = 256 → Ev (fun k => spec_l2Table.l0 k ((List.range i).map crcE ++ List.replicate d 0) 256 i) crcT := by
  induction d with
  | zero =>
    intro i hi
    obtain rfl : i = 256 := by omega
    refine Ev.step (f := fun _ => some crcT) (fun k => ?_) (Ev.now _)
    simp only [spec_l2Table.l0]; rw [if_neg (by omega)]; simp [crcT]
  | succ d ih =>
    intro i hi
    have e : ((List.range i).map crcE ++ List.replicate (d + 1) 0).set (i : Int).toNat (crcE i) = (List.range (i + 1)).map crcE ++ List.replicate d 0 := by
      rw [Int.toNat_natCast, List.range_succ, List.map_append, List.set_append_right _ _ (by simp)]
      simp [List.replicate_succ]
    refine Ev.step (f := fun k => spec_l2Table.l1 k ((List.range i).map crcE ++ List.replicate (d + 1) 0) i i 0 256 i) (fun k => ?_) ?_
    · simp only [spec_l2Table.l0]; rw [if_pos (by omega), Int.emod_eq_of_lt (by omega) (by omega)]
    · refine spec_table_in 8 _ _ _ _ _ _ _ (by omega) rfl (by omega) (by simp; omega) ?_
      have := ih (i + 1) (by omega)
      rw [show crcIt 8 (i : Int) = crcE i from rfl, e, w64 (by omega) (by omega)]
      exact this
theorem spec_table : Ev (fun k => spec_l2Table.f k) crcT := by
  unfold spec_l2Table.f
  refine Ev.pos_ (by decide) ?_
  show Ev (fun k => spec_l2Table.l0 k (List.replicate 256 0) ((List.replicate 256 (0 : Int)).length : Int) 0) crcT
  rw [List.length_replicate]
  exact spec_table_l 256 0 rfl

-- part implTable needs impl_SumTable.f
theorem impl_table_in (d : Nat) : ∀ (T : List Int) (x z j : Int) (r : List Int), 0 ≤ j → j + d = 8 → T.length < 35184372088832 →
    Ev (fun k => impl_SumTable.l0 k (T ++ [crcIt d x]) ((z + 1) % 4294967296)) r → Ev (fun k => impl_SumTable.l1 k T x z j) r := by
  induction d with
  | zero =>
    intro T x z j r h0 hd hi h
    refine Ev.step (fun k => ?_) h
    simp only [impl_SumTable.l1]
    rw [if_neg (by omega), if_pos hi]; rfl
  | succ d ih =>
    intro T x z j r h0 hd hi h
    refine Ev.step (fun k => ?_) (ih T (crcStep x) z (j + 1) r (by omega) (by omega) hi h)
    simp only [impl_SumTable.l1]
    rw [if_pos (by omega), w64 (by omega) (by omega)]
    unfold crcStep
    split <;> rfl
theorem impl_table_l (d : Nat) : ∀ (i : Nat), i + d = 256 → Ev (fun k => impl_SumTable.l0 k ((List.range i).map crcE) i) crcT := by
  induction d with
  | zero =>
    intro i hi
    obtain rfl : i = 256 := by omega
    refine Ev.step (f := fun _ => some crcT) (fun k => ?_) (Ev.now _)
    simp only [impl_SumTable.l0]; rw [if_neg (by omega)]; rfl
  | succ d ih =>
    intro i hi
    refine Ev.step (f := fun k => impl_SumTable.l1 k ((List.range i).map crcE) i i 0) (fun k => ?_) ?_
    · simp only [impl_SumTable.l0]; rw [if_pos (by omega)]
    · refine impl_table_in 8 _ _ _ _ _ (by omega) rfl (by simp; omega) ?_
      have := ih (i + 1) (by omega)
      rw [Int.emod_eq_of_lt (by omega) (by omega)]
      rw [List.range_succ, List.map_append] at this
      exact this
theorem impl_table : Ev (fun k => impl_SumTable.f k) crcT := impl_table_l 256 0 rfl

-- part specOn needs spec_l2On.f
theorem spec_on_l (s : ByteArray) (hs : s.size ≤ 140737488351232) (d : Nat) : ∀ (i : Nat) (x : Int), i + d = s.size → Ev (fun k => spec_l2On.l0 k crcT x s i) (sumR s d i x) := by
  induction d with
  | zero =>
    intro i x hi
    refine Ev.step (f := fun _ => some x) (fun k => ?_) (Ev.now _)
    simp only [spec_l2On.l0]; rw [if_neg (by omega)]
  | succ d ih =>
    intro i x hi
    have hr := bits_u8 .xor (x % 256) (bt s i)
    refine Ev.step (fun k => ?_) (ih (i + 1) _ (by omega))
    simp only [spec_l2On.l0]
    rw [if_pos (by omega), if_pos (by omega), if_pos hr.1, if_pos (by rw [crcT_len]; exact hr.2), xor_comm_ .u32, w64 (by omega) (by omega)]; rfl
theorem spec_on (x : Int) (s : ByteArray) (hs : s.size ≤ 140737488351232) : Ev (fun k => spec_l2On.f k crcT x s) (sumOnV x s) := spec_on_l s hs _ 0 x (by omega)

-- part implOn needs impl_SumOn.f
theorem impl_on_l (s : ByteArray) (hs : s.size ≤ 140737488351232) (d : Nat) : ∀ (i : Nat) (x : Int), i + d = s.size → Ev (fun k => impl_SumOn.l0 k x s crcT (s.size : Int) i) (sumR s d i x) := by
  induction d with
  | zero =>
    intro i x hi
    refine Ev.step (f := fun _ => some x) (fun k => ?_) (Ev.now _)
    simp only [impl_SumOn.l0]; rw [if_neg (by omega)]
  | succ d ih =>
    intro i x hi
    have hr := bits_u8 .xor (x % 256) (bt s i)
    refine Ev.step (fun k => ?_) (ih (i + 1) _ (by omega))
    simp only [impl_SumOn.l0]
    rw [if_pos (by omega), if_pos (by omega), if_pos (by omega), if_pos hr.1, if_pos (by rw [crcT_len]; exact hr.2), w64 (by omega) (by omega)]; rfl
theorem impl_on (x : Int) (s : ByteArray) (hs : s.size ≤ 140737488351232) : Ev (fun k => impl_SumOn.f k x s) (sumOnV x s) :=
  Ev.bind impl_table (impl_on_l s hs _ 0 x (by omega))

-- part specSum needs spec_l2Sum.f
theorem spec_sum (s : ByteArray) (hs : s.size ≤ 140737488351232) : Ev (fun k => spec_l2Sum.f k s) (sumV s) :=
  Ev.bind spec_table (Ev.bind (spec_on 4294967295 s hs) (Ev.now _))

-- part implSum needs impl_SumOf.f
theorem impl_sum (s : ByteArray) (hs : s.size ≤ 140737488351232) : Ev (fun k => impl_SumOf.f k s) (sumV s) :=
  Ev.bind (impl_on 4294967295 s hs) (Ev.now _)

-- part wordM: a word's bytes, the lowest first
def lowL : Nat → Int → List Int
  | 0, _ => []
  | d + 1, n => (n % 256) :: lowL d (n / 256)
def lowV (n : Int) (many : Nat) : ByteArray := strOfNums (lowL many n)
def wordV (n : Int) : ByteArray := lowV n 4
theorem lowL_len : ∀ (d : Nat) (n : Int), (lowL d n).length = d := by
  intro d; induction d with
  | zero => intro n; rfl
  | succ d ih => intro n; simp [lowL, ih]
theorem lowV_size (n : Int) (d : Nat) : (lowV n d).size = d := by unfold lowV; rw [strOfNums_size, lowL_len]
theorem wordV_size (n : Int) : (wordV n).size = 4 := lowV_size n 4

-- part specWord needs spec_l2Word.f
theorem spec_word (n : Int) : spec_l2Word.f n = some (wordV n) := by
  unfold spec_l2Word.f wordV lowV
  simp only [lowL]
  rw [show n / 256 / 256 = n / 65536 by omega, show n / 65536 / 256 = n / 16777216 by omega]

-- part implLow needs impl_lowFirst.f
theorem impl_low_l (m : Int) (hm : m ≤ 1000) : ∀ (d : Nat) (n : Int) (acc : List Int) (i : Int), 0 ≤ i → i + d = m → acc.length + d ≤ 2000 → Ev (fun k => impl_lowFirst.l0 k n acc m i) (strOfNums (acc ++ lowL d n)) := by
  intro d
  induction d with
  | zero =>
    intro n acc i h0 hi hl
    refine Ev.step (f := fun _ => some (strOfNums acc)) (fun k => ?_) (by simpa [lowL] using Ev.now _)
    simp only [impl_lowFirst.l0]; rw [if_neg (by omega)]
  | succ d ih =>
    intro n acc i h0 hi hl
    have := ih (n / 256) (acc ++ [n % 256]) (i + 1) (by omega) (by omega) (by simp; omega)
    rw [List.append_assoc] at this
    refine Ev.step (fun k => ?_) this
    simp only [impl_lowFirst.l0]
    rw [if_pos (by omega), if_pos (by omega), w64 (by omega) (by omega)]
theorem impl_low (n : Int) (m : Nat) (hm : m ≤ 1000) : Ev (fun k => impl_lowFirst.f k n m) (lowV n m) :=
  impl_low_l m (by omega) m n [] 0 (by omega) (by omega) (by simp; omega)

-- part frameM: a text's frame
def frameV (s : ByteArray) : ByteArray := (varB s.size ++ wordV (sumV s)) ++ s
theorem app_size (a b : ByteArray) : (a ++ b).size = a.size + b.size := ByteArray.size_append
theorem frameV_size (s : ByteArray) : s.size + 5 ≤ (frameV s).size ∧ (frameV s).size ≤ s.size + 13 := by
  unfold frameV; rw [app_size, app_size, wordV_size]; have := varB_size (s.size : Int); omega

-- part specFrame needs spec_l2Frame.f
theorem spec_frame (s : ByteArray) (hs : s.size ≤ 140737488351232) : Ev (fun k => spec_l2Frame.f k s) (frameV s) := by
  unfold spec_l2Frame.f
  have h1 := varB_size (s.size : Int)
  have h2 := wordV_size (sumV s)
  refine Ev.bind (spec_var (by omega) (by omega)) (Ev.bind (spec_sum s hs) ?_)
  simp only [spec_word, Option.bind_some]
  exact Ev.pos_ (by omega) (Ev.pos_ (by omega) (Ev.now _))

-- part implFrame needs impl_frame.f
theorem impl_frame_ (s : ByteArray) (hs : s.size ≤ 140737488351232) : Ev (fun k => impl_frame.f k s) (frameV s) := by
  unfold impl_frame.f
  have h1 := varB_size (s.size : Int)
  have h2 := wordV_size (sumV s)
  refine Ev.bind (impl_var (by omega) (by omega)) (Ev.bind (impl_sum s hs) (Ev.bind (impl_low (sumV s) 4 (by omega)) ?_))
  exact Ev.pos_ (by have := lowV_size (sumV s) 4; omega) (Ev.pos_ (by have := lowV_size (sumV s) 4; omega) (Ev.now _))

-- part entryM
def entryB (t : Int) (d : ByteArray) : Bool := inB t 1 1000000 && decide ((d.size : Int) ≤ 100)
def entryV (i t : Int) (d : ByteArray) : ByteArray := (varB i ++ varB t) ++ d
theorem entryB_iff {t : Int} {d : ByteArray} : entryB t d = true ↔ 1 ≤ t ∧ t ≤ 1000000 ∧ d.size ≤ 100 := by
  unfold entryB inB; simp only [Bool.and_eq_true, decide_eq_true_eq]; omega

-- part specEntry needs spec_l3Entry.f
theorem spec_entry (t : Int) (d : ByteArray) : spec_l3Entry.f t d = some (entryB t d) := by
  unfold spec_l3Entry.f entryB
  simp only [spec_in, Option.bind_some, bo_and]

-- part implEntry needs impl_goodEntry.f
theorem impl_entry (t : Int) (d : ByteArray) : impl_goodEntry.f t d = some (entryB t d) := by
  unfold impl_goodEntry.f entryB
  simp only [impl_in_, Option.bind_some, bo_and]

-- part specEntryBytes needs spec_EntryBytes.f
theorem spec_entryBytes (i t : Int) (d : ByteArray) (hd : d.size ≤ 140737488351232) :
    Ev (fun k => spec_EntryBytes.f k i t d) (if inB i 1 2000000 = true ∧ entryB t d = true then (entryV i t d, true) else (⟨#[]⟩, false)) := by
  unfold spec_EntryBytes.f
  simp only [spec_in, spec_entry, Option.bind_some]
  by_cases h1 : inB i 1 2000000 = true
  · refine Ev.pos_ h1 ?_
    by_cases h2 : entryB t d = true
    · rw [if_pos ⟨h1, h2⟩]
      have hi := inB_iff.1 h1
      have he := entryB_iff.1 h2
      have v1 := varB_size i
      have v2 := varB_size t
      refine Ev.step (fun k => by rw [spec_EntryBytes.j0]) (Ev.neg_ (by simp [h2]) ?_)
      refine Ev.bind (spec_var (by omega) (by omega)) (Ev.bind (spec_var (by omega) (by omega)) ?_)
      exact Ev.pos_ (by omega) (Ev.pos_ (by omega) (Ev.now _))
    · rw [if_neg (fun h => h2 h.2)]
      exact Ev.step (fun k => by rw [spec_EntryBytes.j0]) (Ev.pos_ (by simp [h2]) (Ev.now _))
  · refine Ev.neg_ h1 ?_
    rw [if_neg (fun h => h1 h.1)]
    exact Ev.step (fun k => by rw [spec_EntryBytes.j0]) (Ev.pos_ rfl (Ev.now _))

-- part implEntryV needs impl_entryBytes.f
theorem impl_entryV (i t : Int) (d : ByteArray) (hi : 0 ≤ i) (hi' : i ≤ 9223372036854775807) (ht : 0 ≤ t) (ht' : t ≤ 9223372036854775807) (hd : d.size ≤ 140737488351232) : Ev (fun k => impl_entryBytes.f k i t d) (entryV i t d) := by
  unfold impl_entryBytes.f
  have v1 := varB_size i
  have v2 := varB_size t
  refine Ev.bind (impl_var (by omega) (by omega)) (Ev.bind (impl_var (by omega) (by omega)) ?_)
  exact Ev.pos_ (by omega) (Ev.pos_ (by omega) (Ev.now _))

-- part markText needs laws_markText.f
def markR : Nat → Int → ByteArray → ByteArray
  | 0, _, acc => (⟨#[109]⟩ : ByteArray) ++ acc
  | d + 1, x, acc => if x > 0 then markR d (x / 10) (strOfNums [(48 + x % 10) % 256] ++ acc) else (⟨#[109]⟩ : ByteArray) ++ acc
def markT (m : Int) : ByteArray := markR 19 m ⟨#[]⟩
theorem markText_l : ∀ (d : Nat) (x : Int) (acc : ByteArray), 0 ≤ x → x < 10 ^ d → x ≤ 9223372036854775807 → acc.size + d ≤ 100 → Ev (fun k => laws_markText.l0 k x acc) (markR d x acc) := by
  intro d
  induction d with
  | zero =>
    intro x acc h0 h1 hx hs
    have hp : (10 : Int) ^ 0 = 1 := rfl
    refine Ev.step (fun k => by rw [laws_markText.l0]) ?_
    exact Ev.neg_ (by omega) (Ev.pos_ (by omega) (Ev.now _))
  | succ d ih =>
    intro x acc h0 h1 hx hs
    unfold markR
    refine Ev.step (fun k => by rw [laws_markText.l0]) ?_
    by_cases hp : x > 0
    · rw [if_pos hp]
      refine Ev.pos_ hp ?_
      simp only [Option.bind_some]
      have e1 : wrap64 (48 + Int.tmod x 10) % 256 = (48 + x % 10) % 256 := by rw [Int.tmod_eq_emod_of_nonneg h0, w64 (by omega) (by omega)]
      have e2 : wrap64 (Int.tdiv x 10) = x / 10 := by rw [Int.tdiv_eq_ediv_of_nonneg h0, w64 (by omega) (by omega)]
      have hz : (strOfNums [(48 + x % 10) % 256]).size = 1 := by rw [strOfNums_size]; rfl
      rw [e1, e2]
      refine Ev.pos_ (by omega) (ih _ _ (by omega) (by rw [Int.pow_succ] at h1; omega) (by omega) ?_)
      rw [ByteArray.size_append, hz]; omega
    · rw [if_neg hp]
      exact Ev.neg_ hp (Ev.pos_ (by omega) (Ev.now _))
theorem markText_ {m : Int} (h0 : 0 < m) (h1 : m ≤ 4611686018427387904) : Ev (fun k => laws_markText.f k m) (markT m) := by
  unfold laws_markText.f
  refine Ev.neg_ (by omega) (markText_l 19 m ⟨#[]⟩ (by omega) ?_ (by omega) (by decide))
  have : (10 : Int) ^ 19 = 10000000000000000000 := rfl
  omega

-- part markheldStringS needs laws_markStringS.f laws_heldStringS.f
theorem markStringS_step (xs : List ByteArray) (m : Int) (i : Nat) (r : Int × List ByteArray) (hm : 0 < m) (hB : m + 1 ≤ 4611686018427387904) (hi : i < xs.length) (hn : xs.length ≤ 140737488351232)
    (h : Ev (fun k => laws_markStringS.l0 k (xs.set i (markT m)) (m + 1) ((i + 1 : Nat) : Int)) r) : Ev (fun k => laws_markStringS.l0 k xs m (i : Int)) r := by
  refine Ev.step (fun k => by rw [laws_markStringS.l0]) ?_
  refine Ev.pos_ (by omega) (Ev.bind (markText_ hm (by omega)) (Ev.pos_ (by omega) ?_))
  simp only [wi hi hn, Int.toNat_natCast, w64 (n := m + 1) (by omega) (by omega)]; exact h
theorem heldStringS_step (xs : List ByteArray) (m : Int) (i : Nat) (r : Int) (hm : 0 < m) (hB : m + 1 ≤ 4611686018427387904) (hi : i < xs.length) (hn : xs.length ≤ 140737488351232) (he : xs[i]? = some (markT m))
    (h : Ev (fun k => laws_heldStringS.l0 k xs (m + 1) ((i + 1 : Nat) : Int)) r) : Ev (fun k => laws_heldStringS.l0 k xs m (i : Int)) r := by
  refine Ev.step (fun k => by rw [laws_heldStringS.l0]) ?_
  refine Ev.pos_ (by omega) (Ev.pos_ (by omega) (Ev.bind (markText_ hm (by omega)) ?_))
  rw [rdOf_nat, getD_of _ he]
  refine Ev.pos_ rfl ?_
  simp only [wi hi hn, w64 (n := m + 1) (by omega) (by omega)]; exact h
theorem markheldStringS (l : List ByteArray) (hl : l.length ≤ 140737488351232) : ∃ r l', Ev (fun k => laws_markStringS.f k l 1) (r, l') ∧ Ev (fun k => laws_heldStringS.f k l' 1) r ∧ 0 ≤ r := by
  refine ⟨1 + 1 * l.length, mkL markT 1 l.length 1, ?_, ?_, by omega⟩
  · have := mark_gen laws_markStringS.l0 markT 1 4611686018427387904 (by omega) markStringS_step (fun xs m => Ev.step (f := fun _ => some (m, xs)) (fun k => ?_) (Ev.now _)) l.length l 1 0 (by omega) (by omega) (by omega) hl
    · unfold laws_markStringS.f; simpa using this
    · simp only [laws_markStringS.l0]; rw [if_neg (by omega)]
  · have := held_gen laws_heldStringS.l0 markT 1 4611686018427387904 (by omega) heldStringS_step (fun xs m => Ev.step (f := fun _ => some m) (fun k => ?_) (Ev.now _)) l.length [] 1 (by omega) (by omega) (by simpa using hl)
    · unfold laws_heldStringS.f; simpa using this
    · simp only [laws_heldStringS.l0]; rw [if_neg (by omega)]

-- part toEntryS needs laws_toEntryS.f
def convEntry (a : S62) : S34 := ⟨a.f0, a.f1⟩
theorem rd_T62_nat (xs : List S62) (i : Nat) : rd_T62 xs (i : Int) = xs.getD i z62 := by unfold rd_T62; rw [Int.toNat_natCast]
theorem toEntryS_ (l : List S62) (hl : l.length * 16 ≤ 140737488351232 ∧ l.length ≤ 5864062014805) : Ev (fun k => laws_toEntryS.f k l) (l.map convEntry) := by
  unfold laws_toEntryS.f
  refine Ev.pos_ (by omega) (Ev.pos_ (by omega) ?_)
  have := to_gen laws_toEntryS.l0 convEntry z34 z62 (fun xs ys i r hi hy hn h => ?_) (fun xs ys => Ev.step (f := fun _ => some ys) (fun k => ?_) (Ev.now _)) l.length l 0 (by omega) (by omega)
  · simpa using this
  · refine Ev.step (fun k => by rw [laws_toEntryS.l0]) ?_
    refine Ev.pos_ (by omega) (Ev.pos_ (by omega) ?_)
    simp only [laws_toEntry.f, Option.bind_some]
    refine Ev.pos_ (by omega) ?_
    simp only [wi hi hn, Int.toNat_natCast, rd_T62_nat]; exact h
  · simp only [laws_toEntryS.l0]; rw [if_neg (by omega)]

-- part szEntryS needs laws_szEntryS.f
theorem szEntry_some (f0 f1) (m : Int) : ∃ r, laws_szEntry.f f0 f1 m = some r := by
  unfold laws_szEntry.f
  repeat' first | exact ⟨_, rfl⟩ | split
theorem szEntryS_some (l : List S62) (m : Int) (hl : l.length ≤ 140737488351232) : ∃ r, Ev (fun k => laws_szEntryS.f k l m) r := by
  unfold laws_szEntryS.f
  by_cases h : wrap64 (m - (l.length : Int)) < 0
  · exact ⟨-1, Ev.pos_ h (Ev.now _)⟩
  · have := sz_gen laws_szEntryS.l0 (fun xs m i hi hn h => ?_) (fun xs m => ⟨m, Ev.step (f := fun _ => some m) (fun k => ?_) (Ev.now _)⟩) l.length l (wrap64 (m - (l.length : Int))) 0 (by omega) hl
    · obtain ⟨r, hr⟩ := this
      exact ⟨r, Ev.neg_ h (by simpa using hr)⟩
    · obtain ⟨r, e⟩ := szEntry_some (rd_T62 xs i).f0 (rd_T62 xs i).f1 m
      by_cases hr : r < 0
      · refine ⟨-1, ?_⟩
        refine Ev.step (fun k => by rw [laws_szEntryS.l0]) ?_
        refine Ev.pos_ (by omega) (Ev.pos_ (by omega) ?_)
        simp only [e, Option.bind_some]
        exact Ev.pos_ hr (Ev.now _)
      · obtain ⟨q, hq⟩ := h r
        refine ⟨q, ?_⟩
        refine Ev.step (fun k => by rw [laws_szEntryS.l0]) ?_
        refine Ev.pos_ (by omega) (Ev.pos_ (by omega) ?_)
        simp only [e, Option.bind_some]
        refine Ev.neg_ hr ?_
        simp only [wi hi hn]; exact hq
    · simp only [laws_szEntryS.l0]; rw [if_neg (by omega)]

-- part eqEntryS needs laws_eqEntryS.f
theorem eqEntryS_refl (l : List S34) (hl : l.length ≤ 140737488351232) : Ev (fun k => laws_eqEntryS.f k l l) true := by
  unfold laws_eqEntryS.f
  refine Ev.pos_ rfl (eq_gen laws_eqEntryS.l0 (fun xs i hi hn h => Ev.step (fun k => ?_) h) (fun xs => Ev.step (f := fun _ => some true) (fun k => ?_) (Ev.now _)) l.length l 0 (by omega) hl)
  · have e : laws_eqEntry.f (rd_T34 xs i).f0 (rd_T34 xs i).f1 (rd_T34 xs i).f0 (rd_T34 xs i).f1 = some true := by simp [laws_eqEntry.f]
    simp only [laws_eqEntryS.l0]; rw [if_pos (by omega), if_pos (by omega), if_pos (by omega), e, wi hi hn]; rfl
  · simp only [laws_eqEntryS.l0]; rw [if_neg (by omega)]

-- part walM: logs
theorem rdE_nat (xs : List S34) (i : Nat) : rd_T34 xs (i : Int) = xs.getD i z34 := by unfold rd_T34; rw [Int.toNat_natCast]
def entriesR (l : List S34) : Nat → Nat → Int → Bool
  | 0, _, _ => true
  | d + 1, i, t => if entryB (l.getD i z34).f0 (l.getD i z34).f1 = true then (if (l.getD i z34).f0 < t then false else entriesR l d (i + 1) (l.getD i z34).f0) else false
def headB (f b : Int) (n : Nat) : Bool := inB f 1 1000000 && (inB b 0 1000000 && (((b == 0) == (f == 1)) && decide ((n : Int) ≤ 60)))
def goodWalV (f b : Int) (l : List S34) : Bool := headB f b l.length && entriesR l l.length 0 b
theorem goodWalV_head {f b : Int} {l : List S34} (h : goodWalV f b l = true) : 1 ≤ f ∧ f ≤ 1000000 ∧ 0 ≤ b ∧ b ≤ 1000000 ∧ l.length ≤ 60 := by
  unfold goodWalV headB at h
  simp only [Bool.and_eq_true, inB_iff, decide_eq_true_eq] at h
  omega

-- part specWal needs spec_GoodWal.f
theorem spec_wal_l (f b : Int) (l : List S34) (hl : l.length ≤ 140737488351232) : ∀ (d i : Nat) (t : Int), i + d = l.length → Ev (fun k => spec_GoodWal.l0 k t l (l.length : Int) i f b l) (entriesR l d i t && headB f b l.length) := by
  intro d
  induction d with
  | zero =>
    intro i t hi
    refine Ev.step (fun k => by rw [spec_GoodWal.l0]) ?_
    refine Ev.neg_ (by omega) ?_
    simp only [spec_in, Option.bind_some, bo_and, entriesR, Bool.true_and]
    exact Ev.now _
  | succ d ih =>
    intro i t hi
    unfold entriesR
    have hn := ih (i + 1) (l.getD i z34).f0 (by omega)
    refine Ev.step (fun k => by rw [spec_GoodWal.l0]) ?_
    refine Ev.pos_ (by omega) (Ev.pos_ (by omega) (Ev.pos_ (by omega) ?_))
    simp only [rdE_nat, spec_entry, Option.bind_some, wi (show i < l.length by omega) hl]
    by_cases h : entryB (l.getD i z34).f0 (l.getD i z34).f1 = true
    · simp only [if_pos h]
      by_cases h2 : (l.getD i z34).f0 < t
      · simp only [if_pos h2]; exact Ev.now _
      · simp only [if_neg h2]; exact hn
    · simp only [if_neg h]; exact Ev.now _
theorem spec_wal (f b : Int) (l : List S34) (hl : l.length ≤ 140737488351232) : Ev (fun k => spec_GoodWal.f k f b l) (goodWalV f b l) := by
  unfold goodWalV; rw [Bool.and_comm]
  exact spec_wal_l f b l hl l.length 0 b (by omega)

-- part implWal needs impl_GoodWal.f
theorem impl_wal_l (l : List S34) (hl : l.length ≤ 140737488351232) : ∀ (d i : Nat) (t : Int), i + d = l.length → Ev (fun k => impl_GoodWal.l0 k t l (l.length : Int) i) (entriesR l d i t) := by
  intro d
  induction d with
  | zero =>
    intro i t hi
    refine Ev.step (fun k => by rw [impl_GoodWal.l0]) ?_
    exact Ev.neg_ (by omega) (Ev.now _)
  | succ d ih =>
    intro i t hi
    unfold entriesR
    have hn := ih (i + 1) (l.getD i z34).f0 (by omega)
    refine Ev.step (fun k => by rw [impl_GoodWal.l0]) ?_
    refine Ev.pos_ (by omega) (Ev.pos_ (by omega) (Ev.pos_ (by omega) ?_))
    simp only [rdE_nat, impl_entry, Option.bind_some, wi (show i < l.length by omega) hl]
    by_cases h : entryB (l.getD i z34).f0 (l.getD i z34).f1 = true
    · simp only [if_pos h]
      by_cases h2 : (l.getD i z34).f0 < t
      · simp only [if_pos h2]; exact Ev.now _
      · simp only [if_neg h2]; exact hn
    · simp only [if_neg h]; exact Ev.now _
theorem impl_wal (f b : Int) (l : List S34) (hl : l.length ≤ 140737488351232) : Ev (fun k => impl_GoodWal.f k f b l) (goodWalV f b l) := by
  have hx : ∀ x : Bool, Ev (fun k => impl_GoodWal.j0 k x f b l) (!x && entriesR l l.length 0 b) := by
    intro x
    refine Ev.step (fun k => by rw [impl_GoodWal.j0]) ?_
    cases x with
    | true => exact Ev.pos_ rfl (Ev.now _)
    | false => exact Ev.neg_ (by simp) (impl_wal_l l hl l.length 0 b (by omega))
  unfold impl_GoodWal.f goodWalV headB
  simp only [impl_in_, Option.bind_some]
  by_cases h1 : inB f 1 1000000 = true
  · refine Ev.pos_ h1 ?_
    by_cases h2 : inB b 0 1000000 = true
    · refine Ev.pos_ h2 ?_
      by_cases h3 : ((b == 0) != (f == 1)) = true
      · refine Ev.pos_ h3 ?_
        have h3' : ((b == 0) == (f == 1)) = false := by simpa using h3
        have := hx true
        simpa [h1, h2, h3'] using this
      · refine Ev.neg_ h3 ?_
        have h3' : ((b == 0) == (f == 1)) = true := by simpa using h3
        have := hx (decide ((l.length : Int) > 60))
        have e : (!decide ((l.length : Int) > 60)) = decide ((l.length : Int) ≤ 60) := by
          by_cases hh : (l.length : Int) > 60
          · rw [decide_eq_true hh, decide_eq_false (by omega)]; rfl
          · rw [decide_eq_false hh, decide_eq_true (by omega)]; rfl
        rw [e] at this
        simpa only [h1, h2, h3', Bool.true_and] using this
    · refine Ev.neg_ h2 ?_
      have := hx true
      simpa [h1, h2] using this
  · refine Ev.neg_ h1 ?_
    have := hx true
    simpa [h1] using this

-- part walSz needs laws_szWal.f
theorem szWal_some (f b : Int) (l : List S62) (m : Int) (hl : l.length ≤ 140737488351232) : ∃ r, Ev (fun k => laws_szWal.f k f b l m) r := by
  obtain ⟨r, hr⟩ := szEntryS_some l m hl
  by_cases h : r < 0
  · exact ⟨-1, Ev.bind hr (Ev.pos_ h (Ev.now _))⟩
  · exact ⟨r, Ev.bind hr (Ev.neg_ h (Ev.now _))⟩

-- part walTo needs laws_toWal.f
theorem toWal_ (f b : Int) (l : List S62) (hl : l.length * 16 ≤ 140737488351232 ∧ l.length ≤ 5864062014805) : Ev (fun k => laws_toWal.f k f b l) (f, b, l.map convEntry) :=
  Ev.bind (toEntryS_ l hl) (Ev.now _)

-- part walEq needs laws_eqWal.f
theorem eqWal_refl (f b : Int) (l : List S34) (hl : l.length ≤ 140737488351232) : Ev (fun k => laws_eqWal.f k f b l f b l) true := by
  unfold laws_eqWal.f
  exact Ev.pos_ rfl (Ev.pos_ rfl (Ev.bind (eqEntryS_refl l hl) (Ev.pos_ rfl (Ev.now _))))

-- part segM: a log's files
def headV (f b : Int) : ByteArray := ((⟨#[115, 101, 103]⟩ : ByteArray) ++ varB f) ++ varB b
theorem headV_size (f b : Int) : (headV f b).size ≤ 21 := by
  unfold headV
  rw [app_size, app_size]
  have h1 := varB_size f; have h2 := varB_size b
  have : (⟨#[115, 101, 103]⟩ : ByteArray).size = 3 := rfl
  omega
def segR (l : List S34) (f : Int) : Nat → Nat → List ByteArray → ByteArray → Int → List ByteArray × Bool
  | 0, _, files, cur, _ => if ((files ++ [cur]).length : Int) > 20 then ([], false) else (files ++ [cur], true)
  | d + 1, i, files, cur, t =>
    if (cur.size : Int) ≥ 200 then segR l f d (i + 1) (files ++ [cur]) (frameV (headV (f + i) t) ++ frameV (entryV (f + i) (l.getD i z34).f0 (l.getD i z34).f1)) (l.getD i z34).f0
    else segR l f d (i + 1) files (cur ++ frameV (entryV (f + i) (l.getD i z34).f0 (l.getD i z34).f1)) (l.getD i z34).f0
def segsV (f b : Int) (l : List S34) : List ByteArray × Bool :=
  if goodWalV f b l = true then segR l f l.length 0 [] (frameV (headV f b)) b else ([], false)
theorem segR_len (l : List S34) (f : Int) : ∀ (d i : Nat) (files : List ByteArray) (cur : ByteArray) (t : Int), (segR l f d i files cur t).1.length ≤ 20 := by
  intro d
  induction d with
  | zero => intro i files cur t; unfold segR; split; simp; simp only; omega
  | succ d ih => intro i files cur t; unfold segR; split <;> exact ih _ _ _ _
theorem segsV_len (f b : Int) (l : List S34) : (segsV f b l).1.length ≤ 20 := by
  unfold segsV; split; exact segR_len _ _ _ _ _ _ _; simp
def EntOk (l : List S34) : Prop := ∀ i, i < l.length → entryB (l.getD i z34).f0 (l.getD i z34).f1 = true
theorem entriesR_ok (l : List S34) : ∀ (d i : Nat) (t : Int), entriesR l d i t = true → ∀ j, i ≤ j → j < i + d → entryB (l.getD j z34).f0 (l.getD j z34).f1 = true := by
  intro d
  induction d with
  | zero => intro i t h j h1 h2; omega
  | succ d ih =>
    intro i t h j h1 h2
    unfold entriesR at h
    split at h
    · rename_i he
      split at h
      · cases h
      · by_cases e : j = i
        · subst e; exact he
        · exact ih _ _ h j (by omega) (by omega)
    · cases h
theorem goodWal_ok {f b : Int} {l : List S34} (h : goodWalV f b l = true) : EntOk l := by
  unfold goodWalV at h
  simp only [Bool.and_eq_true] at h
  exact fun i hi => entriesR_ok l _ _ _ h.2 i (by omega) (by omega)
theorem entryV_size (i t : Int) (d : ByteArray) (hd : d.size ≤ 100) : (entryV i t d).size ≤ 118 := by
  unfold entryV
  rw [app_size, app_size]
  have h1 := varB_size i; have h2 := varB_size t
  omega

-- part specSeg needs spec_SegmentsOf.f
theorem spec_head {f b : Int} (h0 : 0 ≤ f) (h1 : f ≤ 2000000) (h2 : 0 ≤ b) (h3 : b ≤ 1000000) : Ev (fun k => spec_l3Head.f k f b) (frameV (headV f b)) := by
  unfold spec_l3Head.f
  have v1 := varB_size f; have v2 := varB_size b; have v3 := headV_size f b
  refine Ev.bind (spec_var h0 (by omega)) (Ev.pos_ (by omega) (Ev.bind (spec_var h2 (by omega)) (Ev.pos_ (by omega) (Ev.bind (spec_frame _ ?_) (Ev.now _)))))
  unfold headV at v3; omega
theorem spec_seg_l (l : List S34) (f b : Int) (hf : 1 ≤ f) (hf' : f ≤ 1000000) (hl : l.length ≤ 60) (ho : EntOk l) : ∀ (d i : Nat) (files : List ByteArray) (cur : ByteArray) (t : Int), i + d = l.length → files.length ≤ i → cur.size ≤ (i + 1) * 200 → (0 ≤ t ∧ t ≤ 1000000) →
    (i = 0 → cur.size < 200) → (0 < i → t = (l.getD (i - 1) z34).f0) → Ev (fun k => spec_SegmentsOf.l0 k cur files l (l.length : Int) i f b l) (segR l f d i files cur t) := by
  intro d
  induction d with
  | zero =>
    intro i files cur t hi hn hs ht h0 hp
    refine Ev.step (fun k => by rw [spec_SegmentsOf.l0]) ?_
    unfold segR
    refine Ev.neg_ (by omega) (Ev.pos_ (by omega) (Ev.some_ ?_))
    exact Ev.ite_ (fun h => by rw [if_pos h]; exact Ev.now _) (fun h => by rw [if_neg h]; exact Ev.now _)
  | succ d ih =>
    intro i files cur t hi hn hs ht h0 hp
    have he := entryB_iff.1 (ho i (by omega))
    have e1 : wrap64 ((i : Int) + 1) = ((i + 1 : Nat) : Int) := by rw [w64 (by omega) (by omega)]; omega
    have eB := spec_entryBytes (f + i) (l.getD i z34).f0 (l.getD i z34).f1 (by omega)
    rw [if_pos ⟨inB_iff.2 (by omega), ho i (by omega)⟩] at eB
    have eS := entryV_size (f + i) (l.getD i z34).f0 (l.getD i z34).f1 (by omega)
    have fS := frameV_size (entryV (f + i) (l.getD i z34).f0 (l.getD i z34).f1)
    have hS := headV_size (f + i) t
    have gS := frameV_size (headV (f + i) t)
    refine Ev.step (fun k => by rw [spec_SegmentsOf.l0]) ?_
    refine Ev.pos_ (by omega) (Ev.pos_ (by omega) (Ev.pos_ (by omega) ?_))
    unfold segR
    rw [rdE_nat, e1, w64 (n := f + (i : Int)) (by omega) (by omega)]
    by_cases h : (cur.size : Int) ≥ 200
    · rw [if_pos h]
      have hi0 : 0 < i := by by_cases e : i = 0; have := h0 e; omega; omega
      refine Ev.pos_ h (Ev.pos_ (by omega) ?_)
      rw [show wrap64 ((i : Int) - 1) = ((i - 1 : Nat) : Int) by rw [w64 (by omega) (by omega)]; omega, rdE_nat, ← hp hi0]
      refine Ev.pos_ (by omega) (Ev.pos_ (by omega) (Ev.bind (spec_head (by omega) (by omega) (by omega) (by omega)) (Ev.bind eB (Ev.bind (spec_frame _ (by dsimp only; omega)) (Ev.pos_ (by dsimp only; omega) ?_)))))
      exact ih (i + 1) _ _ _ (by omega) (by simp; omega) (by rw [app_size]; (try dsimp only); omega) (by omega) (fun h => by omega) (fun _ => rfl)
    · rw [if_neg h]
      refine Ev.neg_ h (Ev.bind eB (Ev.bind (spec_frame _ (by dsimp only; omega)) (Ev.pos_ (by dsimp only; omega) ?_)))
      exact ih (i + 1) _ _ _ (by omega) (by omega) (by rw [app_size]; (try dsimp only); omega) (by omega) (fun h => by omega) (fun _ => rfl)
theorem spec_segs (f b : Int) (l : List S34) (hl : l.length ≤ 140737488351232) : Ev (fun k => spec_SegmentsOf.f k f b l) (segsV f b l) := by
  unfold spec_SegmentsOf.f segsV
  refine Ev.bind (spec_wal f b l hl) ?_
  by_cases hg : goodWalV f b l = true
  · have hh := goodWalV_head hg
    have hS := headV_size f b
    have gS := frameV_size (headV f b)
    simp only [if_pos hg]
    exact Ev.bind (spec_head (by omega) (by omega) (by omega) (by omega)) (spec_seg_l l f b (by omega) (by omega) (by omega) (goodWal_ok hg) l.length 0 [] _ b (by omega) (by simp) (by omega) (by omega) (fun _ => by omega) (fun h => by omega))
  · simp only [if_neg hg]; exact Ev.now _

-- part implSeg needs impl_SegmentsOf.f
theorem impl_head {f b : Int} (h0 : 0 ≤ f) (h1 : f ≤ 2000000) (h2 : 0 ≤ b) (h3 : b ≤ 1000000) : Ev (fun k => impl_header.f k f b) (headV f b) := by
  unfold impl_header.f
  have v1 := varB_size f; have v2 := varB_size b
  exact Ev.bind (impl_var h0 (by omega)) (Ev.pos_ (by omega) (Ev.bind (impl_var h2 (by omega)) (Ev.pos_ (by omega) (Ev.now _))))
theorem impl_seg_l (l : List S34) (f b : Int) (hf : 1 ≤ f) (hf' : f ≤ 1000000) (hl : l.length ≤ 60) (ho : EntOk l) : ∀ (d i : Nat) (files : List ByteArray) (cur : ByteArray) (t : Int), i + d = l.length → files.length ≤ i → cur.size ≤ (i + 1) * 200 → (0 ≤ t ∧ t ≤ 1000000) →
    Ev (fun k => impl_SegmentsOf.l0 k files cur t l (l.length : Int) i f b l) (segR l f d i files cur t) := by
  intro d
  induction d with
  | zero =>
    intro i files cur t hi hn hs ht
    refine Ev.step (fun k => by rw [impl_SegmentsOf.l0]) ?_
    unfold segR
    refine Ev.neg_ (by omega) (Ev.pos_ (by omega) (Ev.some_ ?_))
    exact Ev.ite_ (fun h => by rw [if_pos h]; exact Ev.now _) (fun h => by rw [if_neg h]; exact Ev.now _)
  | succ d ih =>
    intro i files cur t hi hn hs ht
    have he := entryB_iff.1 (ho i (by omega))
    have e1 : wrap64 ((i : Int) + 1) = ((i + 1 : Nat) : Int) := by rw [w64 (by omega) (by omega)]; omega
    have eB := impl_entryV (f + i) (l.getD i z34).f0 (l.getD i z34).f1 (by omega) (by omega) (by omega) (by omega) (by omega)
    have eS := entryV_size (f + i) (l.getD i z34).f0 (l.getD i z34).f1 (by omega)
    have fS := frameV_size (entryV (f + i) (l.getD i z34).f0 (l.getD i z34).f1)
    have hS := headV_size (f + i) t
    have gS := frameV_size (headV (f + i) t)
    refine Ev.step (fun k => by rw [impl_SegmentsOf.l0]) ?_
    refine Ev.pos_ (by omega) (Ev.pos_ (by omega) (Ev.pos_ (by omega) ?_))
    unfold segR
    rw [rdE_nat, e1, w64 (n := f + (i : Int)) (by omega) (by omega)]
    by_cases h : (cur.size : Int) ≥ 200
    · rw [if_pos h]
      refine Ev.pos_ h (Ev.pos_ (by omega) ?_)
      refine Ev.bind (impl_head (by omega) (by omega) (by omega) (by omega)) (Ev.bind (impl_frame_ _ (by omega)) (Ev.bind eB (Ev.bind (impl_frame_ _ (by omega)) (Ev.pos_ (by omega) ?_))))
      exact ih (i + 1) _ _ _ (by omega) (by simp; omega) (by rw [app_size]; omega) (by omega)
    · rw [if_neg h]
      refine Ev.neg_ h (Ev.bind eB (Ev.bind (impl_frame_ _ (by omega)) (Ev.pos_ (by omega) ?_)))
      exact ih (i + 1) _ _ _ (by omega) (by omega) (by rw [app_size]; omega) (by omega)
theorem impl_segs (f b : Int) (l : List S34) (hl : l.length ≤ 140737488351232) : Ev (fun k => impl_SegmentsOf.f k f b l) (segsV f b l) := by
  unfold impl_SegmentsOf.f segsV
  refine Ev.bind (impl_wal f b l hl) ?_
  by_cases hg : goodWalV f b l = true
  · have hh := goodWalV_head hg
    have hS := headV_size f b
    have gS := frameV_size (headV f b)
    simp only [if_pos hg]
    exact Ev.bind (impl_head (by omega) (by omega) (by omega) (by omega)) (Ev.bind (impl_frame_ _ (by omega)) (impl_seg_l l f b (by omega) (by omega) (by omega) (goodWal_ok hg) l.length 0 [] _ b (by omega) (by simp) (by omega) (by omega)))
  · simp only [if_neg hg]; exact Ev.now _

-- part markEntryS needs laws_markEntryS.f
theorem markEntryS_some_l : ∀ (d : Nat) (xs : List S34) (m : Int) (i : Nat), i + d = xs.length → 0 < m → m + 2 * d ≤ 4611686018427387000 → xs.length ≤ 140737488351232 → ∃ l', Ev (fun k => laws_markEntryS.l0 k xs m i) (m + 2 * d, l') := by
  intro d
  induction d with
  | zero =>
    intro xs m i hi hm hB hl
    refine ⟨xs, Ev.step (fun k => by rw [laws_markEntryS.l0]) ?_⟩
    rw [show m + 2 * ((0 : Nat) : Int) = m by omega]
    exact Ev.neg_ (by omega) (Ev.now _)
  | succ d ih =>
    intro xs m i hi hm hB hl
    obtain ⟨l', h⟩ := ih ((xs.set i ⟨m, (rd_T34 xs (i : Int)).f1⟩).set i ⟨(rd_T34 (xs.set i ⟨m, (rd_T34 xs (i : Int)).f1⟩) (i : Int)).f0, markT (m + 1)⟩) (m + 2) (i + 1) (by simp; omega) (by omega) (by omega) (by simpa using hl)
    refine ⟨l', Ev.step (fun k => by rw [laws_markEntryS.l0]) ?_⟩
    have e1 : wrap64 ((i : Int) + 1) = ((i + 1 : Nat) : Int) := by rw [w64 (by omega) (by omega)]; omega
    refine Ev.pos_ (by omega) (Ev.pos_ (by omega) (Ev.some_ ?_))
    rw [w64 (n := m + 1) (by omega) (by omega), w64 (n := m + 1 + 1) (by omega) (by omega), e1]
    refine Ev.bind (markText_ (by omega) (by omega)) ?_
    rw [Int.toNat_natCast, show m + 1 + 1 = m + 2 by omega, show m + 2 * ((d + 1 : Nat) : Int) = m + 2 + 2 * (d : Int) by omega]
    exact h
theorem markEntryS_some (xs : List S34) (hl : xs.length ≤ 140737488351232) : ∃ r l', Ev (fun k => laws_markEntryS.f k xs 1) (r, l') ∧ 0 ≤ r := by
  obtain ⟨l', h⟩ := markEntryS_some_l xs.length xs 1 0 (by omega) (by omega) (by omega) hl
  exact ⟨_, l', h, by omega⟩

theorem markWal_some (f b : Int) (l : List S34) (hl : l.length ≤ 140737488351232) : ∃ r l', Ev (fun k => laws_markWal.f k f b l 1) (r, l') ∧ 0 ≤ r := by
  obtain ⟨r, l', h, hr⟩ := markEntryS_some l hl
  exact ⟨r, l', Ev.bind h (Ev.now _), hr⟩
theorem FnExactSegmentsOf (f b : Int) (l : List S62) (hb : (Lit.int .i64 f).wf = true ∧ (Lit.int .i64 b).wf = true ∧ l.length * 24 ≤ 140737488351232 ∧ ∀ x ∈ l, (Lit.int .i64 x.f0).wf = true ∧ x.f1.size ≤ 140737488351232) : ∃ k, laws_FnExactSegmentsOf.f k f b l = some true := by
  apply Ev.rounds (r := true)
  obtain ⟨z, hz⟩ := szWal_some f b l 1048576 (by omega)
  have ht := toWal_ f b l (by omega)
  have hl : (l.map convEntry).length ≤ 140737488351232 := by simp; omega
  obtain ⟨r, l', hm, hr⟩ := markWal_some f b _ hl
  have hn := segsV_len f b (l.map convEntry)
  have he := eqStringS_refl (segsV f b (l.map convEntry)).1 (by omega)
  obtain ⟨r2, l2, g1, g2, g3⟩ := markheldStringS (segsV f b (l.map convEntry)).1 (by omega)
  have hi := impl_segs f b _ hl
  unfold laws_FnExactSegmentsOf.f
  refine Ev.bind hz (Ev.ite_ (fun _ => Ev.now _) (fun _ => ?_))
  refine Ev.bind ht (Ev.bind (spec_segs f b _ hl) (Ev.bind ht (Ev.bind hi (Ev.bind he (Ev.pos_ rfl ?_)))))
  simp only [bne_self_eq_false]
  refine Ev.step (fun k => by rw [laws_FnExactSegmentsOf.j0]) ?_
  refine Ev.neg_ (by decide) (Ev.bind ht (Ev.bind (eqWal_refl f b _ hl) (Ev.pos_ rfl (Ev.bind hm (Ev.neg_ (by simp only; omega) (Ev.bind he (Ev.pos_ rfl ?_)))))))
  simp only [bne_self_eq_false]
  refine Ev.step (fun k => by rw [laws_FnExactSegmentsOf.j1]) ?_
  refine Ev.neg_ (by decide) (Ev.bind g1 (Ev.bind g2 (Ev.neg_ (by omega) (Ev.pos_ rfl (Ev.bind ht (Ev.bind hi (Ev.bind he (Ev.pos_ rfl ?_))))))))
  simp only [bne_self_eq_false]
  refine Ev.step (fun k => by rw [laws_FnExactSegmentsOf.j2]) ?_
  exact Ev.neg_ (by decide) (Ev.bind g2 (Ev.neg_ (by omega) (Ev.pos_ rfl (Ev.now _))))

end Go.Proofs.Ytadjlanndlbcdaa.Pure
