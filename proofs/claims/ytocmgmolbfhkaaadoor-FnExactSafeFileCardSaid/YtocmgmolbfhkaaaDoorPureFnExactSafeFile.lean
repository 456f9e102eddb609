/-
  The plain statement of the law FnExactSafeFile, proved: over numbers and lists alone. No condition beyond the given ones.
-/
import Derived.Test.YtocmgmolbfhkaaaDoorMFnExactSafeFilex11
namespace Go.Proofs.YtocmgmolbfhkaaaDoor.Pure
open Go Go.RowKit Go.Proofs.YtocmgmolbfhkaaaDoor.MFnExactSafeFile Go.Proofs.YtocmgmolbfhkaaaDoorW.PrintWords Go.Proofs.YtocmgmolbfhkaaaDoorW.PrintLast Go.Proofs.YtocmgmolbfhkaaaDoorW.PrintMore
set_option linter.unusedVariables false
set_option linter.unusedSimpArgs false

-- part base: plain facts on Go's numbers and on rounds
theorem lt_mn {i a b : Int} : i < mn a b ↔ i < a ∧ i < b := by unfold mn; split <;> omega
theorem mn_le {a b : Int} : mn a b ≤ a ∧ mn a b ≤ b := by unfold mn; split <;> omega
theorem w64 {n : Int} (h0 : -9223372036854775808 ≤ n) (h1 : n ≤ 9223372036854775807) : wrap64 n = n := by unfold wrap64; omega
theorem wrap_u64 (n : Int) : IntKind.u64.wrap n = n % 18446744073709551616 := by simp [IntKind.wrap, IntKind.bits, IntKind.signed]
theorem wu64 {n : Int} (h0 : 0 ≤ n) (h1 : n ≤ 18446744073709551615) : IntKind.u64.wrap n = n := by rw [wrap_u64]; omega
theorem wu32 {n : Int} (h0 : 0 ≤ n) (h1 : n ≤ 4294967295) : IntKind.u32.wrap n = n := by rw [IntKind.wrap_u32]; omega
theorem wraps_u32 (n : Int) (h₀ : 0 ≤ n) (h₁ : n < 2 ^ 32) : IntKind.u32.wrap n = n := by rw [IntKind.wrap_u32]; omega
theorem wraps_i64 (n : Int) (h₀ : 0 ≤ n) (h₁ : n < 2 ^ 63) : IntKind.i64.wrap n = n := by rw [IntKind.wrap_i64]; omega
theorem and127 {b : Int} (h0 : 0 ≤ b) (h1 : b ≤ 255) : Go.bits .and .u8 b 127 = b % 128 := bits_mask .u8 8 (by decide) wraps_u8 7 (by decide) b h0 (by omega)
theorem wf_i64 {n : Int} (h : (Lit.int .i64 n).wf = true) : -9223372036854775808 ≤ n ∧ n ≤ 9223372036854775807 := by
  simp only [Lit.wf, Bool.and_eq_true, decide_eq_true_eq] at h
  exact h
theorem wf_u32 {n : Int} (h : (Lit.int .u32 n).wf = true) : 0 ≤ n ∧ n ≤ 4294967295 := by
  simp only [Lit.wf, Bool.and_eq_true, decide_eq_true_eq] at h
  exact h
theorem bits_or_comm (k : IntKind) (x y : Int) : Go.bits .or k x y = Go.bits .or k y x := by
  simp only [Go.bits, BitVec.or_comm]
theorem and127i {b : Int} (h0 : 0 ≤ b) (h1 : b ≤ 9223372036854775807) : Go.bits .and .i64 b 127 = b % 128 := bits_mask .i64 63 (by decide) wraps_i64 7 (by decide) b h0 (by omega)
theorem or128i {b : Int} (h0 : 0 ≤ b) (h1 : b < 128) : Go.bits .or .i64 b 128 = b + 128 := by
  rw [bits_or_comm, bits_join .i64 63 (by decide) wraps_i64 7 128 b (by omega) (by omega) (by omega) h0 (by omega) (by omega)]; omega
theorem Ev.ite_ {α : Type} {c : Prop} [Decidable c] {g f : Nat → Option α} {r : α} (h : c → Ev g r) (k : ¬c → Ev f r) : Ev (fun n => if c then g n else f n) r := by
  by_cases hc : c
  · simp only [if_pos hc]; exact h hc
  · simp only [if_neg hc]; exact k hc
theorem Ev.pos_ {α : Type} {c : Prop} [Decidable c] {g f : Nat → Option α} {r : α} (hc : c) (h : Ev g r) : Ev (fun n => if c then g n else f n) r := by simp only [if_pos hc]; exact h
theorem Ev.neg_ {α : Type} {c : Prop} [Decidable c] {g f : Nat → Option α} {r : α} (hc : ¬c) (h : Ev f r) : Ev (fun n => if c then g n else f n) r := by simp only [if_neg hc]; exact h
theorem Ev.some_ {α β : Type} {f : Nat → α → Option β} {x : α} {r : β} (h : Ev (fun n => f n x) r) : Ev (fun n => (some x).bind (f n)) r := by simpa only [Option.bind_some] using h
theorem bo_and (b c : Bool) : (if b = true then some c else some false) = some (b && c) := by cases b <;> rfl
theorem bo_andP (p : Prop) [Decidable p] (c : Bool) : (if p then some c else some false) = some (decide p && c) := by by_cases h : p <;> simp [h]
theorem bo_orP (p : Prop) [Decidable p] (c : Bool) : (if p then some true else some c) = some (decide p || c) := by by_cases h : p <;> simp [h]
theorem bo_or (b c : Bool) : (if b = true then some true else some c) = some (b || c) := by cases b <;> rfl
def inB (a lo hi : Int) : Bool := decide (lo ≤ a) && decide (a ≤ hi)
theorem inB_iff {a lo hi : Int} : inB a lo hi = true ↔ lo ≤ a ∧ a ≤ hi := by simp [inB]

-- part listM: loops over lists by their index
def mkL {α : Type} (enc : Int → α) (c : Int) : Nat → Int → List α
  | 0, _ => []
  | d + 1, m => enc m :: mkL enc c d (m + c)
theorem mkL_len {α : Type} (enc : Int → α) (c : Int) : ∀ (d : Nat) (m : Int), (mkL enc c d m).length = d := by
  intro d; induction d with
  | zero => intro m; rfl
  | succ d ih => intro m; simp [mkL, ih]
theorem mark_gen {α : Type} (L : Nat → List α → Int → Int → Option (Int × List α)) (enc : Int → α) (c B : Int) (hc : 0 ≤ c)
    (hstep : ∀ (xs : List α) (m : Int) (i : Nat) (r : Int × List α), 0 < m → m + c ≤ B → i < xs.length → xs.length ≤ 140737488351232 → Ev (fun k => L k (xs.set i (enc m)) (m + c) ((i + 1 : Nat) : Int)) r → Ev (fun k => L k xs m (i : Int)) r)
    (hend : ∀ (xs : List α) (m : Int), Ev (fun k => L k xs m (xs.length : Int)) (m, xs)) :
    ∀ (d : Nat) (xs : List α) (m : Int) (i : Nat), i + d = xs.length → 0 < m → m + c * d ≤ B → xs.length ≤ 140737488351232 → Ev (fun k => L k xs m (i : Int)) (m + c * d, xs.take i ++ mkL enc c d m) := by
  intro d
  induction d with
  | zero =>
    intro xs m i hi hm hB hl
    have := hend xs m
    obtain rfl : i = xs.length := by omega
    simpa [mkL] using this
  | succ d ih =>
    intro xs m i hi hm hB hl
    have hcd : c * ((d + 1 : Nat) : Int) = c * d + c := by rw [Int.natCast_add, Int.mul_add]; simp
    have hcd0 : 0 ≤ c * (d : Int) := Int.mul_nonneg hc (by omega)
    refine hstep xs m i _ hm (by omega) (by omega) hl ?_
    have := ih (xs.set i (enc m)) (m + c) (i + 1) (by simp; omega) (by omega) (by omega) (by simpa using hl)
    have e : (xs.set i (enc m)).take (i + 1) ++ mkL enc c d (m + c) = xs.take i ++ mkL enc c (d + 1) m := by
      rw [List.take_set, List.take_succ_eq_append_getElem (by omega), List.set_append_right _ _ (by simp; omega)]
      simp [mkL, Nat.min_eq_left (show i ≤ xs.length by omega)]
    rw [e] at this
    rw [show m + c * ((d + 1 : Nat) : Int) = m + c + c * d by omega]
    exact this
theorem held_gen {α : Type} (H : Nat → List α → Int → Int → Option Int) (enc : Int → α) (c B : Int) (hc : 0 ≤ c)
    (hstep : ∀ (xs : List α) (m : Int) (i : Nat) (r : Int), 0 < m → m + c ≤ B → i < xs.length → xs.length ≤ 140737488351232 → xs[i]? = some (enc m) → Ev (fun k => H k xs (m + c) ((i + 1 : Nat) : Int)) r → Ev (fun k => H k xs m (i : Int)) r)
    (hend : ∀ (xs : List α) (m : Int), Ev (fun k => H k xs m (xs.length : Int)) m) :
    ∀ (d : Nat) (pre : List α) (m : Int), 0 < m → m + c * d ≤ B → pre.length + d ≤ 140737488351232 → Ev (fun k => H k (pre ++ mkL enc c d m) m (pre.length : Int)) (m + c * d) := by
  intro d
  induction d with
  | zero =>
    intro pre m hm hB hl
    have := hend pre m
    simpa [mkL] using this
  | succ d ih =>
    intro pre m hm hB hl
    have hcd : c * ((d + 1 : Nat) : Int) = c * d + c := by rw [Int.natCast_add, Int.mul_add]; simp
    have hcd0 : 0 ≤ c * (d : Int) := Int.mul_nonneg hc (by omega)
    refine hstep _ m pre.length _ hm (by omega) (by simp [mkL]) (by simp [mkL_len]; omega) (by simp [mkL]) ?_
    have := ih (pre ++ [enc m]) (m + c) (by omega) (by omega) (by simp; omega)
    rw [show m + c * ((d + 1 : Nat) : Int) = m + c + c * d by omega]
    simpa [mkL] using this
theorem to_gen {α β : Type} (L : Nat → List α → List β → Int → Option (List β)) (f : α → β) (z : β) (za : α)
    (hstep : ∀ (xs : List α) (ys : List β) (i : Nat) (r : List β), i < xs.length → i < ys.length → xs.length ≤ 140737488351232 → Ev (fun k => L k xs (ys.set i (f (xs.getD i za))) ((i + 1 : Nat) : Int)) r → Ev (fun k => L k xs ys (i : Int)) r)
    (hend : ∀ (xs : List α) (ys : List β), Ev (fun k => L k xs ys (xs.length : Int)) ys) :
    ∀ (d : Nat) (xs : List α) (i : Nat), i + d = xs.length → xs.length ≤ 140737488351232 → Ev (fun k => L k xs ((xs.take i).map f ++ List.replicate d z) (i : Int)) (xs.map f) := by
  intro d
  induction d with
  | zero =>
    intro xs i hi hl
    obtain rfl : i = xs.length := by omega
    have := hend xs (xs.map f)
    simpa using this
  | succ d ih =>
    intro xs i hi hl
    refine hstep xs _ i _ (by omega) (by simp; omega) hl ?_
    have := ih xs (i + 1) (by omega) hl
    have e : ((xs.take i).map f ++ List.replicate (d + 1) z).set i (f (xs.getD i za)) = (xs.take (i + 1)).map f ++ List.replicate d z := by
      have h0 : i - ((xs.take i).map f).length = 0 := by simp; omega
      rw [List.take_succ_eq_append_getElem (show i < xs.length by omega), List.map_append, List.set_append_right _ _ (by simp; omega), List.append_assoc, h0]
      congr 1
      simp [List.replicate_succ, List.getD_eq_getElem?_getD, List.getElem?_eq_getElem (show i < xs.length by omega)]
    rw [e]
    exact this
theorem eq_gen {α : Type} (E : Nat → List α → List α → Int → Option Bool)
    (hstep : ∀ (xs : List α) (i : Nat), i < xs.length → xs.length ≤ 140737488351232 → Ev (fun k => E k xs xs ((i + 1 : Nat) : Int)) true → Ev (fun k => E k xs xs (i : Int)) true)
    (hend : ∀ (xs : List α), Ev (fun k => E k xs xs (xs.length : Int)) true) :
    ∀ (d : Nat) (xs : List α) (i : Nat), i + d = xs.length → xs.length ≤ 140737488351232 → Ev (fun k => E k xs xs (i : Int)) true := by
  intro d
  induction d with
  | zero => intro xs i hi hl; obtain rfl : i = xs.length := by omega
            exact hend xs
  | succ d ih => intro xs i hi hl; exact hstep xs i (by omega) hl (ih xs (i + 1) (by omega) hl)
theorem sz_gen {α : Type} (Z : Nat → List α → Int → Int → Option Int)
    (hstep : ∀ (xs : List α) (m : Int) (i : Nat), i < xs.length → xs.length ≤ 140737488351232 → (∀ m', ∃ r, Ev (fun k => Z k xs m' ((i + 1 : Nat) : Int)) r) → ∃ r, Ev (fun k => Z k xs m (i : Int)) r)
    (hend : ∀ (xs : List α) (m : Int), ∃ r, Ev (fun k => Z k xs m (xs.length : Int)) r) :
    ∀ (d : Nat) (xs : List α) (m : Int) (i : Nat), i + d = xs.length → xs.length ≤ 140737488351232 → ∃ r, Ev (fun k => Z k xs m (i : Int)) r := by
  intro d
  induction d with
  | zero => intro xs m i hi hl; obtain rfl : i = xs.length := by omega
            exact hend xs m
  | succ d ih => intro xs m i hi hl; exact hstep xs m i (by omega) hl (fun m' => ih xs m' (i + 1) (by omega) hl)
theorem wi {i n : Nat} (h : i < n) (hn : n ≤ 140737488351232) : wrap64 ((i : Int) + 1) = ((i + 1 : Nat) : Int) := by rw [w64 (by omega) (by omega)]; omega
theorem rd_nat (xs : List Int) (i : Nat) : rd xs (i : Int) = xs.getD i 0 := by unfold rd; rw [Int.toNat_natCast]
theorem rdOf_nat {α : Type} (d : α) (xs : List α) (i : Nat) : rdOf d xs (i : Int) = xs.getD i d := by unfold rdOf; rw [Int.toNat_natCast]
theorem getD_of {α : Type} {xs : List α} {i : Nat} {a : α} (d : α) (h : xs[i]? = some a) : xs.getD i d = a := by rw [List.getD_eq_getElem?_getD, h]; rfl

-- part specIn needs spec_l1In.f
theorem spec_in (a lo hi : Int) : spec_l1In.f a lo hi = some (inB a lo hi) := by
  unfold spec_l1In.f inB; rw [bo_andP]

-- part implIn needs impl_in.f
theorem impl_in_ (a lo hi : Int) : impl_in.f a lo hi = some (inB a lo hi) := by
  unfold impl_in.f inB; rw [bo_andP]

-- part cmpM: items by their order
def cmpV (k1 : ByteArray) (q1 : Int) (k2 : ByteArray) (q2 : Int) : Int :=
  if Op.bytesLess k1.toList k2.toList = true then -1 else if k1.toList = k2.toList then (if q1 > q2 then -1 else if q1 = q2 then 0 else 1) else 1
theorem less_irrefl (a : List UInt8) : Op.bytesLess a a = false := by
  have := Go.Proofs.YtocmgmolbfhkaaaDoorX.less_of a a
  cases h : Op.bytesLess a a <;> simp_all
theorem less_eq {a b : List UInt8} (h1 : ¬ Op.bytesLess a b = true) (h2 : ¬ Op.bytesLess b a = true) : a = b := by
  have := Go.Proofs.YtocmgmolbfhkaaaDoorX.less_of a b
  cases h3 : Op.bytesLess a b <;> simp_all

-- part toNameS needs laws_toNameS.f
def convName (a : S71) : S63 := ⟨a.f0, a.f1⟩
theorem rd_T71_nat (xs : List S71) (i : Nat) : rd_T71 xs (i : Int) = xs.getD i z71 := by unfold rd_T71; rw [Int.toNat_natCast]
theorem toNameS_ (l : List S71) (hl : l.length * 16 ≤ 140737488351232 ∧ l.length ≤ 5864062014805) : Ev (fun k => laws_toNameS.f k l) (l.map convName) := by
  unfold laws_toNameS.f
  refine Ev.pos_ (by omega) (Ev.pos_ (by omega) ?_)
  have := to_gen laws_toNameS.l0 convName z63 z71 (fun xs ys i r hi hy hn h => ?_) (fun xs ys => Ev.step (f := fun _ => some ys) (fun k => ?_) (Ev.now _)) l.length l 0 (by omega) (by omega)
  · simpa using this
  · refine Ev.step (fun k => by rw [laws_toNameS.l0]) ?_
    refine Ev.pos_ (by omega) (Ev.pos_ (by omega) ?_)
    simp only [laws_toName.f, Option.bind_some]
    refine Ev.pos_ (by omega) ?_
    simp only [wi hi hn, Int.toNat_natCast, rd_T71_nat]; exact h
  · simp only [laws_toNameS.l0]; rw [if_neg (by omega)]

-- part toBlobS needs laws_toBlobS.f
def convBlob (a : S69) : S49 := ⟨a.f0, a.f1⟩
theorem rd_T69_nat (xs : List S69) (i : Nat) : rd_T69 xs (i : Int) = xs.getD i z69 := by unfold rd_T69; rw [Int.toNat_natCast]
theorem toBlobS_ (l : List S69) (hl : l.length * 16 ≤ 140737488351232 ∧ l.length ≤ 5864062014805) : Ev (fun k => laws_toBlobS.f k l) (l.map convBlob) := by
  unfold laws_toBlobS.f
  refine Ev.pos_ (by omega) (Ev.pos_ (by omega) ?_)
  have := to_gen laws_toBlobS.l0 convBlob z49 z69 (fun xs ys i r hi hy hn h => ?_) (fun xs ys => Ev.step (f := fun _ => some ys) (fun k => ?_) (Ev.now _)) l.length l 0 (by omega) (by omega)
  · simpa using this
  · refine Ev.step (fun k => by rw [laws_toBlobS.l0]) ?_
    refine Ev.pos_ (by omega) (Ev.pos_ (by omega) ?_)
    simp only [laws_toBlob.f, Option.bind_some]
    refine Ev.pos_ (by omega) ?_
    simp only [wi hi hn, Int.toNat_natCast, rd_T69_nat]; exact h
  · simp only [laws_toBlobS.l0]; rw [if_neg (by omega)]

-- part szNameS needs laws_szNameS.f
theorem szName_some (f0 f1) (m : Int) : ∃ r, laws_szName.f f0 f1 m = some r := by
  unfold laws_szName.f
  repeat' first | exact ⟨_, rfl⟩ | split
theorem szNameS_some (l : List S71) (m : Int) (hl : l.length ≤ 140737488351232) : ∃ r, Ev (fun k => laws_szNameS.f k l m) r := by
  unfold laws_szNameS.f
  by_cases h : wrap64 (m - (l.length : Int)) < 0
  · exact ⟨-1, Ev.pos_ h (Ev.now _)⟩
  · have := sz_gen laws_szNameS.l0 (fun xs m i hi hn h => ?_) (fun xs m => ⟨m, Ev.step (f := fun _ => some m) (fun k => ?_) (Ev.now _)⟩) l.length l (wrap64 (m - (l.length : Int))) 0 (by omega) hl
    · obtain ⟨r, hr⟩ := this
      exact ⟨r, Ev.neg_ h (by simpa using hr)⟩
    · obtain ⟨r, e⟩ := szName_some (rd_T71 xs i).f0 (rd_T71 xs i).f1 m
      by_cases hr : r < 0
      · refine ⟨-1, ?_⟩
        refine Ev.step (fun k => by rw [laws_szNameS.l0]) ?_
        refine Ev.pos_ (by omega) (Ev.pos_ (by omega) ?_)
        simp only [e, Option.bind_some]
        exact Ev.pos_ hr (Ev.now _)
      · obtain ⟨q, hq⟩ := h r
        refine ⟨q, ?_⟩
        refine Ev.step (fun k => by rw [laws_szNameS.l0]) ?_
        refine Ev.pos_ (by omega) (Ev.pos_ (by omega) ?_)
        simp only [e, Option.bind_some]
        refine Ev.neg_ hr ?_
        simp only [wi hi hn]; exact hq
    · simp only [laws_szNameS.l0]; rw [if_neg (by omega)]

-- part szBlobS needs laws_szBlobS.f
theorem szBlob_some (f0 f1) (m : Int) : ∃ r, laws_szBlob.f f0 f1 m = some r := by
  unfold laws_szBlob.f
  repeat' first | exact ⟨_, rfl⟩ | split
theorem szBlobS_some (l : List S69) (m : Int) (hl : l.length ≤ 140737488351232) : ∃ r, Ev (fun k => laws_szBlobS.f k l m) r := by
  unfold laws_szBlobS.f
  by_cases h : wrap64 (m - (l.length : Int)) < 0
  · exact ⟨-1, Ev.pos_ h (Ev.now _)⟩
  · have := sz_gen laws_szBlobS.l0 (fun xs m i hi hn h => ?_) (fun xs m => ⟨m, Ev.step (f := fun _ => some m) (fun k => ?_) (Ev.now _)⟩) l.length l (wrap64 (m - (l.length : Int))) 0 (by omega) hl
    · obtain ⟨r, hr⟩ := this
      exact ⟨r, Ev.neg_ h (by simpa using hr)⟩
    · obtain ⟨r, e⟩ := szBlob_some (rd_T69 xs i).f0 (rd_T69 xs i).f1 m
      by_cases hr : r < 0
      · refine ⟨-1, ?_⟩
        refine Ev.step (fun k => by rw [laws_szBlobS.l0]) ?_
        refine Ev.pos_ (by omega) (Ev.pos_ (by omega) ?_)
        simp only [e, Option.bind_some]
        exact Ev.pos_ hr (Ev.now _)
      · obtain ⟨q, hq⟩ := h r
        refine ⟨q, ?_⟩
        refine Ev.step (fun k => by rw [laws_szBlobS.l0]) ?_
        refine Ev.pos_ (by omega) (Ev.pos_ (by omega) ?_)
        simp only [e, Option.bind_some]
        refine Ev.neg_ hr ?_
        simp only [wi hi hn]; exact hq
    · simp only [laws_szBlobS.l0]; rw [if_neg (by omega)]

-- part eqNameS needs laws_eqNameS.f
theorem eqNameS_refl (l : List S63) (hl : l.length ≤ 140737488351232) : Ev (fun k => laws_eqNameS.f k l l) true := by
  unfold laws_eqNameS.f
  refine Ev.pos_ rfl (eq_gen laws_eqNameS.l0 (fun xs i hi hn h => Ev.step (fun k => ?_) h) (fun xs => Ev.step (f := fun _ => some true) (fun k => ?_) (Ev.now _)) l.length l 0 (by omega) hl)
  · have e : laws_eqName.f (rd_T63 xs i).f0 (rd_T63 xs i).f1 (rd_T63 xs i).f0 (rd_T63 xs i).f1 = some true := by simp [laws_eqName.f]
    simp only [laws_eqNameS.l0]; rw [if_pos (by omega), if_pos (by omega), if_pos (by omega), e, wi hi hn]; rfl
  · simp only [laws_eqNameS.l0]; rw [if_neg (by omega)]

-- part eqBlobS needs laws_eqBlobS.f
theorem eqBlobS_refl (l : List S49) (hl : l.length ≤ 140737488351232) : Ev (fun k => laws_eqBlobS.f k l l) true := by
  unfold laws_eqBlobS.f
  refine Ev.pos_ rfl (eq_gen laws_eqBlobS.l0 (fun xs i hi hn h => Ev.step (fun k => ?_) h) (fun xs => Ev.step (f := fun _ => some true) (fun k => ?_) (Ev.now _)) l.length l 0 (by omega) hl)
  · have e : laws_eqBlob.f (rd_T49 xs i).f0 (rd_T49 xs i).f1 (rd_T49 xs i).f0 (rd_T49 xs i).f1 = some true := by simp [laws_eqBlob.f]
    simp only [laws_eqBlobS.l0]; rw [if_pos (by omega), if_pos (by omega), if_pos (by omega), e, wi hi hn]; rfl
  · simp only [laws_eqBlobS.l0]; rw [if_neg (by omega)]

-- part orderM: the order of items
theorem less_trans : ∀ a b c : List UInt8, Op.bytesLess a b = true → Op.bytesLess b c = true → Op.bytesLess a c = true := by
  intro a
  induction a with
  | nil =>
    intro b c h1 h2
    cases c with
    | nil => cases b <;> simp [Op.bytesLess] at h2
    | cons z c => rfl
  | cons x a ih =>
    intro b c h1 h2
    cases b with
    | nil => simp [Op.bytesLess] at h1
    | cons y b =>
      cases c with
      | nil => simp [Op.bytesLess] at h2
      | cons z c =>
        simp only [Op.bytesLess, Bool.or_eq_true, Bool.and_eq_true, decide_eq_true_eq, beq_iff_eq] at h1 h2 ⊢
        rcases h1 with h1 | ⟨rfl, h1⟩
        · rcases h2 with h2 | ⟨rfl, h2⟩
          · exact .inl (UInt8.lt_trans h1 h2)
          · exact .inl h1
        · rcases h2 with h2 | ⟨rfl, h2⟩
          · exact .inl h2
          · exact .inr ⟨rfl, ih b c h1 h2⟩
theorem cmpV_neg {k1 k2 : ByteArray} {q1 q2 : Int} : cmpV k1 q1 k2 q2 < 0 ↔ Op.bytesLess k1.toList k2.toList = true ∨ (k1.toList = k2.toList ∧ q1 > q2) := by
  unfold cmpV
  by_cases h1 : Op.bytesLess k1.toList k2.toList = true
  · rw [if_pos h1]; exact ⟨fun _ => .inl h1, fun _ => by omega⟩
  · rw [if_neg h1]
    by_cases h2 : k1.toList = k2.toList
    · rw [if_pos h2]
      by_cases h3 : q1 > q2
      · rw [if_pos h3]; exact ⟨fun _ => .inr ⟨h2, h3⟩, fun _ => by omega⟩
      · rw [if_neg h3]
        refine ⟨fun h => ?_, fun h => ?_⟩
        · by_cases h4 : q1 = q2
          · rw [if_pos h4] at h; omega
          · rw [if_neg h4] at h; omega
        · rcases h with h | ⟨_, h⟩
          · exact absurd h h1
          · exact absurd h h3
    · rw [if_neg h2]
      refine ⟨fun h => by omega, fun h => ?_⟩
      rcases h with h | ⟨h, _⟩
      · exact absurd h h1
      · exact absurd h h2
theorem cmpV_trans {k1 k2 k3 : ByteArray} {q1 q2 q3 : Int} (h1 : cmpV k1 q1 k2 q2 < 0) (h2 : cmpV k2 q2 k3 q3 < 0) : cmpV k1 q1 k3 q3 < 0 := by
  rw [cmpV_neg] at h1 h2 ⊢
  rcases h1 with h1 | ⟨e1, h1⟩
  · rcases h2 with h2 | ⟨e2, h2⟩
    · exact .inl (less_trans _ _ _ h1 h2)
    · rw [e2] at h1; exact .inl h1
  · rcases h2 with h2 | ⟨e2, h2⟩
    · rw [e1]; exact .inl h2
    · exact .inr ⟨e1.trans e2, by omega⟩

-- part diskM
def okI (v : Int) : Bool := (decide (97 ≤ v) && decide (v ≤ 122)) || ((decide (48 ≤ v) && decide (v ≤ 57)) || v == 46)
theorem okI_if {α : Type} (v : Int) (J : Bool → α) : (if v ≥ 97 then (if v ≤ 122 then J (!true) else (if v ≥ 48 then (if v ≤ 57 then J (!true) else J (!(v == 46))) else J (!(v == 46)))) else (if v ≥ 48 then (if v ≤ 57 then J (!true) else J (!(v == 46))) else J (!(v == 46)))) = J (!okI v) := by
  by_cases h1 : 97 ≤ v <;> by_cases h2 : v ≤ 122 <;> by_cases h3 : 48 ≤ v <;> by_cases h4 : v ≤ 57 <;> simp [okI, h1, h2, h3, h4]
def fileB (s : ByteArray) : Bool := s.data.toList.all (fun b => okI (b.toNat : Int)) && inB (s.size : Int) 1 12
theorem bt_data (s : ByteArray) (i : Nat) (h : i < s.data.toList.length) : bt s (i : Int) = ((s.data.toList[i]).toNat : Int) := by
  have h' : i < s.size := by simpa using h
  unfold bt
  rw [dif_pos (by simpa using h')]
  simp [ByteArray.getElem_eq_getElem_data]
def badAt (nb : Int) (l : List S63) (i : Nat) : Bool := !(fileB (l.getD i z63).f0 && (inB (l.getD i z63).f1 0 (nb - 1) && (decide (i = 0) || Op.bytesLess (l.getD (i - 1) z63).f0.toList (l.getD i z63).f0.toList)))
def namesV (nb : Int) (l : List S63) : Nat → Nat → Bool
  | 0, _ => decide ((l.length : Int) ≤ 20)
  | d + 1, i => if badAt nb l i = true then false else namesV nb l d (i + 1)
def namesB (nb : Int) (l : List S63) : Bool := namesV nb l l.length 0
theorem rd_N_nat (xs : List S63) (i : Nat) : rd_T63 xs (i : Int) = xs.getD i z63 := by unfold rd_T63; rw [Int.toNat_natCast]
theorem rd_B_nat (xs : List S49) (i : Nat) : rd_T49 xs (i : Int) = xs.getD i z49 := by unfold rd_T49; rw [Int.toNat_natCast]
theorem namesV_facts (nb : Int) (l : List S63) : ∀ (d i : Nat), i + d = l.length → namesV nb l d i = true → l.length ≤ 20 ∧ ∀ j, i ≤ j → j < l.length → badAt nb l j = false := by
  intro d
  induction d with
  | zero =>
    intro i hi h
    simp only [namesV, decide_eq_true_eq] at h
    exact ⟨by omega, fun j h1 h2 => by omega⟩
  | succ d ih =>
    intro i hi h
    unfold namesV at h
    by_cases hb : badAt nb l i = true
    · rw [if_pos hb] at h; exact absurd h (by decide)
    · rw [if_neg hb] at h
      obtain ⟨h1, h2⟩ := ih (i + 1) (by omega) h
      refine ⟨h1, fun j hj hl => ?_⟩
      by_cases e : j = i
      · rw [e]; exact Bool.eq_false_iff.mpr hb
      · exact h2 j (by omega) hl
theorem namesB_facts {nb : Int} {l : List S63} (h : namesB nb l = true) : l.length ≤ 20 ∧ ∀ j, j < l.length → badAt nb l j = false := by
  obtain ⟨h1, h2⟩ := namesV_facts nb l l.length 0 (by omega) h
  exact ⟨h1, fun j hj => h2 j (by omega) hj⟩
theorem badAt_in {nb : Int} {l : List S63} {i : Nat} (h : badAt nb l i = false) : 0 ≤ (l.getD i z63).f1 ∧ (l.getD i z63).f1 < nb := by
  simp only [badAt, Bool.not_eq_false', Bool.and_eq_true, inB_iff] at h
  have := h.2.1
  omega
theorem namesB_in {nb : Int} {l : List S63} (h : namesB nb l = true) : ∀ x ∈ l, 0 ≤ x.f1 ∧ x.f1 < nb := by
  intro x hx
  obtain ⟨i, hi, rfl⟩ := List.getElem_of_mem hx
  have := badAt_in ((namesB_facts h).2 i hi)
  rw [List.getD_eq_getElem?_getD, List.getElem?_eq_getElem hi] at this
  exact this
def blobBad (b : S49) : Bool := decide ((b.f0.size : Int) > 4000) || !inB b.f1 0 (b.f0.size : Int)
def blobsV (B : List S49) : Nat → Nat → Bool
  | 0, _ => true
  | d + 1, i => if blobBad (B.getD i z49) = true then false else blobsV B d (i + 1)
def sumTo (f : Nat → Int) : Nat → Int
  | 0 => 0
  | n + 1 => sumTo f n + f n
theorem sumTo_one (f g : Nat → Int) (j : Nat) (hg : g j = 0) (hfg : ∀ k, k ≠ j → f k = g k) : ∀ n, sumTo f n = (if j < n then f j else 0) + sumTo g n := by
  intro n
  induction n with
  | zero => simp [sumTo]
  | succ n ih =>
    unfold sumTo
    rw [ih]
    by_cases e : n = j
    · subst e; rw [if_neg (by omega), if_pos (by omega), hg]; omega
    · rw [hfg n e]
      by_cases h : j < n
      · rw [if_pos h, if_pos (by omega)]; omega
      · rw [if_neg h, if_neg (by omega)]; omega
theorem sumTo_congr (f g : Nat → Int) : ∀ n, (∀ k, k < n → f k = g k) → sumTo f n = sumTo g n := by
  intro n
  induction n with
  | zero => intro _; rfl
  | succ n ih => intro h; unfold sumTo; rw [ih (fun k hk => h k (by omega)), h n (by omega)]
def sizeAt (B : List S49) (k : Nat) : Int := ((B.getD k z49).f0.size : Int)
def namedB (ns : List S63) (k : Int) : Bool := ns.any (fun x => x.f1 == k)
theorem namedB_cons (x : S63) (l : List S63) (k : Int) : namedB (x :: l) k = ((x.f1 == k) || namedB l k) := by unfold namedB; rw [List.any_cons]
def usedS (B : List S49) (ns : List S63) : Int := sumTo (fun k => if namedB ns (k : Int) = true then sizeAt B k else 0) B.length
theorem w64_add (a b : Int) : wrap64 (wrap64 a + b) = wrap64 (a + b) := by unfold wrap64; omega
def goodDiskV (B : List S49) (L S : List S63) (room : Int) : Bool := blobsV B B.length 0 && (decide ((B.length : Int) ≤ 60) && (namesB (B.length : Int) L && (namesB (B.length : Int) S && (inB room 0 100000 && decide (wrap64 (usedS B (L ++ S)) ≤ room)))))

-- part specDisk needs spec_GoodDisk.f
theorem spec_name (s : ByteArray) (hs : s.size ≤ 140737488351232) : Ev (fun k => spec_l1Name.f k s) (fileB s) := by
  have key : ∀ (d i : Nat), i + d = s.data.toList.length → Ev (fun k => spec_l1Name.l0 k s (i : Int)) ((s.data.toList.drop i).all (fun b => okI (b.toNat : Int)) && inB (s.size : Int) 1 12) := by
    have hz : s.data.toList.length = s.size := by simp
    intro d
    induction d with
    | zero =>
      intro i hi
      refine Ev.step (fun k => by rw [spec_l1Name.l0]) ?_
      refine Ev.neg_ (by omega) ?_
      rw [List.drop_eq_nil_of_le (by omega), spec_in]
      exact Ev.some_ (by simpa using Ev.now _)
    | succ d ih =>
      intro i hi
      have h := ih (i + 1) (by omega)
      refine Ev.step (fun k => by rw [spec_l1Name.l0]) ?_
      refine Ev.pos_ (by omega) (Ev.pos_ (by omega) ?_)
      simp only [okI_if]
      refine Ev.step (fun k => by rw [spec_l1Name.j1]) ?_
      rw [List.drop_eq_getElem_cons (show i < s.data.toList.length by omega), List.all_cons, ← bt_data s i (by omega)]
      by_cases ho : okI (bt s (i : Int)) = true
      · rw [ho]
        refine Ev.neg_ (by decide) ?_
        rw [wi (show i < s.size by omega) hs, Bool.true_and]
        exact h
      · rw [Bool.eq_false_iff.mpr ho]
        exact Ev.pos_ rfl (by simpa using Ev.now _)
  unfold spec_l1Name.f fileB
  simpa using key s.data.toList.length 0 (by omega)
theorem spec_names_l (nb : Int) (l : List S63) (hl : l.length ≤ 140737488351232) (hn0 : 0 ≤ nb) (hn : nb ≤ 140737488351232) (hs : ∀ x ∈ l, x.f0.size ≤ 140737488351232) :
    ∀ (d i : Nat), i + d = l.length → Ev (fun k => spec_l1Names.l0 k l nb l (l.length : Int) (i : Int)) (namesV nb l d i) := by
  intro d
  induction d with
  | zero =>
    intro i hi
    refine Ev.step (fun k => by rw [spec_l1Names.l0]) ?_
    exact Ev.neg_ (by omega) (Ev.now _)
  | succ d ih =>
    intro i hi
    have h := ih (i + 1) (by omega)
    have hj : Ev (fun k => spec_l1Names.j1 k l nb l (l.length : Int) (i : Int) (badAt nb l i)) (namesV nb l (d + 1) i) := by
      refine Ev.step (fun k => by rw [spec_l1Names.j1]) ?_
      unfold namesV
      by_cases hb : badAt nb l i = true
      · rw [if_pos hb]; exact Ev.pos_ hb (Ev.now _)
      · rw [if_neg hb]; refine Ev.neg_ hb ?_
        rw [wi (show i < l.length by omega) hl]; exact h
    have hz : (l.getD i z63).f0.size ≤ 140737488351232 := by
      rw [List.getD_eq_getElem?_getD, List.getElem?_eq_getElem (show i < l.length by omega)]
      exact hs _ (List.getElem_mem _)
    refine Ev.step (fun k => by rw [spec_l1Names.l0]) ?_
    refine Ev.pos_ (by omega) (Ev.pos_ (by omega) (Ev.pos_ (by omega) ?_))
    rw [rd_N_nat, w64 (n := nb - 1) (by omega) (by omega), spec_in]
    refine Ev.bind (spec_name _ hz) ?_
    by_cases h1 : fileB (l.getD i z63).f0 = true
    · refine Ev.pos_ h1 (Ev.some_ ?_)
      by_cases h2 : inB (l.getD i z63).f1 0 (nb - 1) = true
      · refine Ev.pos_ h2 ?_
        by_cases h3 : i = 0
        · have e : badAt nb l i = false := by unfold badAt; rw [h1, h2]; simp [h3]
          rw [e] at hj
          exact Ev.neg_ (by omega) hj
        · have e : badAt nb l i = !(Op.bytesLess (l.getD (i - 1) z63).f0.toList (l.getD i z63).f0.toList) := by unfold badAt; rw [h1, h2]; simp [h3]
          have ei : wrap64 ((i : Int) - 1) = ((i - 1 : Nat) : Int) := by rw [w64 (by omega) (by omega)]; omega
          rw [e] at hj
          refine Ev.pos_ (by omega) ?_
          rw [ei]
          refine Ev.pos_ (by omega) (Ev.pos_ (by omega) ?_)
          rw [rd_N_nat]
          exact hj
      · have e : badAt nb l i = true := by unfold badAt; rw [Bool.eq_false_iff.mpr h2]; simp
        rw [e] at hj
        exact Ev.neg_ h2 hj
    · have e : badAt nb l i = true := by unfold badAt; rw [Bool.eq_false_iff.mpr h1]; simp
      rw [e] at hj
      exact Ev.neg_ h1 hj
theorem spec_names (nb : Int) (l : List S63) (hl : l.length ≤ 140737488351232) (hn0 : 0 ≤ nb) (hn : nb ≤ 140737488351232) (hs : ∀ x ∈ l, x.f0.size ≤ 140737488351232) : Ev (fun k => spec_l1Names.f k l nb) (namesB nb l) := by
  unfold spec_l1Names.f namesB
  simpa using spec_names_l nb l hl hn0 hn hs l.length 0 (by omega)
theorem spec_used_l2 (a kk : Int) (B : List S49) (n p : Int) (S : List S63) (hl : S.length ≤ 140737488351232) (B0 : List S49) (L0 S0 : List S63) (room : Int) (d0 : ByteArray) (d1 : Int) (r : Int) :
    ∀ (d i : Nat) (b : Bool), i + d = S.length →
      (Ev (fun k => if (b || namedB (S.drop i) kk) = true then (spec_l1Used.l0 k (wrap64 (a + (d0.size : Int))) B n (wrap64 (p + 1)) B0 L0 S0 room) else (spec_l1Used.l0 k a B n (wrap64 (p + 1)) B0 L0 S0 room)) r) →
      Ev (fun k => spec_l1Used.l2 k a kk b B n p S (S.length : Int) (i : Int) B0 L0 S0 room d0 d1) r := by
  intro d
  induction d with
  | zero =>
    intro i b hi h
    refine Ev.step (fun k => by rw [spec_l1Used.l2]) ?_
    refine Ev.neg_ (by omega) ?_
    rw [List.drop_eq_nil_of_le (by omega)] at h
    simpa [namedB] using h
  | succ d ih =>
    intro i b hi h
    refine Ev.step (fun k => by rw [spec_l1Used.l2]) ?_
    refine Ev.pos_ (by omega) (Ev.pos_ (by omega) (Ev.pos_ (by omega) ?_))
    rw [wi (show i < S.length by omega) hl, rd_N_nat]
    rw [List.drop_eq_getElem_cons (show i < S.length by omega)] at h
    have eg : S.getD i z63 = S[i]'(by omega) := by rw [List.getD_eq_getElem?_getD, List.getElem?_eq_getElem (show i < S.length by omega)]; rfl
    rw [eg]
    rw [namedB_cons] at h
    by_cases hb : b = true
    · refine Ev.pos_ hb (ih (i + 1) true (by omega) ?_)
      rw [hb] at h
      simpa using h
    · refine Ev.neg_ hb (ih (i + 1) _ (by omega) ?_)
      rw [Bool.eq_false_iff.mpr hb, Bool.false_or] at h
      exact h
theorem spec_used_l1 (a kk : Int) (B : List S49) (n p : Int) (L : List S63) (hl : L.length ≤ 140737488351232) (B0 : List S49) (L0 S0 : List S63) (room : Int) (d0 : ByteArray) (d1 : Int) (r : Int) :
    ∀ (d i : Nat) (b : Bool), i + d = L.length →
      Ev (fun k => spec_l1Used.l2 k a kk (b || namedB (L.drop i) kk) B n p S0 (S0.length : Int) 0 B0 L0 S0 room d0 d1) r →
      Ev (fun k => spec_l1Used.l1 k a kk b B n p L (L.length : Int) (i : Int) B0 L0 S0 room d0 d1) r := by
  intro d
  induction d with
  | zero =>
    intro i b hi h
    refine Ev.step (fun k => by rw [spec_l1Used.l1]) ?_
    refine Ev.neg_ (by omega) ?_
    rw [List.drop_eq_nil_of_le (by omega)] at h
    simpa [namedB] using h
  | succ d ih =>
    intro i b hi h
    refine Ev.step (fun k => by rw [spec_l1Used.l1]) ?_
    refine Ev.pos_ (by omega) (Ev.pos_ (by omega) (Ev.pos_ (by omega) ?_))
    rw [wi (show i < L.length by omega) hl, rd_N_nat]
    rw [List.drop_eq_getElem_cons (show i < L.length by omega)] at h
    have eg : L.getD i z63 = L[i]'(by omega) := by rw [List.getD_eq_getElem?_getD, List.getElem?_eq_getElem (show i < L.length by omega)]; rfl
    rw [eg]
    rw [namedB_cons] at h
    by_cases hb : b = true
    · refine Ev.pos_ hb (ih (i + 1) true (by omega) ?_)
      rw [hb] at h
      simpa using h
    · refine Ev.neg_ hb (ih (i + 1) _ (by omega) ?_)
      rw [Bool.eq_false_iff.mpr hb, Bool.false_or] at h
      exact h
theorem namedB_append (L S : List S63) (k : Int) : namedB (L ++ S) k = (namedB L k || namedB S k) := by simp [namedB]
theorem spec_used_l0 (B : List S49) (L S : List S63) (room : Int) (hB : B.length ≤ 140737488351232) (hL : L.length ≤ 140737488351232) (hS : S.length ≤ 140737488351232) :
    ∀ (d i : Nat), i + d = B.length → Ev (fun k => spec_l1Used.l0 k (wrap64 (sumTo (fun k => if namedB (L ++ S) (k : Int) = true then sizeAt B k else 0) i)) B (B.length : Int) (i : Int) B L S room) (wrap64 (usedS B (L ++ S))) := by
  intro d
  induction d with
  | zero =>
    intro i hi
    obtain rfl : i = B.length := by omega
    refine Ev.step (fun k => by rw [spec_l1Used.l0]) ?_
    exact Ev.neg_ (by omega) (Ev.now _)
  | succ d ih =>
    intro i hi
    have h := ih (i + 1) (by omega)
    refine Ev.step (fun k => by rw [spec_l1Used.l0]) ?_
    refine Ev.pos_ (by omega) (Ev.pos_ (by omega) (Ev.pos_ (by omega) ?_))
    have := spec_used_l1 (wrap64 (sumTo (fun k => if namedB (L ++ S) (k : Int) = true then sizeAt B k else 0) i)) (i : Int) B (B.length : Int) (i : Int) L hL B L S room (rd_T49 B i).f0 (rd_T49 B i).f1 (wrap64 (usedS B (L ++ S))) L.length 0 false (by omega)
    refine (by simpa using this : _ → _) ?_
    have h2 := spec_used_l2 (wrap64 (sumTo (fun k => if namedB (L ++ S) (k : Int) = true then sizeAt B k else 0) i)) (i : Int) B (B.length : Int) (i : Int) S hS B L S room (rd_T49 B i).f0 (rd_T49 B i).f1 (wrap64 (usedS B (L ++ S))) S.length 0 (namedB L (i : Int)) (by omega)
    refine (by simpa using h2 : _ → _) ?_
    rw [wi (show i < B.length by omega) hB, w64_add, rd_B_nat]
    have e : (namedB L (i : Int) || namedB S (i : Int)) = namedB (L ++ S) (i : Int) := (namedB_append L S _).symm
    by_cases hn : namedB (L ++ S) (i : Int) = true
    · have h3 : Ev (fun k => spec_l1Used.l0 k (wrap64 (sumTo (fun k => if namedB (L ++ S) (k : Int) = true then sizeAt B k else 0) i + sizeAt B i)) B (B.length : Int) ((i + 1 : Nat) : Int) B L S room) (wrap64 (usedS B (L ++ S))) := by
        have := h; unfold sumTo at this; rw [if_pos hn] at this; exact this
      have hor : namedB L (i : Int) = true ∨ namedB S (i : Int) = true := by rw [← e] at hn; simpa using hn
      exact Ev.pos_ hor h3
    · have h3 : Ev (fun k => spec_l1Used.l0 k (wrap64 (sumTo (fun k => if namedB (L ++ S) (k : Int) = true then sizeAt B k else 0) i)) B (B.length : Int) ((i + 1 : Nat) : Int) B L S room) (wrap64 (usedS B (L ++ S))) := by
        have := h; unfold sumTo at this; rw [if_neg hn] at this; simpa using this
      have hor : ¬(namedB L (i : Int) = true ∨ namedB S (i : Int) = true) := by rw [← e] at hn; simpa using hn
      exact Ev.neg_ hor h3
theorem spec_used (B : List S49) (L S : List S63) (room : Int) (hB : B.length ≤ 140737488351232) (hL : L.length ≤ 140737488351232) (hS : S.length ≤ 140737488351232) : Ev (fun k => spec_l1Used.f k B L S room) (wrap64 (usedS B (L ++ S))) := by
  unfold spec_l1Used.f
  have := spec_used_l0 B L S room hB hL hS B.length 0 (by omega)
  simpa [sumTo, show wrap64 0 = 0 from w64 (by decide) (by decide)] using this
theorem spec_good_l0 (B : List S49) (L S : List S63) (room : Int) (hB : B.length ≤ 140737488351232) (hL : L.length ≤ 140737488351232) (hS : S.length ≤ 140737488351232) (hsL : ∀ x ∈ L, x.f0.size ≤ 140737488351232) (hsS : ∀ x ∈ S, x.f0.size ≤ 140737488351232) :
    ∀ (d i : Nat), i + d = B.length → Ev (fun k => spec_GoodDisk.l0 k B (B.length : Int) (i : Int) B L S room) (blobsV B d i && (decide ((B.length : Int) ≤ 60) && (namesB (B.length : Int) L && (namesB (B.length : Int) S && (inB room 0 100000 && decide (wrap64 (usedS B (L ++ S)) ≤ room)))))) := by
  intro d
  induction d with
  | zero =>
    intro i hi
    refine Ev.step (fun k => by rw [spec_GoodDisk.l0]) ?_
    refine Ev.neg_ (by omega) ?_
    unfold blobsV
    rw [Bool.true_and]
    by_cases h1 : (B.length : Int) ≤ 60
    · refine Ev.pos_ h1 (Ev.bind (spec_names _ L hL (by omega) (by omega) hsL) ?_)
      rw [decide_eq_true h1, Bool.true_and]
      by_cases h2 : namesB (B.length : Int) L = true
      · refine Ev.pos_ h2 (Ev.bind (spec_names _ S hS (by omega) (by omega) hsS) ?_)
        rw [h2, Bool.true_and]
        by_cases h3 : namesB (B.length : Int) S = true
        · refine Ev.pos_ h3 ?_
          rw [h3, Bool.true_and, spec_in]
          refine Ev.some_ ?_
          by_cases h4 : inB room 0 100000 = true
          · refine Ev.pos_ h4 (Ev.bind (spec_used B L S room hB hL hS) ?_)
            rw [h4, Bool.true_and]
            exact Ev.now _
          · rw [Bool.eq_false_iff.mpr h4]; exact Ev.neg_ (by decide) (by simpa using Ev.now _)
        · rw [Bool.eq_false_iff.mpr h3]; exact Ev.neg_ (by decide) (by simpa using Ev.now _)
      · rw [Bool.eq_false_iff.mpr h2]; exact Ev.neg_ (by decide) (by simpa using Ev.now _)
    · rw [decide_eq_false h1]; exact Ev.neg_ h1 (by simpa using Ev.now _)
  | succ d ih =>
    intro i hi
    have h := ih (i + 1) (by omega)
    have hj : Ev (fun k => spec_GoodDisk.j1 k B (B.length : Int) (i : Int) (blobBad (B.getD i z49)) B L S room) (blobsV B (d + 1) i && (decide ((B.length : Int) ≤ 60) && (namesB (B.length : Int) L && (namesB (B.length : Int) S && (inB room 0 100000 && decide (wrap64 (usedS B (L ++ S)) ≤ room)))))) := by
      refine Ev.step (fun k => by rw [spec_GoodDisk.j1]) ?_
      unfold blobsV
      by_cases hb : blobBad (B.getD i z49) = true
      · rw [if_pos hb]; exact Ev.pos_ hb (by simpa using Ev.now _)
      · rw [if_neg hb]; refine Ev.neg_ hb ?_
        rw [wi (show i < B.length by omega) hB]; exact h
    refine Ev.step (fun k => by rw [spec_GoodDisk.l0]) ?_
    refine Ev.pos_ (by omega) (Ev.pos_ (by omega) (Ev.pos_ (by omega) ?_))
    rw [rd_B_nat, spec_in]
    by_cases h1 : ((B.getD i z49).f0.size : Int) > 4000
    · have e : blobBad (B.getD i z49) = true := by unfold blobBad; rw [decide_eq_true h1]; rfl
      rw [e] at hj
      exact Ev.pos_ h1 hj
    · have e : blobBad (B.getD i z49) = !inB (B.getD i z49).f1 0 ((B.getD i z49).f0.size : Int) := by unfold blobBad; rw [decide_eq_false h1]; rfl
      rw [e] at hj
      exact Ev.neg_ h1 (Ev.some_ hj)
def diskB (B : List S49) (L S : List S63) : Prop := B.length ≤ 5864062014805 ∧ L.length ≤ 5864062014805 ∧ S.length ≤ 5864062014805 ∧ (∀ x ∈ L, x.f0.size ≤ 140737488351232) ∧ ∀ x ∈ S, x.f0.size ≤ 140737488351232
theorem spec_goodDisk (B : List S49) (L S : List S63) (room : Int) (h : diskB B L S) : Ev (fun k => spec_GoodDisk.f k B L S room) (goodDiskV B L S room) := by
  obtain ⟨hB, hL, hS, hsL, hsS⟩ := h
  unfold spec_GoodDisk.f goodDiskV
  simpa using spec_good_l0 B L S room (by omega) (by omega) (by omega) hsL hsS B.length 0 (by omega)

-- part implDisk needs impl_GoodDisk.f
theorem drop_all {α : Type} (p : α → Bool) : ∀ l : List α, (∀ x ∈ l.dropWhile p, p x = true) → ∀ x ∈ l, p x = true := by
  intro l
  induction l with
  | nil => intro _ x hx; simp at hx
  | cons a l ih =>
    intro h x hx
    by_cases ha : p a = true
    · rw [List.dropWhile_cons, if_pos ha] at h
      rcases List.mem_cons.mp hx with e | e
      · rw [e]; exact ha
      · exact ih h x e
    · rw [List.dropWhile_cons, if_neg ha] at h
      exact h x hx
theorem drop_nil {α : Type} (p : α → Bool) : ∀ l : List α, (∀ x ∈ l, p x = true) → l.dropWhile p = [] := by
  intro l
  induction l with
  | nil => intro _; rfl
  | cons a l ih => intro h; rw [List.dropWhile_cons, if_pos (h a (by simp))]; exact ih (fun x hx => h x (by simp [hx]))
theorem nil_drop {α : Type} (p : α → Bool) : ∀ l : List α, l.dropWhile p = [] → ∀ x ∈ l, p x = true := by
  intro l h
  exact drop_all p l (by rw [h]; intro x hx; simp at hx)
theorem trimS_nil (l cs : List UInt8) : Lib.trimS l cs = [] ↔ ∀ x ∈ l, cs.contains x = true := by
  unfold Lib.trimS Lib.trimLeftS Lib.trimRightS
  constructor
  · intro h
    have h1 := nil_drop _ _ h
    have h2 : ∀ x ∈ l.reverse, cs.contains x = true := drop_all _ _ (fun x hx => h1 x (List.mem_reverse.mpr hx))
    exact fun x hx => h2 x (List.mem_reverse.mpr hx)
  · intro h
    rw [drop_nil _ l.reverse (fun x hx => h x (List.mem_reverse.mp hx))]
    rfl
def signs : List UInt8 := [97, 98, 99, 100, 101, 102, 103, 104, 105, 106, 107, 108, 109, 110, 111, 112, 113, 114, 115, 116, 117, 118, 119, 120, 121, 122, 48, 49, 50, 51, 52, 53, 54, 55, 56, 57, 46]
theorem signs_ok (b : UInt8) : signs.contains b = okI (b.toNat : Int) := by
  have h : ∀ n : Nat, n < 256 → signs.contains (UInt8.ofNat n) = okI (n : Int) := by decide +kernel
  have := h b.toNat b.toNat_lt
  simpa using this
theorem impl_isFile (s : ByteArray) : impl_isFileName.f s = some (fileB s) := by
  unfold impl_isFileName.f fileB
  rw [impl_in_, Option.bind_some]
  by_cases h : inB (s.size : Int) 1 12 = true
  · rw [if_pos h, h]
    have h' := inB_iff.mp h
    unfold strings_Trim.f
    rw [if_pos ⟨by omega, by omega, by decide, by decide, by decide⟩, Option.bind_some, Lib.toList_data]
    show some ((Lib.trimS s.data.toList signs) == []) = _
    congr 1
    rw [Bool.and_true]
    have e : s.data.toList.all (fun b => okI (b.toNat : Int)) = s.data.toList.all (fun b => signs.contains b) := by simp only [signs_ok]
    rw [e, Bool.eq_iff_iff, beq_iff_eq, trimS_nil, List.all_eq_true]
  · rw [if_neg h, Bool.eq_false_iff.mpr h, Bool.and_false]
theorem impl_names_l (B : List S49) (L S : List S63) (room : Int) (l : List S63) (hl : l.length ≤ 140737488351232) (hn : B.length ≤ 140737488351232) :
    ∀ (d i : Nat), i + d = l.length → Ev (fun k => impl_Disk_namesOk.l0 k l l (l.length : Int) (i : Int) B L S room) (namesV (B.length : Int) l d i) := by
  intro d
  induction d with
  | zero =>
    intro i hi
    refine Ev.step (fun k => by rw [impl_Disk_namesOk.l0]) ?_
    exact Ev.neg_ (by omega) (Ev.now _)
  | succ d ih =>
    intro i hi
    have h := ih (i + 1) (by omega)
    have hj : Ev (fun k => impl_Disk_namesOk.j1 k l l (l.length : Int) (i : Int) (badAt (B.length : Int) l i) B L S room) (namesV (B.length : Int) l (d + 1) i) := by
      refine Ev.step (fun k => by rw [impl_Disk_namesOk.j1]) ?_
      unfold namesV
      by_cases hb : badAt (B.length : Int) l i = true
      · rw [if_pos hb]; exact Ev.pos_ hb (Ev.now _)
      · rw [if_neg hb]; refine Ev.neg_ hb ?_
        rw [wi (show i < l.length by omega) hl]; exact h
    refine Ev.step (fun k => by rw [impl_Disk_namesOk.l0]) ?_
    refine Ev.pos_ (by omega) (Ev.pos_ (by omega) (Ev.pos_ (by omega) ?_))
    rw [rd_N_nat, w64 (n := (B.length : Int) - 1) (by omega) (by omega), impl_in_, impl_isFile]
    refine Ev.some_ ?_
    by_cases h1 : fileB (l.getD i z63).f0 = true
    · refine Ev.pos_ h1 (Ev.some_ ?_)
      by_cases h2 : inB (l.getD i z63).f1 0 ((B.length : Int) - 1) = true
      · refine Ev.pos_ h2 ?_
        by_cases h3 : i = 0
        · have e : badAt (B.length : Int) l i = false := by unfold badAt; rw [h1, h2]; simp [h3]
          rw [e] at hj
          exact Ev.neg_ (by omega) hj
        · have e : badAt (B.length : Int) l i = !(Op.bytesLess (l.getD (i - 1) z63).f0.toList (l.getD i z63).f0.toList) := by unfold badAt; rw [h1, h2]; simp [h3]
          have ei : wrap64 ((i : Int) - 1) = ((i - 1 : Nat) : Int) := by rw [w64 (by omega) (by omega)]; omega
          rw [e] at hj
          refine Ev.pos_ (by omega) ?_
          rw [ei]
          refine Ev.pos_ (by omega) (Ev.pos_ (by omega) ?_)
          rw [rd_N_nat]
          exact hj
      · have e : badAt (B.length : Int) l i = true := by unfold badAt; rw [Bool.eq_false_iff.mpr h2]; simp
        rw [e] at hj
        exact Ev.neg_ h2 hj
    · have e : badAt (B.length : Int) l i = true := by unfold badAt; rw [Bool.eq_false_iff.mpr h1]; simp
      rw [e] at hj
      exact Ev.neg_ h1 hj
theorem impl_names (B : List S49) (L S : List S63) (room : Int) (l : List S63) (hl : l.length ≤ 140737488351232) (hn : B.length ≤ 140737488351232) : Ev (fun k => impl_Disk_namesOk.f k B L S room l) (namesB (B.length : Int) l) := by
  unfold impl_Disk_namesOk.f namesB
  simpa using impl_names_l B L S room l hl hn l.length 0 (by omega)
def sumNew (B : List S49) : List S63 → List Int → Int
  | [], _ => 0
  | x :: l, seen => (if x.f1 ∈ seen then 0 else sizeAt B x.f1.toNat) + sumNew B l (x.f1 :: seen)
theorem rd_B_toNat (B : List S49) (i : Int) : ((rd_T49 B i).f0.size : Int) = sizeAt B i.toNat := rfl
theorem used_go (B : List S49) : ∀ (l : List S63) (seen : List Int) (a : Int), (∀ x ∈ l, 0 ≤ x.f1 ∧ x.f1 < (B.length : Int)) → impl_Disk_used.go B l seen (wrap64 a) = some (wrap64 (a + sumNew B l seen)) := by
  intro l
  induction l with
  | nil => intro seen a _; simp [impl_Disk_used.go, sumNew]
  | cons x l ih =>
    intro seen a h
    have hx := h x (by simp)
    have ih' := fun a => ih (x.f1 :: seen) a (fun y hy => h y (by simp [hy]))
    unfold impl_Disk_used.go sumNew
    rw [if_pos hx]
    by_cases hs : x.f1 ∈ seen
    · rw [if_pos hs, if_pos hs, ih', Int.zero_add]
    · rw [if_neg hs, if_neg hs, w64_add, ih', rd_B_toNat, Int.add_assoc]
theorem sumNew_eq (B : List S49) : ∀ (l : List S63) (seen : List Int), (∀ x ∈ l, 0 ≤ x.f1 ∧ x.f1 < (B.length : Int)) → sumNew B l seen = sumTo (fun k => if namedB l (k : Int) = true ∧ ¬ (k : Int) ∈ seen then sizeAt B k else 0) B.length := by
  intro l
  induction l with
  | nil =>
    intro seen _
    have : ∀ n, sumTo (fun k => if namedB ([] : List S63) (k : Int) = true ∧ ¬ (k : Int) ∈ seen then sizeAt B k else 0) n = 0 := by
      intro n; induction n with
      | zero => rfl
      | succ n ih => unfold sumTo; rw [ih]; simp [namedB]
    rw [this]; rfl
  | cons x l ih =>
    intro seen h
    have hx := h x (by simp)
    unfold sumNew
    rw [ih (x.f1 :: seen) (fun y hy => h y (by simp [hy]))]
    by_cases hs : x.f1 ∈ seen
    · rw [if_pos hs, Int.zero_add]
      refine sumTo_congr _ _ _ (fun k hk => ?_)
      by_cases e : (k : Int) = x.f1
      · rw [if_neg (by rw [e]; simp), if_neg (by rw [e]; simp [hs])]
      · have e1 : namedB (x :: l) (k : Int) = namedB l (k : Int) := by simp [namedB]; intro h2; exact absurd h2.symm e
        rw [e1]; simp [e]
    · rw [if_neg hs]
      rw [sumTo_one (fun k => if namedB (x :: l) (k : Int) = true ∧ ¬ (k : Int) ∈ seen then sizeAt B k else 0) (fun k => if namedB l (k : Int) = true ∧ ¬ (k : Int) ∈ x.f1 :: seen then sizeAt B k else 0) x.f1.toNat]
      · rw [if_pos (by omega)]
        congr 1
        have e : ((x.f1.toNat : Nat) : Int) = x.f1 := by omega
        show _ = if namedB (x :: l) ((x.f1.toNat : Nat) : Int) = true ∧ ¬ ((x.f1.toNat : Nat) : Int) ∈ seen then sizeAt B x.f1.toNat else 0
        rw [e, if_pos ⟨by simp [namedB], hs⟩]
      · have e : ((x.f1.toNat : Nat) : Int) = x.f1 := by omega
        show (if namedB l ((x.f1.toNat : Nat) : Int) = true ∧ ¬ ((x.f1.toNat : Nat) : Int) ∈ x.f1 :: seen then sizeAt B x.f1.toNat else 0) = 0
        rw [e, if_neg (by simp)]
      · intro k hk
        have e : ¬ (k : Int) = x.f1 := by omega
        have e1 : namedB (x :: l) (k : Int) = namedB l (k : Int) := by simp [namedB]; intro h2; exact absurd h2.symm e
        show (if namedB (x :: l) (k : Int) = true ∧ ¬ (k : Int) ∈ seen then sizeAt B k else 0) = if namedB l (k : Int) = true ∧ ¬ (k : Int) ∈ x.f1 :: seen then sizeAt B k else 0
        rw [e1]; simp [e]
theorem impl_used (B : List S49) (L S : List S63) (room : Int) (hB : B.length ≤ 140737488351232) (hL : namesB (B.length : Int) L = true) (hS : namesB (B.length : Int) S = true) : impl_Disk_used.f B L S room = some (wrap64 (usedS B (L ++ S))) := by
  unfold impl_Disk_used.f
  rw [if_pos ⟨(namesB_facts hL).1, (namesB_facts hS).1, hB⟩]
  have hall : ∀ x ∈ L ++ S, 0 ≤ x.f1 ∧ x.f1 < (B.length : Int) := by
    intro x hx
    rcases List.mem_append.mp hx with h | h
    · exact namesB_in hL x h
    · exact namesB_in hS x h
  have := used_go B (L ++ S) [] 0 hall
  rw [show wrap64 0 = 0 from w64 (by decide) (by decide), Int.zero_add, sumNew_eq B _ [] hall] at this
  rw [this]
  congr 2
  unfold usedS
  refine sumTo_congr _ _ _ (fun k hk => ?_)
  simp
theorem impl_contains (B : List S49) (hB : B.length ≤ 140737488351232) : Ev (fun k => slices_ContainsFunc_f33.f k B) (!blobsV B B.length 0) := by
  have key : ∀ (d i : Nat), i + d = B.length → ∃ r, Ev (fun k => slices_IndexFunc_f33.l0 k B (B.length : Int) (i : Int)) r ∧ decide (r ≥ 0) = !blobsV B d i := by
    intro d
    induction d with
    | zero =>
      intro i hi
      refine ⟨-1, Ev.step (fun k => by rw [slices_IndexFunc_f33.l0]) ?_, rfl⟩
      exact Ev.neg_ (by omega) (Ev.now _)
    | succ d ih =>
      intro i hi
      obtain ⟨r, hr, he⟩ := ih (i + 1) (by omega)
      have hb : impl_GoodDisk_1.f (rd_T49 B i).f0 (rd_T49 B i).f1 = some (blobBad (B.getD i z49)) := by
        unfold impl_GoodDisk_1.f blobBad
        rw [impl_in_, Option.bind_some, bo_orP, rd_B_nat]
      by_cases h : blobBad (B.getD i z49) = true
      · refine ⟨(i : Int), Ev.step (fun k => by rw [slices_IndexFunc_f33.l0]) ?_, ?_⟩
        · refine Ev.pos_ (by omega) (Ev.pos_ (by omega) (Ev.pos_ (by omega) ?_))
          rw [hb]
          exact Ev.some_ (Ev.pos_ h (Ev.now _))
        · unfold blobsV; rw [if_pos h]; simp
      · refine ⟨r, Ev.step (fun k => by rw [slices_IndexFunc_f33.l0]) ?_, ?_⟩
        · refine Ev.pos_ (by omega) (Ev.pos_ (by omega) (Ev.pos_ (by omega) ?_))
          rw [hb]
          refine Ev.some_ (Ev.neg_ h ?_)
          rw [wi (show i < B.length by omega) hB]; exact hr
        · unfold blobsV; rw [if_neg h]; exact he
  obtain ⟨r, hr, he⟩ := key B.length 0 (by omega)
  unfold slices_ContainsFunc_f33.f slices_IndexFunc_f33.f
  rw [← he]
  exact Ev.bind (by simpa using hr) (Ev.now _)
theorem impl_goodDisk (B : List S49) (L S : List S63) (room : Int) (hB : B.length ≤ 140737488351232) (hL : L.length ≤ 140737488351232) (hS : S.length ≤ 140737488351232) : Ev (fun k => impl_GoodDisk.f k B L S room) (goodDiskV B L S room) := by
  unfold impl_GoodDisk.f goodDiskV
  refine Ev.bind (impl_contains B hB) ?_
  rw [impl_in_]
  refine Ev.some_ ?_
  by_cases h1 : (B.length : Int) > 60
  · rw [decide_eq_false (show ¬ (B.length : Int) ≤ 60 by omega)]
    exact Ev.pos_ h1 (by simpa using Ev.now _)
  · refine Ev.neg_ h1 ?_
    rw [decide_eq_true (show (B.length : Int) ≤ 60 by omega), Bool.true_and]
    by_cases h2 : blobsV B B.length 0 = true
    · rw [h2, Bool.true_and]
      refine Ev.neg_ (by decide) ?_
      by_cases h3 : inB room 0 100000 = true
      · rw [h3, Bool.true_and]
        refine Ev.pos_ rfl (Ev.bind (impl_names B L S room L hL hB) ?_)
        by_cases h4 : namesB (B.length : Int) L = true
        · rw [h4, Bool.true_and]
          refine Ev.pos_ rfl (Ev.bind (impl_names B L S room S hS hB) ?_)
          by_cases h5 : namesB (B.length : Int) S = true
          · rw [h5, Bool.true_and, impl_used B L S room hB h4 h5]
            exact Ev.pos_ rfl (Ev.some_ (Ev.now _))
          · rw [Bool.eq_false_iff.mpr h5]; exact Ev.neg_ (by decide) (by simpa using Ev.now _)
        · rw [Bool.eq_false_iff.mpr h4]; exact Ev.neg_ (by decide) (by simpa using Ev.now _)
      · rw [Bool.eq_false_iff.mpr h3]; exact Ev.neg_ (by decide) (by simpa using Ev.now _)
    · rw [Bool.eq_false_iff.mpr h2]; exact Ev.pos_ rfl (by simpa using Ev.now _)

-- part lawDisk needs laws_toDisk.f
theorem szDisk_some (B : List S69) (L S : List S71) (room m : Int) (hB : B.length ≤ 140737488351232) (hL : L.length ≤ 140737488351232) (hS : S.length ≤ 140737488351232) : ∃ r, Ev (fun k => laws_szDisk.f k B L S room m) r := by
  unfold laws_szDisk.f
  obtain ⟨r, hr⟩ := szBlobS_some B m hB
  by_cases h : r < 0
  · exact ⟨-1, Ev.bind hr (Ev.pos_ h (Ev.now _))⟩
  · obtain ⟨q, hq⟩ := szNameS_some L r hL
    by_cases h2 : q < 0
    · exact ⟨-1, Ev.bind hr (Ev.neg_ h (Ev.bind hq (Ev.pos_ h2 (Ev.now _))))⟩
    · obtain ⟨p, hp⟩ := szNameS_some S q hS
      by_cases h3 : p < 0
      · exact ⟨-1, Ev.bind hr (Ev.neg_ h (Ev.bind hq (Ev.neg_ h2 (Ev.bind hp (Ev.pos_ h3 (Ev.now _))))))⟩
      · exact ⟨p, Ev.bind hr (Ev.neg_ h (Ev.bind hq (Ev.neg_ h2 (Ev.bind hp (Ev.neg_ h3 (Ev.now _))))))⟩
def diskIn (B : List S69) (L S : List S71) (room : Int) : Prop := (B.length * 24 ≤ 140737488351232 ∧ ∀ x ∈ B, x.f0.size ≤ 140737488351232 ∧ (Lit.int .i64 x.f1).wf = true) ∧ (L.length * 24 ≤ 140737488351232 ∧ ∀ x ∈ L, x.f0.size ≤ 140737488351232 ∧ (Lit.int .i64 x.f1).wf = true) ∧ (S.length * 24 ≤ 140737488351232 ∧ ∀ x ∈ S, x.f0.size ≤ 140737488351232 ∧ (Lit.int .i64 x.f1).wf = true) ∧ (Lit.int .i64 room).wf = true
theorem diskIn_len {B : List S69} {L S : List S71} {room : Int} (h : diskIn B L S room) : B.length ≤ 5864062014801 ∧ L.length ≤ 5864062014801 ∧ S.length ≤ 5864062014801 := by
  obtain ⟨⟨h1, _⟩, ⟨h2, _⟩, ⟨h3, _⟩, _⟩ := h
  omega
theorem toDisk_ (B : List S69) (L S : List S71) (room : Int) (h : diskIn B L S room) : Ev (fun k => laws_toDisk.f k B L S room) (B.map convBlob, L.map convName, S.map convName, room) := by
  obtain ⟨h1, h2, h3⟩ := diskIn_len h
  unfold laws_toDisk.f
  exact Ev.bind (toBlobS_ B (by omega)) (Ev.bind (toNameS_ L (by omega)) (Ev.bind (toNameS_ S (by omega)) (Ev.now _)))
theorem eqDisk_refl (B : List S49) (L S : List S63) (room : Int) (hB : B.length ≤ 140737488351232) (hL : L.length ≤ 140737488351232) (hS : S.length ≤ 140737488351232) : Ev (fun k => laws_eqDisk.f k B L S room B L S room) true := by
  unfold laws_eqDisk.f
  exact Ev.bind (eqBlobS_refl B hB) (Ev.pos_ rfl (Ev.bind (eqNameS_refl L hL) (Ev.pos_ rfl (Ev.bind (eqNameS_refl S hS) (Ev.pos_ rfl (Ev.pos_ rfl (Ev.now _)))))))
theorem diskB_conv {B : List S69} {L S : List S71} {room : Int} (h : diskIn B L S room) : diskB (B.map convBlob) (L.map convName) (S.map convName) := by
  obtain ⟨h1, h2, h3⟩ := diskIn_len h
  refine ⟨by simp; omega, by simp; omega, by simp; omega, ?_, ?_⟩
  · intro x hx
    obtain ⟨y, hy, rfl⟩ := List.mem_map.mp hx
    exact (h.2.1.2 y hy).1
  · intro x hx
    obtain ⟨y, hy, rfl⟩ := List.mem_map.mp hx
    exact (h.2.2.1.2 y hy).1

-- part usedDisk needs impl_GoodDisk.f
theorem good_names {B : List S49} {L S : List S63} {room : Int} (h : goodDiskV B L S room = true) : namesB (B.length : Int) L = true ∧ namesB (B.length : Int) S = true ∧ blobsV B B.length 0 = true := by
  unfold goodDiskV at h
  simp only [Bool.and_eq_true] at h
  exact ⟨h.2.2.1, h.2.2.2.1, h.1⟩
theorem badAt_sort {nb : Int} {l : List S63} {i : Nat} (h : badAt nb l i = false) (hi : 0 < i) : Op.bytesLess (l.getD (i - 1) z63).f0.toList (l.getD i z63).f0.toList = true := by
  simp only [badAt, Bool.not_eq_false', Bool.and_eq_true, Bool.or_eq_true, decide_eq_true_eq] at h
  rcases h.2.2 with e | e
  · omega
  · exact e
theorem blobs_in {B : List S49} : ∀ (d i : Nat), i + d = B.length → blobsV B d i = true → ∀ j, i ≤ j → j < B.length → blobBad (B.getD j z49) = false := by
  intro d
  induction d with
  | zero => intro i hi _ j h1 h2; omega
  | succ d ih =>
    intro i hi h j h1 h2
    unfold blobsV at h
    by_cases hb : blobBad (B.getD i z49) = true
    · rw [if_pos hb] at h; exact absurd h (by decide)
    · rw [if_neg hb] at h
      by_cases e : j = i
      · rw [e]; exact Bool.eq_false_iff.mpr hb
      · exact ih (i + 1) (by omega) h j (by omega) h2

-- part atDisk needs spec_l1At.f
theorem spec_at (l : List S63) (s : ByteArray) (hl : l.length ≤ 140737488351232) : ∃ (i : Nat) (found : Bool), Ev (fun k => spec_l1At.f k l s) ((i : Int), found) ∧ i ≤ l.length ∧ (∀ j, j < i → Op.bytesLess (l.getD j z63).f0.toList s.toList = true) ∧ ((i = l.length ∧ found = false) ∨ (i < l.length ∧ ¬ Op.bytesLess (l.getD i z63).f0.toList s.toList = true ∧ found = ((l.getD i z63).f0.toList == s.toList))) := by
  have key : ∀ (d i : Nat), i + d = l.length → (∀ j, j < i → Op.bytesLess (l.getD j z63).f0.toList s.toList = true) → ∃ (i' : Nat) (found : Bool), Ev (fun k => spec_l1At.l0 k l s (i : Int)) ((i' : Int), found) ∧ i' ≤ l.length ∧ (∀ j, j < i' → Op.bytesLess (l.getD j z63).f0.toList s.toList = true) ∧ ((i' = l.length ∧ found = false) ∨ (i' < l.length ∧ ¬ Op.bytesLess (l.getD i' z63).f0.toList s.toList = true ∧ found = ((l.getD i' z63).f0.toList == s.toList))) := by
    intro d
    induction d with
    | zero =>
      intro i hi hj
      refine ⟨i, false, Ev.step (fun k => by rw [spec_l1At.l0]) ?_, by omega, hj, Or.inl ⟨by omega, rfl⟩⟩
      refine Ev.neg_ (by omega) (Ev.step (fun k => by rw [spec_l1At.j1]) ?_)
      exact Ev.neg_ (by decide) (Ev.neg_ (by omega) (Ev.now _))
    | succ d ih =>
      intro i hi hj
      by_cases hb : Op.bytesLess (l.getD i z63).f0.toList s.toList = true
      · obtain ⟨i', found, h1, h2, h3, h4⟩ := ih (i + 1) (by omega) (fun j h => by
          by_cases e : j = i
          · rw [e]; exact hb
          · exact hj j (by omega))
        refine ⟨i', found, Ev.step (fun k => by rw [spec_l1At.l0]) ?_, h2, h3, h4⟩
        refine Ev.pos_ (by omega) (Ev.pos_ (by omega) (Ev.step (fun k => by rw [spec_l1At.j1]) ?_))
        rw [rd_N_nat]
        refine Ev.pos_ hb ?_
        rw [wi (show i < l.length by omega) hl]; exact h1
      · refine ⟨i, _, Ev.step (fun k => by rw [spec_l1At.l0]) ?_, by omega, hj, Or.inr ⟨by omega, hb, rfl⟩⟩
        refine Ev.pos_ (by omega) (Ev.pos_ (by omega) (Ev.step (fun k => by rw [spec_l1At.j1]) ?_))
        rw [rd_N_nat]
        exact Ev.neg_ hb (Ev.pos_ (by omega) (Ev.pos_ (by omega) (Ev.now _)))
  unfold spec_l1At.f
  simpa using key l.length 0 (by omega) (fun j h => by omega)
theorem go_none (s : ByteArray) : ∀ (l : List S63) (a : Int), (∀ x ∈ l, x.f0.toList ≠ s.toList) → impl_nameAt.go s l a = -1 := by
  intro l
  induction l with
  | nil => intro a _; rfl
  | cons x l ih =>
    intro a h
    unfold impl_nameAt.go
    rw [if_neg (h x (by simp)), ih _ (fun y hy => h y (by simp [hy]))]
theorem go_at (s : ByteArray) : ∀ (l : List S63) (i : Nat) (a : Int), i < l.length → (l.getD i z63).f0.toList = s.toList → (∀ j, j < i → (l.getD j z63).f0.toList ≠ s.toList) → impl_nameAt.go s l a = a + i := by
  intro l
  induction l with
  | nil => intro i a h; simp at h
  | cons x l ih =>
    intro i a h he hn
    unfold impl_nameAt.go
    cases i with
    | zero =>
      have e : x.f0.toList = s.toList := by simpa using he
      rw [if_pos e]; simp
    | succ i =>
      have h0 : x.f0.toList ≠ s.toList := by simpa using hn 0 (by omega)
      rw [if_neg h0, ih i (a + 1) (by simpa using h) (by simpa using he) (fun j hj => by simpa using hn (j + 1) (by omega))]
      omega
theorem sort_less {l : List S63} (h : ∀ i, 0 < i → i < l.length → Op.bytesLess (l.getD (i - 1) z63).f0.toList (l.getD i z63).f0.toList = true) : ∀ (d i : Nat), i + d + 1 < l.length → Op.bytesLess (l.getD i z63).f0.toList (l.getD (i + d + 1) z63).f0.toList = true := by
  intro d
  induction d with
  | zero => intro i hi; exact h (i + 1) (by omega) (by omega)
  | succ d ih =>
    intro i hi
    exact less_trans _ _ _ (ih i (by omega)) (h (i + (d + 1) + 1) (by omega) (by omega))
theorem at_same {l : List S63} {s : ByteArray} {i : Nat} {found : Bool} (hl : l.length ≤ 140737488351232) (hi : i ≤ l.length) (h1 : ∀ j, j < i → Op.bytesLess (l.getD j z63).f0.toList s.toList = true) (h2 : (i = l.length ∧ found = false) ∨ (i < l.length ∧ ¬ Op.bytesLess (l.getD i z63).f0.toList s.toList = true ∧ found = ((l.getD i z63).f0.toList == s.toList)))
    (hs : ∀ i, 0 < i → i < l.length → Op.bytesLess (l.getD (i - 1) z63).f0.toList (l.getD i z63).f0.toList = true) :
    impl_nameAt.f l s = some (if found = true then (i : Int) else -1) := by
  unfold impl_nameAt.f
  rw [if_pos hl]
  congr 1
  have hne : ∀ j, j < i → (l.getD j z63).f0.toList ≠ s.toList := by
    intro j hj e
    have := h1 j hj
    rw [e, less_irrefl] at this
    exact absurd this (by decide)
  rcases h2 with ⟨e, rfl⟩ | ⟨hlt, hnl, hf⟩
  · rw [if_neg (by decide)]
    refine go_none s l 0 (fun x hx => ?_)
    obtain ⟨j, hj, rfl⟩ := List.getElem_of_mem hx
    have := hne j (by omega)
    rw [List.getD_eq_getElem?_getD, List.getElem?_eq_getElem hj] at this
    exact this
  · by_cases he : (l.getD i z63).f0.toList = s.toList
    · rw [if_pos (by rw [hf, beq_iff_eq]; exact he), go_at s l i 0 hlt he hne, Int.zero_add]
    · rw [if_neg (by rw [hf, beq_iff_eq]; exact he)]
      refine go_none s l 0 (fun x hx => ?_)
      obtain ⟨j, hj, rfl⟩ := List.getElem_of_mem hx
      have ej : l.getD j z63 = l[j] := by rw [List.getD_eq_getElem?_getD, List.getElem?_eq_getElem hj]; rfl
      rw [← ej]
      rcases Nat.lt_trichotomy j i with h | h | h
      · exact hne j h
      · rw [h]; exact he
      · intro e
        have := sort_less hs (j - i - 1) i (by omega)
        rw [show i + (j - i - 1) + 1 = j by omega, e] at this
        exact hnl this
theorem good_sort {nb : Int} {l : List S63} (h : namesB nb l = true) : ∀ i, 0 < i → i < l.length → Op.bytesLess (l.getD (i - 1) z63).f0.toList (l.getD i z63).f0.toList = true :=
  fun i h0 hi => badAt_sort ((namesB_facts h).2 i hi) h0
theorem nameAt_some (l : List S63) (s : ByteArray) (hl : l.length ≤ 140737488351232) : ∃ t, impl_nameAt.f l s = some t := by
  unfold impl_nameAt.f; rw [if_pos hl]; exact ⟨_, rfl⟩

theorem safe_both (B : List S49) (L S : List S63) (room : Int) (s : ByteArray) (h : diskB B L S) : ∃ r, Ev (fun k => spec_SafeFile.f k B L S room s) r ∧ Ev (fun k => impl_SafeFile.f k B L S room s) r := by
  have hd := h
  obtain ⟨hB, hL, hS, _⟩ := h
  obtain ⟨i, found, h1, h2, h3, h4⟩ := spec_at S s (by omega)
  obtain ⟨t, ht⟩ := nameAt_some S s (by omega)
  unfold spec_SafeFile.f impl_SafeFile.f
  by_cases hg : goodDiskV B L S room = true
  · have hn := (good_names hg).2.1
    have ha := at_same (by omega) h2 h3 h4 (good_sort hn)
    cases found with
    | false =>
      refine ⟨(⟨#[]⟩, false), Ev.bind h1 (Ev.bind (spec_goodDisk B L S room hd) (Ev.pos_ hg ?_)), ?_⟩
      · refine Ev.step (fun k => by rw [spec_SafeFile.j0]) ?_
        exact Ev.pos_ rfl (Ev.now _)
      · rw [ha, if_neg (by decide)]
        refine Ev.some_ (Ev.bind (impl_goodDisk B L S room (by omega) (by omega) (by omega)) (Ev.pos_ hg ?_))
        refine Ev.step (fun k => by rw [impl_SafeFile.j0]) ?_
        exact Ev.pos_ rfl (Ev.now _)
    | true =>
      have hi : i < S.length := by rcases h4 with ⟨_, e⟩ | ⟨e, _⟩; · exact absurd e (by decide)
                                   · exact e
      have hin := badAt_in ((namesB_facts hn).2 i hi)
      have hbl := blobs_in B.length 0 (by omega) (good_names hg).2.2 (S.getD i z63).f1.toNat (by omega) (by omega)
      have hbl2 : 0 ≤ (rd_T49 B (S.getD i z63).f1).f1 ∧ (rd_T49 B (S.getD i z63).f1).f1 ≤ ((rd_T49 B (S.getD i z63).f1).f0.size : Int) := by
        unfold rd_T49
        simp only [blobBad, Bool.or_eq_false_iff, Bool.not_eq_false', inB_iff] at hbl
        exact hbl.2
      refine ⟨((rd_T49 B (S.getD i z63).f1).f0.extract 0 (rd_T49 B (S.getD i z63).f1).f1.toNat, true), Ev.bind h1 (Ev.bind (spec_goodDisk B L S room hd) (Ev.pos_ hg ?_)), ?_⟩
      · refine Ev.step (fun k => by rw [spec_SafeFile.j0]) ?_
        refine Ev.neg_ (by simp) (Ev.pos_ (by show (0 : Int) ≤ i; omega) (Ev.pos_ (by show (i : Int) < _; omega) ?_))
        simp only [rd_N_nat]
        exact Ev.pos_ hin.1 (Ev.pos_ hin.2 (Ev.pos_ hbl2.1 (Ev.pos_ hbl2.2 (Ev.now _))))
      · rw [ha, if_pos rfl]
        refine Ev.some_ (Ev.bind (impl_goodDisk B L S room (by omega) (by omega) (by omega)) (Ev.pos_ hg ?_))
        rw [decide_eq_false (show ¬ (i : Int) < 0 by omega)]
        refine Ev.step (fun k => by rw [impl_SafeFile.j0]) ?_
        refine Ev.neg_ (by decide) (Ev.pos_ (by omega) (Ev.pos_ (by omega) ?_))
        simp only [rd_N_nat]
        exact Ev.pos_ hin.1 (Ev.pos_ hin.2 (Ev.pos_ hbl2.1 (Ev.pos_ hbl2.2 (Ev.now _))))
  · refine ⟨(⟨#[]⟩, false), Ev.bind h1 (Ev.bind (spec_goodDisk B L S room hd) (Ev.neg_ hg ?_)), ?_⟩
    · refine Ev.step (fun k => by rw [spec_SafeFile.j0]) ?_
      exact Ev.pos_ rfl (Ev.now _)
    · rw [ht]
      refine Ev.some_ (Ev.bind (impl_goodDisk B L S room (by omega) (by omega) (by omega)) (Ev.neg_ hg ?_))
      refine Ev.step (fun k => by rw [impl_SafeFile.j0]) ?_
      exact Ev.pos_ rfl (Ev.now _)
theorem FnExactSafeFile (B : List S69) (L S : List S71) (room : Int) (s : ByteArray) (hb : diskIn B L S room) (_ : s.size ≤ 140737488351232) : ∃ k, laws_FnExactSafeFile.f k B L S room s = some true := by
  obtain ⟨h1, h2, h3⟩ := diskIn_len hb
  apply Ev.rounds (r := true)
  obtain ⟨r, hr⟩ := szDisk_some B L S room 1048576 (by omega) (by omega) (by omega)
  have ht := toDisk_ B L S room hb
  obtain ⟨v, hv1, hv2⟩ := safe_both _ _ _ room s (diskB_conv hb)
  unfold laws_FnExactSafeFile.f
  refine Ev.ite_ (fun _ => Ev.now _) (fun _ => ?_)
  refine Ev.bind hr (Ev.ite_ (fun _ => Ev.now _) (fun _ => ?_))
  refine Ev.bind ht (Ev.bind hv1 (Ev.bind ht (Ev.bind hv2 (Ev.pos_ rfl ?_))))
  simp only [bne_self_eq_false]
  refine Ev.step (fun k => by rw [laws_FnExactSafeFile.j0]) ?_
  exact Ev.neg_ (by decide) (Ev.bind ht (Ev.bind (eqDisk_refl _ _ _ room (by simp; omega) (by simp; omega) (by simp; omega)) (Ev.pos_ rfl (Ev.now _))))

end Go.Proofs.YtocmgmolbfhkaaaDoor.Pure
