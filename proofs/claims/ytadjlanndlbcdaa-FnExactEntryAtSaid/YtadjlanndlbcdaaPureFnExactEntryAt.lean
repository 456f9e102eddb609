/-
  The plain statement of the law FnExactEntryAt, proved: over numbers and lists alone. No condition beyond the given ones.
-/
import Derived.Test.YtadjlanndlbcdaaMFnExactEntryAtx4
namespace Go.Proofs.Ytadjlanndlbcdaa.Pure
open Go Go.RowKit Go.Proofs.Ytadjlanndlbcdaa.MFnExactEntryAt Go.Proofs.YtadjlanndlbcdaaW.PrintWords Go.Proofs.YtadjlanndlbcdaaW.PrintLast Go.Proofs.YtadjlanndlbcdaaW.PrintMore
set_option linter.unusedVariables false
set_option linter.unusedSimpArgs false

-- part base: plain facts on Go's numbers and on rounds
theorem lt_mn {i a b : Int} : i < mn a b ↔ i < a ∧ i < b := by unfold mn; split <;> omega
theorem mn_le {a b : Int} : mn a b ≤ a ∧ mn a b ≤ b := by unfold mn; split <;> omega
theorem w64 {n : Int} (h0 : -9223372036854775808 ≤ n) (h1 : n ≤ 9223372036854775807) : wrap64 n = n := by unfold wrap64; omega
theorem wrap_u64 (n : Int) : IntKind.u64.wrap n = n % 18446744073709551616 := by simp [IntKind.wrap, IntKind.bits, IntKind.signed]
theorem wu64 {n : Int} (h0 : 0 ≤ n) (h1 : n ≤ 18446744073709551615) : IntKind.u64.wrap n = n := by rw [wrap_u64]; omega
theorem wu32 {n : Int} (h0 : 0 ≤ n) (h1 : n ≤ 4294967295) : IntKind.u32.wrap n = n := by rw [IntKind.wrap_u32]; omega
theorem wraps_u32 (n : Int) (h₀ : 0 ≤ n) (h₁ : n < 2 ^ 32) : IntKind.u32.wrap n = n := by rw [IntKind.wrap_u32]; omega
theorem wraps_i64 (n : Int) (h₀ : 0 ≤ n) (h₁ : n < 2 ^ 63) : IntKind.i64.wrap n = n := by rw [IntKind.wrap_i64]; omega
theorem and127 {b : Int} (h0 : 0 ≤ b) (h1 : b ≤ 255) : Go.bits .and .u8 b 127 = b % 128 := bits_mask .u8 8 (by decide) wraps_u8 7 (by decide) b h0 (by omega)
theorem wf_i64 {n : Int} (h : (Lit.int .i64 n).wf = true) : -9223372036854775808 ≤ n ∧ n ≤ 9223372036854775807 := by
  simp only [Lit.wf, Bool.and_eq_true, decide_eq_true_eq] at h
  exact h
theorem wf_u32 {n : Int} (h : (Lit.int .u32 n).wf = true) : 0 ≤ n ∧ n ≤ 4294967295 := by
  simp only [Lit.wf, Bool.and_eq_true, decide_eq_true_eq] at h
  exact h
theorem bits_or_comm (k : IntKind) (x y : Int) : Go.bits .or k x y = Go.bits .or k y x := by
  simp only [Go.bits, BitVec.or_comm]
theorem and127i {b : Int} (h0 : 0 ≤ b) (h1 : b ≤ 9223372036854775807) : Go.bits .and .i64 b 127 = b % 128 := bits_mask .i64 63 (by decide) wraps_i64 7 (by decide) b h0 (by omega)
theorem or128i {b : Int} (h0 : 0 ≤ b) (h1 : b < 128) : Go.bits .or .i64 b 128 = b + 128 := by
  rw [bits_or_comm, bits_join .i64 63 (by decide) wraps_i64 7 128 b (by omega) (by omega) (by omega) h0 (by omega) (by omega)]; omega
theorem Ev.ite_ {α : Type} {c : Prop} [Decidable c] {g f : Nat → Option α} {r : α} (h : c → Ev g r) (k : ¬c → Ev f r) : Ev (fun n => if c then g n else f n) r := by
  by_cases hc : c
  · simp only [if_pos hc]; exact h hc
  · simp only [if_neg hc]; exact k hc
theorem Ev.pos_ {α : Type} {c : Prop} [Decidable c] {g f : Nat → Option α} {r : α} (hc : c) (h : Ev g r) : Ev (fun n => if c then g n else f n) r := by simp only [if_pos hc]; exact h
theorem Ev.neg_ {α : Type} {c : Prop} [Decidable c] {g f : Nat → Option α} {r : α} (hc : ¬c) (h : Ev f r) : Ev (fun n => if c then g n else f n) r := by simp only [if_neg hc]; exact h
theorem Ev.some_ {α β : Type} {f : Nat → α → Option β} {x : α} {r : β} (h : Ev (fun n => f n x) r) : Ev (fun n => (some x).bind (f n)) r := by simpa only [Option.bind_some] using h
theorem bo_and (b c : Bool) : (if b = true then some c else some false) = some (b && c) := by cases b <;> rfl
theorem bo_andP (p : Prop) [Decidable p] (c : Bool) : (if p then some c else some false) = some (decide p && c) := by by_cases h : p <;> simp [h]
theorem bo_orP (p : Prop) [Decidable p] (c : Bool) : (if p then some true else some c) = some (decide p || c) := by by_cases h : p <;> simp [h]
theorem bo_or (b c : Bool) : (if b = true then some true else some c) = some (b || c) := by cases b <;> rfl
def inB (a lo hi : Int) : Bool := decide (lo ≤ a) && decide (a ≤ hi)
theorem inB_iff {a lo hi : Int} : inB a lo hi = true ↔ lo ≤ a ∧ a ≤ hi := by simp [inB]

-- part listM: loops over lists by their index
def mkL {α : Type} (enc : Int → α) (c : Int) : Nat → Int → List α
  | 0, _ => []
  | d + 1, m => enc m :: mkL enc c d (m + c)
theorem mkL_len {α : Type} (enc : Int → α) (c : Int) : ∀ (d : Nat) (m : Int), (mkL enc c d m).length = d := by
  intro d; induction d with
  | zero => intro m; rfl
  | succ d ih => intro m; simp [mkL, ih]
theorem mark_gen {α : Type} (L : Nat → List α → Int → Int → Option (Int × List α)) (enc : Int → α) (c B : Int) (hc : 0 ≤ c)
    (hstep : ∀ (xs : List α) (m : Int) (i : Nat) (r : Int × List α), 0 < m → m + c ≤ B → i < xs.length → xs.length ≤ 140737488351232 → Ev (fun k => L k (xs.set i (enc m)) (m + c) ((i + 1 : Nat) : Int)) r → Ev (fun k => L k xs m (i : Int)) r)
    (hend : ∀ (xs : List α) (m : Int), Ev (fun k => L k xs m (xs.length : Int)) (m, xs)) :
    ∀ (d : Nat) (xs : List α) (m : Int) (i : Nat), i + d = xs.length → 0 < m → m + c * d ≤ B → xs.length ≤ 140737488351232 → Ev (fun k => L k xs m (i : Int)) (m + c * d, xs.take i ++ mkL enc c d m) := by
  intro d
  induction d with
  | zero =>
    intro xs m i hi hm hB hl
    have := hend xs m
    obtain rfl : i = xs.length := by omega
    simpa [mkL] using this
  | succ d ih =>
    intro xs m i hi hm hB hl
    have hcd : c * ((d + 1 : Nat) : Int) = c * d + c := by rw [Int.natCast_add, Int.mul_add]; simp
    have hcd0 : 0 ≤ c * (d : Int) := Int.mul_nonneg hc (by omega)
    refine hstep xs m i _ hm (by omega) (by omega) hl ?_
    have := ih (xs.set i (enc m)) (m + c) (i + 1) (by simp; omega) (by omega) (by omega) (by simpa using hl)
    have e : (xs.set i (enc m)).take (i + 1) ++ mkL enc c d (m + c) = xs.take i ++ mkL enc c (d + 1) m := by
      rw [List.take_set, List.take_succ_eq_append_getElem (by omega), List.set_append_right _ _ (by simp; omega)]
      simp [mkL, Nat.min_eq_left (show i ≤ xs.length by omega)]
    rw [e] at this
    rw [show m + c * ((d + 1 : Nat) : Int) = m + c + c * d by omega]
    exact this
theorem held_gen {α : Type} (H : Nat → List α → Int → Int → Option Int) (enc : Int → α) (c B : Int) (hc : 0 ≤ c)
    (hstep : ∀ (xs : List α) (m : Int) (i : Nat) (r : Int), 0 < m → m + c ≤ B → i < xs.length → xs.length ≤ 140737488351232 → xs[i]? = some (enc m) → Ev (fun k => H k xs (m + c) ((i + 1 : Nat) : Int)) r → Ev (fun k => H k xs m (i : Int)) r)
    (hend : ∀ (xs : List α) (m : Int), Ev (fun k => H k xs m (xs.length : Int)) m) :
    ∀ (d : Nat) (pre : List α) (m : Int), 0 < m → m + c * d ≤ B → pre.length + d ≤ 140737488351232 → Ev (fun k => H k (pre ++ mkL enc c d m) m (pre.length : Int)) (m + c * d) := by
  intro d
  induction d with
  | zero =>
    intro pre m hm hB hl
    have := hend pre m
    simpa [mkL] using this
  | succ d ih =>
    intro pre m hm hB hl
    have hcd : c * ((d + 1 : Nat) : Int) = c * d + c := by rw [Int.natCast_add, Int.mul_add]; simp
    have hcd0 : 0 ≤ c * (d : Int) := Int.mul_nonneg hc (by omega)
    refine hstep _ m pre.length _ hm (by omega) (by simp [mkL]) (by simp [mkL_len]; omega) (by simp [mkL]) ?_
    have := ih (pre ++ [enc m]) (m + c) (by omega) (by omega) (by simp; omega)
    rw [show m + c * ((d + 1 : Nat) : Int) = m + c + c * d by omega]
    simpa [mkL] using this
theorem to_gen {α β : Type} (L : Nat → List α → List β → Int → Option (List β)) (f : α → β) (z : β) (za : α)
    (hstep : ∀ (xs : List α) (ys : List β) (i : Nat) (r : List β), i < xs.length → i < ys.length → xs.length ≤ 140737488351232 → Ev (fun k => L k xs (ys.set i (f (xs.getD i za))) ((i + 1 : Nat) : Int)) r → Ev (fun k => L k xs ys (i : Int)) r)
    (hend : ∀ (xs : List α) (ys : List β), Ev (fun k => L k xs ys (xs.length : Int)) ys) :
    ∀ (d : Nat) (xs : List α) (i : Nat), i + d = xs.length → xs.length ≤ 140737488351232 → Ev (fun k => L k xs ((xs.take i).map f ++ List.replicate d z) (i : Int)) (xs.map f) := by
  intro d
  induction d with
  | zero =>
    intro xs i hi hl
    obtain rfl : i = xs.length := by omega
    have := hend xs (xs.map f)
    simpa using this
  | succ d ih =>
    intro xs i hi hl
    refine hstep xs _ i _ (by omega) (by simp; omega) hl ?_
    have := ih xs (i + 1) (by omega) hl
    have e : ((xs.take i).map f ++ List.replicate (d + 1) z).set i (f (xs.getD i za)) = (xs.take (i + 1)).map f ++ List.replicate d z := by
      have h0 : i - ((xs.take i).map f).length = 0 := by simp; omega
      rw [List.take_succ_eq_append_getElem (show i < xs.length by omega), List.map_append, List.set_append_right _ _ (by simp; omega), List.append_assoc, h0]
      congr 1
      simp [List.replicate_succ, List.getD_eq_getElem?_getD, List.getElem?_eq_getElem (show i < xs.length by omega)]
    rw [e]
    exact this
theorem eq_gen {α : Type} (E : Nat → List α → List α → Int → Option Bool)
    (hstep : ∀ (xs : List α) (i : Nat), i < xs.length → xs.length ≤ 140737488351232 → Ev (fun k => E k xs xs ((i + 1 : Nat) : Int)) true → Ev (fun k => E k xs xs (i : Int)) true)
    (hend : ∀ (xs : List α), Ev (fun k => E k xs xs (xs.length : Int)) true) :
    ∀ (d : Nat) (xs : List α) (i : Nat), i + d = xs.length → xs.length ≤ 140737488351232 → Ev (fun k => E k xs xs (i : Int)) true := by
  intro d
  induction d with
  | zero => intro xs i hi hl; obtain rfl : i = xs.length := by omega
            exact hend xs
  | succ d ih => intro xs i hi hl; exact hstep xs i (by omega) hl (ih xs (i + 1) (by omega) hl)
theorem sz_gen {α : Type} (Z : Nat → List α → Int → Int → Option Int)
    (hstep : ∀ (xs : List α) (m : Int) (i : Nat), i < xs.length → xs.length ≤ 140737488351232 → (∀ m', ∃ r, Ev (fun k => Z k xs m' ((i + 1 : Nat) : Int)) r) → ∃ r, Ev (fun k => Z k xs m (i : Int)) r)
    (hend : ∀ (xs : List α) (m : Int), ∃ r, Ev (fun k => Z k xs m (xs.length : Int)) r) :
    ∀ (d : Nat) (xs : List α) (m : Int) (i : Nat), i + d = xs.length → xs.length ≤ 140737488351232 → ∃ r, Ev (fun k => Z k xs m (i : Int)) r := by
  intro d
  induction d with
  | zero => intro xs m i hi hl; obtain rfl : i = xs.length := by omega
            exact hend xs m
  | succ d ih => intro xs m i hi hl; exact hstep xs m i (by omega) hl (fun m' => ih xs m' (i + 1) (by omega) hl)
theorem wi {i n : Nat} (h : i < n) (hn : n ≤ 140737488351232) : wrap64 ((i : Int) + 1) = ((i + 1 : Nat) : Int) := by rw [w64 (by omega) (by omega)]; omega
theorem rd_nat (xs : List Int) (i : Nat) : rd xs (i : Int) = xs.getD i 0 := by unfold rd; rw [Int.toNat_natCast]
theorem rdOf_nat {α : Type} (d : α) (xs : List α) (i : Nat) : rdOf d xs (i : Int) = xs.getD i d := by unfold rdOf; rw [Int.toNat_natCast]
theorem getD_of {α : Type} {xs : List α} {i : Nat} {a : α} (d : α) (h : xs[i]? = some a) : xs.getD i d = a := by rw [List.getD_eq_getElem?_getD, h]; rfl

-- part varM: a number's bytes, as a list of numbers
def varL : Nat → Int → List Int
  | 0, x => [x]
  | d + 1, x => if x ≥ 128 then (x % 128 + 128) :: varL d (x / 128) else [x]
def varB (x : Int) : ByteArray := strOfNums (varL 8 x)
theorem varL_len (d : Nat) : ∀ x : Int, 1 ≤ (varL d x).length ∧ (varL d x).length ≤ d + 1 := by
  induction d with
  | zero => intro x; simp [varL]
  | succ d ih =>
    intro x
    unfold varL
    split
    · have := ih (x / 128); simp only [List.length_cons]; omega
    · simp
theorem varB_size (x : Int) : 1 ≤ (varB x).size ∧ (varB x).size ≤ 9 := by
  have := varL_len 8 x; unfold varB; rw [strOfNums_size]; exact this

-- part specIn needs spec_l1In.f
theorem spec_in (a lo hi : Int) : spec_l1In.f a lo hi = some (inB a lo hi) := by
  unfold spec_l1In.f inB; rw [bo_andP]

-- part implIn needs impl_in.f
theorem impl_in_ (a lo hi : Int) : impl_in.f a lo hi = some (inB a lo hi) := by
  unfold impl_in.f inB; rw [bo_andP]

-- part entryM
def entryB (t : Int) (d : ByteArray) : Bool := inB t 1 1000000 && decide ((d.size : Int) ≤ 100)
def entryV (i t : Int) (d : ByteArray) : ByteArray := (varB i ++ varB t) ++ d
theorem entryB_iff {t : Int} {d : ByteArray} : entryB t d = true ↔ 1 ≤ t ∧ t ≤ 1000000 ∧ d.size ≤ 100 := by
  unfold entryB inB; simp only [Bool.and_eq_true, decide_eq_true_eq]; omega

-- part specEntry needs spec_l3Entry.f
theorem spec_entry (t : Int) (d : ByteArray) : spec_l3Entry.f t d = some (entryB t d) := by
  unfold spec_l3Entry.f entryB
  simp only [spec_in, Option.bind_some, bo_and]

-- part implEntry needs impl_goodEntry.f
theorem impl_entry (t : Int) (d : ByteArray) : impl_goodEntry.f t d = some (entryB t d) := by
  unfold impl_goodEntry.f entryB
  simp only [impl_in_, Option.bind_some, bo_and]

-- part toEntryS needs laws_toEntryS.f
def convEntry (a : S62) : S34 := ⟨a.f0, a.f1⟩
theorem rd_T62_nat (xs : List S62) (i : Nat) : rd_T62 xs (i : Int) = xs.getD i z62 := by unfold rd_T62; rw [Int.toNat_natCast]
theorem toEntryS_ (l : List S62) (hl : l.length * 16 ≤ 140737488351232 ∧ l.length ≤ 5864062014805) : Ev (fun k => laws_toEntryS.f k l) (l.map convEntry) := by
  unfold laws_toEntryS.f
  refine Ev.pos_ (by omega) (Ev.pos_ (by omega) ?_)
  have := to_gen laws_toEntryS.l0 convEntry z34 z62 (fun xs ys i r hi hy hn h => ?_) (fun xs ys => Ev.step (f := fun _ => some ys) (fun k => ?_) (Ev.now _)) l.length l 0 (by omega) (by omega)
  · simpa using this
  · refine Ev.step (fun k => by rw [laws_toEntryS.l0]) ?_
    refine Ev.pos_ (by omega) (Ev.pos_ (by omega) ?_)
    simp only [laws_toEntry.f, Option.bind_some]
    refine Ev.pos_ (by omega) ?_
    simp only [wi hi hn, Int.toNat_natCast, rd_T62_nat]; exact h
  · simp only [laws_toEntryS.l0]; rw [if_neg (by omega)]

-- part szEntryS needs laws_szEntryS.f
theorem szEntry_some (f0 f1) (m : Int) : ∃ r, laws_szEntry.f f0 f1 m = some r := by
  unfold laws_szEntry.f
  repeat' first | exact ⟨_, rfl⟩ | split
theorem szEntryS_some (l : List S62) (m : Int) (hl : l.length ≤ 140737488351232) : ∃ r, Ev (fun k => laws_szEntryS.f k l m) r := by
  unfold laws_szEntryS.f
  by_cases h : wrap64 (m - (l.length : Int)) < 0
  · exact ⟨-1, Ev.pos_ h (Ev.now _)⟩
  · have := sz_gen laws_szEntryS.l0 (fun xs m i hi hn h => ?_) (fun xs m => ⟨m, Ev.step (f := fun _ => some m) (fun k => ?_) (Ev.now _)⟩) l.length l (wrap64 (m - (l.length : Int))) 0 (by omega) hl
    · obtain ⟨r, hr⟩ := this
      exact ⟨r, Ev.neg_ h (by simpa using hr)⟩
    · obtain ⟨r, e⟩ := szEntry_some (rd_T62 xs i).f0 (rd_T62 xs i).f1 m
      by_cases hr : r < 0
      · refine ⟨-1, ?_⟩
        refine Ev.step (fun k => by rw [laws_szEntryS.l0]) ?_
        refine Ev.pos_ (by omega) (Ev.pos_ (by omega) ?_)
        simp only [e, Option.bind_some]
        exact Ev.pos_ hr (Ev.now _)
      · obtain ⟨q, hq⟩ := h r
        refine ⟨q, ?_⟩
        refine Ev.step (fun k => by rw [laws_szEntryS.l0]) ?_
        refine Ev.pos_ (by omega) (Ev.pos_ (by omega) ?_)
        simp only [e, Option.bind_some]
        refine Ev.neg_ hr ?_
        simp only [wi hi hn]; exact hq
    · simp only [laws_szEntryS.l0]; rw [if_neg (by omega)]

-- part eqEntryS needs laws_eqEntryS.f
theorem eqEntryS_refl (l : List S34) (hl : l.length ≤ 140737488351232) : Ev (fun k => laws_eqEntryS.f k l l) true := by
  unfold laws_eqEntryS.f
  refine Ev.pos_ rfl (eq_gen laws_eqEntryS.l0 (fun xs i hi hn h => Ev.step (fun k => ?_) h) (fun xs => Ev.step (f := fun _ => some true) (fun k => ?_) (Ev.now _)) l.length l 0 (by omega) hl)
  · have e : laws_eqEntry.f (rd_T34 xs i).f0 (rd_T34 xs i).f1 (rd_T34 xs i).f0 (rd_T34 xs i).f1 = some true := by simp [laws_eqEntry.f]
    simp only [laws_eqEntryS.l0]; rw [if_pos (by omega), if_pos (by omega), if_pos (by omega), e, wi hi hn]; rfl
  · simp only [laws_eqEntryS.l0]; rw [if_neg (by omega)]

-- part walM: logs
theorem rdE_nat (xs : List S34) (i : Nat) : rd_T34 xs (i : Int) = xs.getD i z34 := by unfold rd_T34; rw [Int.toNat_natCast]
def entriesR (l : List S34) : Nat → Nat → Int → Bool
  | 0, _, _ => true
  | d + 1, i, t => if entryB (l.getD i z34).f0 (l.getD i z34).f1 = true then (if (l.getD i z34).f0 < t then false else entriesR l d (i + 1) (l.getD i z34).f0) else false
def headB (f b : Int) (n : Nat) : Bool := inB f 1 1000000 && (inB b 0 1000000 && (((b == 0) == (f == 1)) && decide ((n : Int) ≤ 60)))
def goodWalV (f b : Int) (l : List S34) : Bool := headB f b l.length && entriesR l l.length 0 b
theorem goodWalV_head {f b : Int} {l : List S34} (h : goodWalV f b l = true) : 1 ≤ f ∧ f ≤ 1000000 ∧ 0 ≤ b ∧ b ≤ 1000000 ∧ l.length ≤ 60 := by
  unfold goodWalV headB at h
  simp only [Bool.and_eq_true, inB_iff, decide_eq_true_eq] at h
  omega

-- part specWal needs spec_GoodWal.f
theorem spec_wal_l (f b : Int) (l : List S34) (hl : l.length ≤ 140737488351232) : ∀ (d i : Nat) (t : Int), i + d = l.length → Ev (fun k => spec_GoodWal.l0 k t l (l.length : Int) i f b l) (entriesR l d i t && headB f b l.length) := by
  intro d
  induction d with
  | zero =>
    intro i t hi
    refine Ev.step (fun k => by rw [spec_GoodWal.l0]) ?_
    refine Ev.neg_ (by omega) ?_
    simp only [spec_in, Option.bind_some, bo_and, entriesR, Bool.true_and]
    exact Ev.now _
  | succ d ih =>
    intro i t hi
    unfold entriesR
    have hn := ih (i + 1) (l.getD i z34).f0 (by omega)
    refine Ev.step (fun k => by rw [spec_GoodWal.l0]) ?_
    refine Ev.pos_ (by omega) (Ev.pos_ (by omega) (Ev.pos_ (by omega) ?_))
    simp only [rdE_nat, spec_entry, Option.bind_some, wi (show i < l.length by omega) hl]
    by_cases h : entryB (l.getD i z34).f0 (l.getD i z34).f1 = true
    · simp only [if_pos h]
      by_cases h2 : (l.getD i z34).f0 < t
      · simp only [if_pos h2]; exact Ev.now _
      · simp only [if_neg h2]; exact hn
    · simp only [if_neg h]; exact Ev.now _
theorem spec_wal (f b : Int) (l : List S34) (hl : l.length ≤ 140737488351232) : Ev (fun k => spec_GoodWal.f k f b l) (goodWalV f b l) := by
  unfold goodWalV; rw [Bool.and_comm]
  exact spec_wal_l f b l hl l.length 0 b (by omega)

-- part implWal needs impl_GoodWal.f
theorem impl_wal_l (l : List S34) (hl : l.length ≤ 140737488351232) : ∀ (d i : Nat) (t : Int), i + d = l.length → Ev (fun k => impl_GoodWal.l0 k t l (l.length : Int) i) (entriesR l d i t) := by
  intro d
  induction d with
  | zero =>
    intro i t hi
    refine Ev.step (fun k => by rw [impl_GoodWal.l0]) ?_
    exact Ev.neg_ (by omega) (Ev.now _)
  | succ d ih =>
    intro i t hi
    unfold entriesR
    have hn := ih (i + 1) (l.getD i z34).f0 (by omega)
    refine Ev.step (fun k => by rw [impl_GoodWal.l0]) ?_
    refine Ev.pos_ (by omega) (Ev.pos_ (by omega) (Ev.pos_ (by omega) ?_))
    simp only [rdE_nat, impl_entry, Option.bind_some, wi (show i < l.length by omega) hl]
    by_cases h : entryB (l.getD i z34).f0 (l.getD i z34).f1 = true
    · simp only [if_pos h]
      by_cases h2 : (l.getD i z34).f0 < t
      · simp only [if_pos h2]; exact Ev.now _
      · simp only [if_neg h2]; exact hn
    · simp only [if_neg h]; exact Ev.now _
theorem impl_wal (f b : Int) (l : List S34) (hl : l.length ≤ 140737488351232) : Ev (fun k => impl_GoodWal.f k f b l) (goodWalV f b l) := by
  have hx : ∀ x : Bool, Ev (fun k => impl_GoodWal.j0 k x f b l) (!x && entriesR l l.length 0 b) := by
    intro x
    refine Ev.step (fun k => by rw [impl_GoodWal.j0]) ?_
    cases x with
    | true => exact Ev.pos_ rfl (Ev.now _)
    | false => exact Ev.neg_ (by simp) (impl_wal_l l hl l.length 0 b (by omega))
  unfold impl_GoodWal.f goodWalV headB
  simp only [impl_in_, Option.bind_some]
  by_cases h1 : inB f 1 1000000 = true
  · refine Ev.pos_ h1 ?_
    by_cases h2 : inB b 0 1000000 = true
    · refine Ev.pos_ h2 ?_
      by_cases h3 : ((b == 0) != (f == 1)) = true
      · refine Ev.pos_ h3 ?_
        have h3' : ((b == 0) == (f == 1)) = false := by simpa using h3
        have := hx true
        simpa [h1, h2, h3'] using this
      · refine Ev.neg_ h3 ?_
        have h3' : ((b == 0) == (f == 1)) = true := by simpa using h3
        have := hx (decide ((l.length : Int) > 60))
        have e : (!decide ((l.length : Int) > 60)) = decide ((l.length : Int) ≤ 60) := by
          by_cases hh : (l.length : Int) > 60
          · rw [decide_eq_true hh, decide_eq_false (by omega)]; rfl
          · rw [decide_eq_false hh, decide_eq_true (by omega)]; rfl
        rw [e] at this
        simpa only [h1, h2, h3', Bool.true_and] using this
    · refine Ev.neg_ h2 ?_
      have := hx true
      simpa [h1, h2] using this
  · refine Ev.neg_ h1 ?_
    have := hx true
    simpa [h1] using this

-- part walSz needs laws_szWal.f
theorem szWal_some (f b : Int) (l : List S62) (m : Int) (hl : l.length ≤ 140737488351232) : ∃ r, Ev (fun k => laws_szWal.f k f b l m) r := by
  obtain ⟨r, hr⟩ := szEntryS_some l m hl
  by_cases h : r < 0
  · exact ⟨-1, Ev.bind hr (Ev.pos_ h (Ev.now _))⟩
  · exact ⟨r, Ev.bind hr (Ev.neg_ h (Ev.now _))⟩

-- part walTo needs laws_toWal.f
theorem toWal_ (f b : Int) (l : List S62) (hl : l.length * 16 ≤ 140737488351232 ∧ l.length ≤ 5864062014805) : Ev (fun k => laws_toWal.f k f b l) (f, b, l.map convEntry) :=
  Ev.bind (toEntryS_ l hl) (Ev.now _)

-- part walEq needs laws_eqWal.f
theorem eqWal_refl (f b : Int) (l : List S34) (hl : l.length ≤ 140737488351232) : Ev (fun k => laws_eqWal.f k f b l f b l) true := by
  unfold laws_eqWal.f
  exact Ev.pos_ rfl (Ev.pos_ rfl (Ev.bind (eqEntryS_refl l hl) (Ev.pos_ rfl (Ev.now _))))

def entryAtV (f b : Int) (l : List S34) (i : Int) : Int × ByteArray × Bool :=
  if goodWalV f b l = true ∧ f ≤ i ∧ i ≤ f + l.length - 1 then ((l.getD (i - f).toNat z34).f0, (l.getD (i - f).toNat z34).f1, true) else (0, ⟨#[]⟩, false)
theorem FnExactEntryAt (f b : Int) (l : List S62) (i : Int) (hb : (Lit.int .i64 f).wf = true ∧ (Lit.int .i64 b).wf = true ∧ l.length * 24 ≤ 140737488351232 ∧ ∀ x ∈ l, (Lit.int .i64 x.f0).wf = true ∧ x.f1.size ≤ 140737488351232) (hi0 : (Lit.int .i64 i).wf = true) : ∃ k, laws_FnExactEntryAt.f k f b l i = some true := by
  apply Ev.rounds (r := true)
  have hi := wf_i64 hi0
  obtain ⟨z, hz⟩ := szWal_some f b l 1048576 (by omega)
  have ht := toWal_ f b l (by omega)
  have hl : (l.map convEntry).length ≤ 140737488351232 := by simp; omega
  have hsp : Ev (fun k => spec_EntryAt.f k f b (l.map convEntry) i) (entryAtV f b (l.map convEntry) i) := by
    unfold spec_EntryAt.f entryAtV
    refine Ev.bind (spec_wal f b _ hl) ?_
    by_cases hg : goodWalV f b (l.map convEntry) = true
    · have hh := goodWalV_head hg
      refine Ev.pos_ hg ?_
      rw [w64 (n := f + ((l.map convEntry).length : Int)) (by omega) (by omega), w64 (by omega) (by omega), spec_in]
      refine Ev.some_ ?_
      by_cases hc : f ≤ i ∧ i ≤ f + (l.map convEntry).length - 1
      · have hq : goodWalV f b (l.map convEntry) = true ∧ f ≤ i ∧ i ≤ f + (l.map convEntry).length - 1 := ⟨hg, hc⟩
        rw [if_pos hq, w64 (n := i - f) (by omega) (by omega)]
        have e : i - f = (((i - f).toNat : Nat) : Int) := by omega
        rw [e, rdE_nat, Int.toNat_natCast]
        exact Ev.pos_ (by rw [inB_iff]; omega) (Ev.pos_ (by omega) (Ev.pos_ (by omega) (Ev.now _)))
      · have hq : ¬ (goodWalV f b (l.map convEntry) = true ∧ f ≤ i ∧ i ≤ f + (l.map convEntry).length - 1) := fun e => hc e.2
        rw [if_neg hq]
        exact Ev.neg_ (by rw [inB_iff]; omega) (Ev.now _)
    · have hq : ¬ (goodWalV f b (l.map convEntry) = true ∧ f ≤ i ∧ i ≤ f + (l.map convEntry).length - 1) := fun e => hg e.1
      rw [if_neg hq]; exact Ev.neg_ hg (Ev.now _)
  have him : Ev (fun k => impl_EntryAt.f k f b (l.map convEntry) i) (entryAtV f b (l.map convEntry) i) := by
    unfold impl_EntryAt.f entryAtV impl_Wal_next.f
    refine Ev.bind (impl_wal f b _ hl) ?_
    by_cases hg : goodWalV f b (l.map convEntry) = true
    · have hh := goodWalV_head hg
      refine Ev.pos_ hg (Ev.some_ ?_)
      try dsimp only
      rw [w64 (n := f + ((l.map convEntry).length : Int)) (by omega) (by omega), w64 (by omega) (by omega), impl_in_]
      refine Ev.some_ ?_
      by_cases hc : f ≤ i ∧ i ≤ f + (l.map convEntry).length - 1
      · have hq : goodWalV f b (l.map convEntry) = true ∧ f ≤ i ∧ i ≤ f + (l.map convEntry).length - 1 := ⟨hg, hc⟩
        rw [if_pos hq, w64 (n := i - f) (by omega) (by omega)]
        have e : i - f = (((i - f).toNat : Nat) : Int) := by omega
        rw [e, rdE_nat, Int.toNat_natCast]
        exact Ev.pos_ (by rw [inB_iff]; omega) (Ev.pos_ (by omega) (Ev.pos_ (by omega) (Ev.now _)))
      · have hq : ¬ (goodWalV f b (l.map convEntry) = true ∧ f ≤ i ∧ i ≤ f + (l.map convEntry).length - 1) := fun e => hc e.2
        rw [if_neg hq]
        exact Ev.neg_ (by rw [inB_iff]; omega) (Ev.now _)
    · have hq : ¬ (goodWalV f b (l.map convEntry) = true ∧ f ≤ i ∧ i ≤ f + (l.map convEntry).length - 1) := fun e => hg e.1
      rw [if_neg hq]; exact Ev.neg_ hg (Ev.now _)
  unfold laws_FnExactEntryAt.f
  have eqE : ∀ x y, laws_eqEntry.f x y x y = some true := fun x y => by unfold laws_eqEntry.f; rw [if_pos rfl, if_pos rfl]
  refine Ev.bind hz (Ev.ite_ (fun _ => Ev.now _) (fun _ => ?_))
  refine Ev.bind ht ?_
  refine Ev.bind hsp ?_
  refine Ev.bind ht ?_
  refine Ev.bind him ?_
  rw [eqE]
  refine Ev.some_ (Ev.pos_ rfl ?_)
  refine Ev.step (fun k => by rw [laws_FnExactEntryAt.j0]) ?_
  refine Ev.neg_ (by simp) ?_
  refine Ev.bind ht ?_
  refine Ev.bind (eqWal_refl f b _ hl) ?_
  exact Ev.pos_ rfl (Ev.now _)

end Go.Proofs.Ytadjlanndlbcdaa.Pure
