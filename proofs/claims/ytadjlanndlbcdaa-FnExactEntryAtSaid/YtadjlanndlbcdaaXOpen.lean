/-
  What a value that comes in tells, in the kinds of the seat's words: a number, a text, a slice, a struct, each opened to what it holds. No condition beyond what each theorem names.
-/
import Derived.Test.YtadjlanndlbcdaaWWords
import Derived.Deep.Slices
import Derived.SizedLaws
import Derived.ChangeArms
import Derived.ChangeSame
import Derived.Carry
import Derived.KernelRfl
namespace Go.Proofs.YtadjlanndlbcdaaX
open Go Go.ChangeShapes Go.WideShapes Go.RowKit Go.Deep Go.Proofs.YtadjlanndlbcdaaW.PrintWords
set_option linter.unusedVariables false
section
variable {H : Type} (enc : TypeId × Value → H) (P : Program) (W : World)
def Opens {α : Type} (t : TypeId) (d : Kd α) (B : α → Prop) : Prop :=
  P.cellsOf t = d.sz ∧ ∀ (fuel : Nat) (cs : List Value) (y : DataW H × List MemPlace), DataW.trod enc P W 0 (fun _ => true) true fuel t cs = some y → (∀ n ∈ y.1.weights P t, n ≤ reachBytes) → ∃ x, d.K W x cs ∧ B x
def offs (P : Program) (fs : List TypeId) (i : Nat) : Nat := ((fs.take i).map P.cellsOf).sum
def OpensF {α : Type} (fs : List TypeId) (d : Kd α) (B : α → Prop) : Prop :=
  ∀ (n : Nat) (cs : List Value) (ys : List (DataW H × List MemPlace)), cs.length = (fs.map P.cellsOf).sum → ys.length = fs.length →
    (∀ (i : Nat) (t : TypeId), fs[i]? = some t → DataW.trod enc P W 0 (fun _ => true) true n t ((cs.drop (offs P fs i)).take (P.cellsOf t)) = ys[i]?) →
    (∀ m ∈ DataW.weightsEach P fs (ys.map (·.1)), m ≤ reachBytes) → ∃ x, d.K W x cs ∧ B x
end
section
variable {H : Type} {enc : TypeId × Value → H} {P : Program} {W : World}
theorem opens_int {t : TypeId} {k : IntKind} (ht : P.underlying t = some (.int k)) (hc : P.cellsOf t = 1) : Opens enc P W t (Kd.int k) (fun n => (Lit.int k n).wf = true) := by
  refine ⟨hc, fun fuel cs y h _ => ?_⟩
  obtain ⟨n, rfl, rfl, hn⟩ := DataW.trod_int ht h
  exact ⟨n, rfl, hn⟩
theorem opens_bool {t : TypeId} (ht : P.underlying t = some .bool) (hc : P.cellsOf t = 1) : Opens enc P W t Kd.bool (fun _ => True) := by
  refine ⟨hc, fun fuel cs y h _ => ?_⟩
  obtain ⟨n, rfl, rfl⟩ := DataW.trod_bool ht h
  exact ⟨n, rfl, trivial⟩
theorem opens_string {t : TypeId} (ht : P.underlying t = some .string) (hc : P.cellsOf t = 1) : Opens enc P W t Kd.string (fun s => s.size ≤ 140737488351232) := by
  refine ⟨hc, fun fuel cs y h hw => ?_⟩
  obtain ⟨s, rfl, rfl, hn⟩ := DataW.trod_string ht h
  refine ⟨s, rfl, ?_⟩
  have := hw s.data.toList.length (by simp [DataW.weights])
  rw [Array.length_toList] at this
  exact this
theorem opens_slice {α : Type} {t e : TypeId} {d : Kd α} {B : α → Prop} {b : Nat} (ht : P.underlying t = some (.slice e)) (hc : P.cellsOf t = 1) (hb : P.bytesOf e = b) (he : Opens enc P W e d B) :
    Opens enc P W t (Kd.slice e d) (fun xs => xs.length * b ≤ 140737488351232 ∧ ∀ x ∈ xs, B x) := by
  refine ⟨hc, fun fuel cs y h hw => ?_⟩
  rcases open_slice ht h with ⟨rfl, rfl⟩ | ⟨a, len, cap, m, n, D, Pl, rfl, _, hl, hm, hmm, rfl, hi⟩
  · exact ⟨[], ⟨none, 0, rfl, Nat.le_refl _, Kd.C_nil _ _⟩, by simp, fun x hx => by cases hx⟩
  · have hlm : len ≤ m := by rw [hmm]; simpa using hl
    have hwS : (len + (m - len)) * P.bytesOf e ≤ reachBytes := by
      have := hw ((len + (m - len)) * P.bytesOf e) (by simp [DataW.weights, ht])
      exact this
    have hwE : ∀ i, i < len → ∀ k ∈ (D i).weights P e, k ≤ reachBytes := by
      intro i hil k hk
      refine hw k ?_
      simp only [DataW.weights, ht, List.mem_cons, List.mem_append]
      refine .inr (.inl ?_)
      have : ∀ (l : List (DataW H)) (x : DataW H), x ∈ l → k ∈ x.weights P e → k ∈ DataW.weightsAll P e l := by
        intro l
        induction l with
        | nil => intro x hx; cases hx
        | cons z l ih =>
          intro x hx hk
          simp only [DataW.weightsAll, List.mem_append]
          rcases List.mem_cons.1 hx with rfl | hx
          · exact .inl hk
          · exact .inr (ih x hx hk)
      exact this _ (D i) (List.mem_map.2 ⟨i, List.mem_range.2 hil, rfl⟩) hk
    have hel : ∀ i : Fin len, ∃ x, B x ∧ ∃ c, c.length = d.sz ∧ d.K W x c ∧ ∀ j u, c[j]? = some u → W.cell? (a.add (i.1 * d.sz + j)) = some u := by
      intro ⟨i, hil⟩
      obtain ⟨cs', hcs, htr⟩ := hi i (by omega)
      obtain ⟨x, hx, hB⟩ := he.2 n cs' _ htr (hwE i hil)
      obtain ⟨_, hln, hat⟩ := World.cells?_some hcs
      rw [he.1] at hln hat
      refine ⟨x, hB, cs', hln, hx, fun j u hu => ?_⟩
      have hj : j < d.sz := by have := (List.getElem?_eq_some_iff.1 hu).1; omega
      rw [← Go.Deep.add_add, hat j hj]
      exact hu
    let xs : List α := List.ofFn fun i : Fin len => (hel i).choose
    have hxl : xs.length = len := by simp [xs]
    have hxs : ∀ (i : Nat) (h : i < len), xs[i]? = some ((hel ⟨i, h⟩).choose) := by
      intro i h
      simp [xs, h]
    refine ⟨xs, ⟨some a, cap, by rw [hxl], by omega, by rw [hxl], by simp only [maxLen] at hm; omega, fun hp => ⟨a, rfl, fun j p hj => ?_⟩⟩, ?_, fun x hx => ?_⟩
    · have hjl : j < len := by have := (List.getElem?_eq_some_iff.1 hj).1; omega
      rw [hxs j hjl] at hj
      cases hj
      obtain ⟨c, h1, h2, h3⟩ := (hel ⟨j, hjl⟩).choose_spec.2
      exact ⟨c, h1, h2, h3⟩
    · rw [hxl, ← hb]
      exact Nat.le_trans (Nat.mul_le_mul_right _ (by omega)) hwS
    · obtain ⟨i, hi', rfl⟩ := List.mem_iff_getElem.1 hx
      have hil : i < len := by omega
      have := hxs i hil
      rw [List.getElem?_eq_getElem hi'] at this
      rw [Option.some.inj this]
      exact (hel ⟨i, hil⟩).choose_spec.1
theorem opensF_one {α : Type} {t : TypeId} {d : Kd α} {B : α → Prop} (h : Opens enc P W t d B) : OpensF enc P W [t] d B := by
  intro n cs ys hl hy hf hw
  match ys, hy with
  | [y], _ =>
    have h0 := hf 0 t rfl
    simp only [List.map_cons, List.map_nil, List.sum_cons, List.sum_nil, Nat.add_zero] at hl
    simp only [offs, List.take_zero, List.map_nil, List.sum_nil, List.drop_zero] at h0
    rw [List.take_of_length_le (by omega)] at h0
    refine h.2 n cs y (by simpa using h0) (fun m hm => hw m ?_)
    simp [DataW.weightsEach, hm]
theorem opensF_cons {α β : Type} {t : TypeId} {fs : List TypeId} {d : Kd α} {d' : Kd β} {B : α → Prop} {B' : β → Prop} (h : Opens enc P W t d B) (hs : OpensF enc P W fs d' B') :
    OpensF enc P W (t :: fs) (Kd.pair d d') (fun x => B x.1 ∧ B' x.2) := by
  intro n cs ys hl hy hf hw
  match ys, hy with
  | y :: ys, hy =>
    have h0 := hf 0 t rfl
    simp only [List.map_cons, List.sum_cons] at hl
    simp only [offs, List.take_zero, List.map_nil, List.sum_nil, List.drop_zero] at h0
    obtain ⟨x, hx, hB⟩ := h.2 n _ y (by simpa using h0) (fun m hm => hw m (by simp [DataW.weightsEach, hm]))
    obtain ⟨x', hx', hB'⟩ := hs n (cs.drop (P.cellsOf t)) ys (by rw [List.length_drop]; omega) (by simpa using hy) (fun i t' hi => by
      have := hf (i + 1) t' (by simpa using hi)
      simp only [offs, List.take_succ_cons, List.map_cons, List.sum_cons] at this
      rw [List.drop_drop]
      simpa [offs] using this) (fun m hm => hw m (by simp only [List.map_cons, DataW.weightsEach, List.mem_append]; exact .inr hm))
    exact ⟨(x, x'), ⟨_, _, (List.take_append_drop (P.cellsOf t) cs).symm, hx, hx'⟩, hB, hB'⟩
def offsOk (P : Program) (fs : List Field) : Bool := (List.range fs.length).all fun i => match fs[i]? with
  | some f => f.offset == offs P (fs.map (·.type)) i
  | none => true
theorem opens_struct {α β : Type} {t : TypeId} {fs : Array Field} {d : Kd α} {B : α → Prop} (f : β → α) (g : α → β) (hg : ∀ x, f (g x) = x) (ht : P.underlying t = some (.struct fs)) (hc : P.cellsOf t = d.sz)
    (hc' : P.cellsOf t = ((fs.toList.map (·.type)).map P.cellsOf).sum) (ho : offsOk P fs.toList = true) (h : OpensF enc P W (fs.toList.map (·.type)) d B) : Opens enc P W t (Kd.iso d f) (fun s => B (f s)) := by
  refine ⟨hc, fun fuel cs y hy hw => ?_⟩
  obtain ⟨xs, n, _, rfl, hl, hxl, hf⟩ := DataW.trod_struct ht hy
  obtain ⟨x, hx, hB⟩ := h n cs xs (by rw [hl, hc']) (by simpa using hxl) (fun i t' hi => by
    rw [List.getElem?_map] at hi
    obtain ⟨fl, hfl, rfl⟩ := Option.map_eq_some_iff.1 hi
    have hil : i < fs.toList.length := (List.getElem?_eq_some_iff.1 hfl).1
    have e := List.all_eq_true.1 ho i (List.mem_range.2 hil)
    rw [hfl] at e
    have e' : fl.offset = offs P (fs.toList.map (·.type)) i := by simpa using e
    rw [← e']
    exact hf i fl (by simpa using hfl)) (fun m hm => hw m (by simpa only [DataW.weights, ht] using hm))
  exact ⟨g x, by show d.K W (f (g x)) cs; rw [hg]; exact hx, by show B (f (g x)); rw [hg]; exact hB⟩
theorem weights_at {ts : List TypeId} {ds : List (DataW H)} (h : (DataW.weightsEach P ts ds).all (· ≤ reachBytes) = true) (j : Nat) (t : TypeId) (d : DataW H) (ht : ts[j]? = some t) (hd : ds[j]? = some d) : ∀ n ∈ d.weights P t, n ≤ reachBytes := by
  intro n hn
  have := List.all_eq_true.1 h _ (DataW.weights_mem_each ht hd n hn)
  simpa using this
theorem opened {α : Type} {t : TypeId} {d : Kd α} {B : α → Prop} (ho : Opens enc P W t d B) {v : Value} {x : DataW H} {ps : List MemPlace} (h : DataW.Trod enc P W 0 (fun _ => true) true t v x ps) (hw : ∀ n ∈ x.weights P t, n ≤ reachBytes) :
    ∃ a, d.K W a v.cells.toList ∧ B a := by
  obtain ⟨fuel, hf⟩ := h
  exact ho.2 fuel _ (x, ps) hf hw
theorem places_lt {t : TypeId} {v : Value} {x : DataW H} {ps : List MemPlace} (h : DataW.Trod enc P W 0 (fun _ => true) true t v x ps) : ∀ q ∈ ps, q.block < W.heap.size := by
  obtain ⟨m, hm⟩ := h
  exact DataW.trod_lt m _ _ _ hm
end
end Go.Proofs.YtadjlanndlbcdaaX
