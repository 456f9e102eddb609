/-
  What the walk of this seat's texts is told beside the library: comparisons of texts, told by one order. No condition.
-/
import Derived.Laws.Strings
namespace Go.Proofs.YtffjlpphcjfdgaaDoorX
open Go
theorem less_of (a : List UInt8) : ∀ b : List UInt8, Op.bytesLess b a = !(Op.bytesLess a b || a == b) := by
  induction a with
  | nil => intro b; cases b <;> simp [Op.bytesLess]
  | cons x a ih =>
    intro b
    cases b with
    | nil => simp [Op.bytesLess]
    | cons y b =>
      simp only [Op.bytesLess, ih b]
      rcases Nat.lt_trichotomy x.toNat y.toNat with h | h | h
      · have h1 : x < y := UInt8.lt_iff_toNat_lt.2 h
        have h2 : ¬ y < x := fun h' => by have := UInt8.lt_iff_toNat_lt.1 h'; omega
        have h3 : ¬ y = x := fun e => by subst e; omega
        have h4 : ¬ x = y := fun e => by subst e; omega
        simp [h1, h2, h3]
      · have e : x = y := UInt8.toNat_inj.1 h
        subst e
        have h1 : ¬ x < x := fun h' => by have := UInt8.lt_iff_toNat_lt.1 h'; omega
        simp [h1]
      · have h1 : y < x := UInt8.lt_iff_toNat_lt.2 h
        have h2 : ¬ x < y := fun h' => by have := UInt8.lt_iff_toNat_lt.1 h'; omega
        have h4 : ¬ x = y := fun e => by subst e; omega
        simp [h1, h2, h4]
theorem str_gtr (t : TypeId) (a b : ByteArray) : binOp .gtr t (.string a) (.string b) = pure (.bool (Op.bytesLess b.toList a.toList)) := by
  rw [less_of]; simp [binOp, Op.stringOp]
theorem str_leq (t : TypeId) (a b : ByteArray) : binOp .leq t (.string a) (.string b) = pure (.bool !(Op.bytesLess b.toList a.toList)) := by
  rw [less_of]; simp [binOp, Op.stringOp]
theorem str_geq (t : TypeId) (a b : ByteArray) : binOp .geq t (.string a) (.string b) = pure (.bool !(Op.bytesLess a.toList b.toList)) := by simp [binOp, Op.stringOp]
end Go.Proofs.YtffjlpphcjfdgaaDoorX
