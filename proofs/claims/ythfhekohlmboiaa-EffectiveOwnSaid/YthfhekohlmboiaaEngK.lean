import Derived.Test.YthfhekohlmboiaaEng15
import Derived.Sort.AssemblyPlain
import Derived.Lib.Bits
namespace Go.Eng
open Go.Sort (SWO PermIn SortedIn pdq)
/-! the list that Go's sort makes of a list: a permutation of it, in order -/
def pdqL {α : Type} [Inhabited α] (lt : α → α → Bool) (n : Nat) (l : List α) : List α := (pdq lt l.toArray 0 l.length n true true).toList
theorem pdqL_ok {α : Type} [Inhabited α] {lt : α → α → Bool} (hO : SWO lt) (n : Nat) (l : List α) : (pdqL lt n l).Perm l ∧ (pdqL lt n l).Pairwise (fun a b => lt b a = false) ∧ (pdqL lt n l).length = l.length := by
  obtain ⟨⟨h1, _, h2⟩, h3⟩ := Sort.pdq_sorts lt hO l.toArray 0 l.length n true true (Nat.zero_le _) (by simp) (.inl rfl)
  have hs : (pdq lt l.toArray 0 l.length n true true).size = l.length := by simpa using h1
  have e1 : ((pdq lt l.toArray 0 l.length n true true).extract 0 l.length).toList = pdqL lt n l := by
    have : ∀ (A : Array α) (m : Nat), A.size = m → (A.extract 0 m).toList = A.toList := by rintro A m rfl; simp
    exact this _ _ hs
  have e2 : ((l.toArray).extract 0 l.length).toList = l := by simp
  rw [e1, e2] at h2
  refine ⟨h2, ?_, by simp [pdqL, hs]⟩
  rw [List.pairwise_iff_getElem]
  intro i j hi hj hij
  have hi' : i < (pdq lt l.toArray 0 l.length n true true).size := by simpa [pdqL] using hi
  have hj' : j < (pdq lt l.toArray 0 l.length n true true).size := by simpa [pdqL] using hj
  have := h3 i j (Nat.zero_le _) hij (by omega)
  rw [getElem!_pos _ i hi', getElem!_pos _ j hj'] at this
  simpa [pdqL] using this
end Go.Eng
