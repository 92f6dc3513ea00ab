import Derived.Test.YtgoggdaohdablaaGreatP10k
namespace Go.Proofs.YtgoggdaohdablaaGreat
open Go.Eng
set_option maxRecDepth 100000
set_option maxHeartbeats 4000000
set_option linter.unusedVariables false
set_option linter.unusedSimpArgs false

theorem listed_valid {n : Int} {l : List TType} {s : TSignature} (h : (listedType n l s).2 = 0) : validType (listedType n l s).1 s.1 = true := by
  unfold listedType at h ⊢
  split at h
  · simp at h
  split at h
  · simp at h
  rename_i a b; rw [if_neg a, if_neg b]; simpa using b
theorem nodeType_valid {d : TNode} {l : List TType} {s : TSignature} (hv : ∀ t ∈ l, validType t s.1 = true) (h : (nodeType d l s).2 = 0) : validType (nodeType d l s).1 s.1 = true := by
  unfold nodeType at h ⊢
  by_cases c1 : 1 ≤ d.1 ∧ d.1 ≤ 5
  · rw [if_pos c1] at h ⊢; unfold literalType at h ⊢; split at h
    · simp at h
    · rename_i c; rw [if_neg c]; simp [validType, c1]
  rw [if_neg c1] at h ⊢
  by_cases c2 : d.1 = 6
  · rw [if_pos c2] at h ⊢; unfold enumType at h ⊢
    split at h
    · simp at h
    split at h
    · simp at h
    rename_i a b; rw [if_neg a, if_neg b]; simp [validType]; omega
  rw [if_neg c2] at h ⊢
  by_cases c3 : d.1 = 7
  · rw [if_pos c3] at h ⊢; exact listed_valid h
  rw [if_neg c3] at h ⊢
  by_cases c4 : d.1 = 8
  · rw [if_pos c4] at h ⊢; exact listed_valid h
  rw [if_neg c4] at h ⊢
  by_cases c5 : d.1 = 9
  · rw [if_pos c5]; simp [validType]
  rw [if_neg c5] at h ⊢
  by_cases c6 : d.1 = 33 ∨ d.1 = 34
  · rw [if_pos c6] at h ⊢; unfold tableType at h ⊢
    split at h
    · simp at h
    split at h
    · simp at h
    split at h
    · simp at h
    rename_i a b c; rw [if_neg a, if_neg b, if_neg c]
    simp only [not_or, Bool.not_eq_false] at c
    split at h
    · rename_i e; rw [if_pos e]; split at h
      · simp at h
      rename_i m; rw [if_neg m]; exact c.1
    · rename_i e; rw [if_neg e]; exact c.2.1
  rw [if_neg c6] at h ⊢
  by_cases c7 : 35 ≤ d.1 ∧ d.1 ≤ 39
  · rw [if_pos c7] at h ⊢; unfold memberType at h ⊢
    split at h
    · simp at h
    split at h
    · rename_i a b; rw [if_neg a, if_pos b]; simp [validType]
    split at h
    · rename_i a; exact absurd h a
    split at h
    · rename_i a b c e; rw [if_neg a, if_neg b, if_neg c, if_pos e]; exact listed_valid (by simpa using c)
    · simp at h
  rw [if_neg c7] at h ⊢
  by_cases c8 : (14 ≤ d.1 ∧ d.1 ≤ 16) ∧ validMode d.2 = false
  · rw [if_pos c8] at h; simp at h
  rw [if_neg c8] at h ⊢
  by_cases c9 : (resultType d.1 l).2 = false
  · rw [if_pos c9] at h; simp at h
  rw [if_neg c9]; simp only
  have c9 : (resultType d.1 l).2 = true := by simpa using c9
  clear h c1 c2 c3 c4 c5 c6 c7 c8
  unfold resultType at c9 ⊢
  match l, hv, c9 with
  | [], _, c9 => simp at c9
  | [a], hv, c9 => simp at c9 hv ⊢; (repeat' split at c9) <;> simp_all [validType]
  | [a, b], hv, c9 =>
    simp only [List.mem_cons, List.not_mem_nil, or_false, forall_eq_or_imp, forall_eq] at hv
    simp only at c9 ⊢
    split at c9
    · rename_i e; rw [if_pos e]; exact hv.1
    rename_i e; rw [if_neg e]
    split at c9
    · rename_i e; rw [if_pos e]; unfold productType at c9 ⊢; (repeat' split at c9) <;> simp_all [validType] <;> omega
    rename_i e; rw [if_neg e]
    (repeat' split at c9) <;> simp_all [validType]
  | [a, b, c], hv, c9 => simp at c9 hv ⊢; split at c9 <;> simp_all
  | _ :: _ :: _ :: _ :: _, _, c9 => simp at c9
end Go.Proofs.YtgoggdaohdablaaGreat
