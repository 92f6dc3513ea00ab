import Derived.Test.YtgoggdaohdablaaP10o
namespace Go.Proofs.Ytgoggdaohdablaa
open Go.Eng
set_option maxRecDepth 100000
set_option maxHeartbeats 4000000
set_option linter.unusedVariables false
set_option linter.unusedSimpArgs false
/-! chapter 10: the reference's answer for a node is the program's, for valid operands -/
theorem valid_low {t : TType} {en : List TEnum} (h : validType t en = true) (hk : 1 ≤ t.1 ∧ t.1 ≤ 5) : t = (t.1, 0) := by
  simp [validType, hk] at h
  exact Prod.ext rfl h
theorem scaled_eq (op a b : Int) (h : op = 13 ∨ op = 14 ∨ op = 15) : (scaledT op a b).2 = (productType op a b).2 ∧ ((productType op a b).2 = true → scaledT op a b = productType op a b) := by
  unfold scaledT productType
  rcases h with rfl | rfl | rfl <;> simp <;> (repeat' split) <;> simp_all
theorem tab_case {a b c d : Bool} {x y : TType × Int} (h : a = b) (hx : b = true → x = y) : (if a = false then ((0, 0), 8) else x) = if b = false then (((0 : Int), (0 : Int)), (8 : Int)) else y := by subst h; cases a <;> simp at hx ⊢; exact hx
theorem resultR0 {d : TNode} {s : TSignature} (hl : arity d.1 = 0) (h2 : ¬ (d.2 ≠ 0 ∧ usesN d.1 = false)) : resultR d [] s = nodeType d [] s := by
  obtain ⟨op, n⟩ := d
  have : op = 1 ∨ op = 2 ∨ op = 3 ∨ op = 4 ∨ op = 5 ∨ op = 6 ∨ op = 7 ∨ op = 8 ∨ op = 9 ∨ op = 35 ∨ op = 36 ∨ op = 37 ∨ op = 38 ∨ op = 39 := by
    unfold arity at hl; (repeat' split at hl) <;> simp at hl <;> omega
  unfold resultR; rw [if_neg h2]
  rcases this with rfl | rfl | rfl | rfl | rfl | rfl | rfl | rfl | rfl | rfl | rfl | rfl | rfl | rfl
  all_goals clear hl h2
  all_goals simp only [ranged, found, resultT, leafT, leafOk, nodeType, literalType, enumType, listedType, memberType, validType, allowedM]
  all_goals simp
  all_goals (repeat' split) <;> first | rfl | omega | (simp_all; done) | (simp_all; omega) | grind
theorem resultR1 {d : TNode} {a : TType} {s : TSignature} (hl : arity d.1 = 1) (hv : validType a s.1 = true) (h2 : ¬ (d.2 ≠ 0 ∧ usesN d.1 = false)) : resultR d [a] s = nodeType d [a] s := by
  obtain ⟨op, n⟩ := d
  have : op = 10 ∨ op = 25 ∨ op = 31 ∨ op = 32 ∨ op = 33 ∨ op = 34 := by
    unfold arity at hl; (repeat' split at hl) <;> simp at hl <;> omega
  unfold resultR; rw [if_neg h2]
  rcases this with rfl | rfl | rfl | rfl | rfl | rfl
  all_goals clear hl h2
  all_goals simp only [ranged, found, resultT, singleT, nodeType, resultType, tableType, tabIx, validMode]
  all_goals simp
  · by_cases h : a.1 = 1
    · have := valid_low hv (by omega); rw [h] at this; subst this; simp
    · simp [h]
  · by_cases h1 : 0 ≤ n ∧ n < s.2.1.length
    · rw [if_neg (by omega), if_neg (show ¬ (n < 0 ∨ (s.2.1.length : Int) ≤ n) by omega)]
      generalize nthTab s.2.1 n = t
      by_cases hx : validType t.2.1 s.1 = true <;> by_cases hy : validType t.2.2.1 s.1 = true <;> by_cases hz : a = t.2.1 <;> simp_all
    · rw [if_pos (by omega), if_pos (by omega)]
  · by_cases h0 : 0 ≤ n
    · by_cases h8 : n % 8 ≤ 5
      · rw [if_neg (by omega)]
        rw [if_neg (show ¬ (n < 0 ∨ (0 ≤ n % 8 → 5 < n % 8)) by omega)]
        by_cases h1 : n / 8 < s.2.1.length
        · rw [if_neg (by omega), if_neg (show ¬ (n / 8 < 0 ∨ (s.2.1.length : Int) ≤ n / 8) by omega)]
          generalize nthTab s.2.1 (n / 8) = t
          obtain ⟨t0, k, v, t3⟩ := t
          simp only
          by_cases hz : a = k
          · subst hz
            by_cases hk : a.1 = 3
            · have := valid_low hv (by omega); rw [hk] at this; subst this
              by_cases hy : validType v s.1 = true
              · by_cases h4 : v.1 = 4
                · have := valid_low hy (by omega); rw [h4] at this; subst this; simp [hv, hy]
                · have : ¬ v = (4, 0) := fun e => h4 (by rw [e])
                  simp [hv, hy, h4, this]
              · have : ¬ v = (4, 0) := fun e => hy (by rw [e]; simp [validType])
                simp [hv, hy, this]
            · have : ¬ a = (3, 0) := fun e => hk (by rw [e])
              simp [hk, this]
          · have h1 : ¬ (a.1 = 3 ∧ k = (3, 0) ∧ v = (4, 0)) := fun ⟨e1, e2, e3⟩ => hz (by rw [e2]; have := valid_low hv (by omega); rw [e1] at this; exact this)
            rw [if_pos (by intro e1 e2 e3; exact h1 ⟨e1, e2, e3⟩), if_pos (Or.inr (Or.inr hz))]
        · rw [if_pos (by omega), if_pos (show n / 8 < 0 ∨ (s.2.1.length : Int) ≤ n / 8 by omega)]
      · rw [if_pos (by omega)]; rw [if_pos (show n < 0 ∨ (0 ≤ n % 8 → 5 < n % 8) by omega)]
    · rw [if_pos (by omega)]; rw [if_pos (show n < 0 ∨ (0 ≤ n % 8 → 5 < n % 8) by omega)]
theorem resultR2 {d : TNode} {a b : TType} {s : TSignature} (hl : arity d.1 = 2) (hv : validType a s.1 = true) (hw : validType b s.1 = true) (h2 : ¬ (d.2 ≠ 0 ∧ usesN d.1 = false)) : resultR d [a, b] s = nodeType d [a, b] s := by
  obtain ⟨op, n⟩ := d
  have : (op = 11 ∨ op = 12 ∨ op = 16 ∨ op = 17 ∨ op = 18 ∨ op = 19 ∨ op = 20 ∨ op = 21 ∨ op = 22 ∨ op = 27 ∨ op = 28 ∨ op = 29 ∨ op = 30) ∨ (op = 23 ∨ op = 24) ∨ (op = 13 ∨ op = 14 ∨ op = 15) := by
    unfold arity at hl; (repeat' split at hl) <;> simp at hl <;> omega
  unfold resultR; rw [if_neg h2]
  rcases this with h | h | h
  · clear hl h2
    rcases h with rfl | rfl | rfl | rfl | rfl | rfl | rfl | rfl | rfl | rfl | rfl | rfl | rfl <;> simp only [ranged, found, resultT, doubleT, nodeType, resultType, validMode] <;> simp
  · have e : resultT (op, n) [a, b] s = (a, a.1 == 1 && b.1 == 1) := by rcases h with rfl | rfl <;> simp [resultT, doubleT]
    have e2 : nodeType (op, n) [a, b] s = if (a.1 == 1 && b.1 == 1) = false then ((0, 0), 8) else ((1, 0), 0) := by rcases h with rfl | rfl <;> simp [nodeType, resultType]
    rw [e, e2, if_neg (by rcases h with rfl | rfl <;> simp [ranged]), if_neg (by rcases h with rfl | rfl <;> simp [found])]
    by_cases h1 : a.1 = 1
    · have := valid_low hv (by omega); rw [h1] at this; subst this; rfl
    · simp [h1]
  · have hs := scaled_eq op a.1 b.1 h
    have e : resultT (op, n) [a, b] s = scaledT op a.1 b.1 := by rcases h with rfl | rfl | rfl <;> simp [resultT, doubleT]
    have e2 : nodeType (op, n) [a, b] s = if (14 ≤ op ∧ op ≤ 16) ∧ validMode n = false then ((0, 0), 3) else if (productType op a.1 b.1).2 = false then ((0, 0), 8) else ((productType op a.1 b.1).1, 0) := by rcases h with rfl | rfl | rfl <;> simp [nodeType, resultType]
    have e3 : ranged (op, n) s = if 14 ≤ op ∧ op ≤ 16 then validMode n else true := by rcases h with rfl | rfl | rfl <;> simp [ranged, validMode]
    rw [e, e2, e3, if_neg (c := found (op, n) s = false) (by rcases h with rfl | rfl | rfl <;> simp [found]), hs.1]
    by_cases h4 : 14 ≤ op ∧ op ≤ 16 <;> simp [h4] <;> by_cases h5 : (productType op a.1 b.1).2 = true <;> simp [h5]
    · rw [hs.2 h5]
    · rw [hs.2 h5]
theorem resultR3 {d : TNode} {a b c : TType} {s : TSignature} (hl : arity d.1 = 3) (h2 : ¬ (d.2 ≠ 0 ∧ usesN d.1 = false)) : resultR d [a, b, c] s = nodeType d [a, b, c] s := by
  obtain ⟨op, n⟩ := d
  have : op = 26 := by unfold arity at hl; (repeat' split at hl) <;> simp at hl <;> omega
  subst this
  unfold resultR; rw [if_neg h2]
  simp [ranged, found, resultT, nodeType, resultType]
theorem resultR_eq {d : TNode} {l : List TType} {s : TSignature} (hl : (l.length : Int) = arity d.1) (hv : ∀ t ∈ l, validType t s.1 = true) (h2 : ¬ (d.2 ≠ 0 ∧ usesN d.1 = false)) : resultR d l s = nodeType d l s := by
  have h3 := arity_le d.1
  match l, hl, hv with
  | [], hl, _ => exact resultR0 hl.symm h2
  | [a], hl, hv => exact resultR1 hl.symm (hv a (by simp)) h2
  | [a, b], hl, hv => exact resultR2 hl.symm (hv a (by simp)) (hv b (by simp)) h2
  | [a, b, c], hl, hv => exact resultR3 hl.symm h2
  | _ :: _ :: _ :: _ :: _, hl, _ => simp at hl; omega
end Go.Proofs.Ytgoggdaohdablaa
