import Derived.Test.YtgoggdaohdablaaGreatP10b
namespace Go.Proofs.YtgoggdaohdablaaGreat
open Go.Eng
/-! chapter 10: the stack of a list of nodes, plain -/
def chain (starts : List Int) : Int → List Int → Prop
  | k, [] => k = 0
  | k, s :: r => 0 ≤ s ∧ s < k ∧ starts[(k - 1).toNat]? = some s ∧ chain starts s r
theorem chain_nonneg {starts : List Int} {k : Int} {rs : List Int} (h : chain starts k rs) : 0 ≤ k := by
  cases rs with
  | nil => simp [chain] at h; omega
  | cons s r => have := h.1; have := h.2.1; omega
theorem chain_ext {starts t : List Int} : ∀ {rs : List Int} {k : Int}, k ≤ starts.length → chain starts k rs → chain (starts ++ t) k rs
  | [], k, _, h => h
  | s :: r, k, hk, ⟨h1, h2, h3, h4⟩ => ⟨h1, h2, by rw [List.getElem?_append_left (by omega)]; exact h3, chain_ext (by omega) h4⟩
theorem chain_drop {starts : List Int} : ∀ {n : Nat} {rs : List Int} {k : Int} (_ : chain starts k rs) (hn : n < rs.length), chain starts rs[n] (rs.drop (n + 1)) ∧ 0 ≤ rs[n] ∧ rs[n] < k
  | 0, s :: r, k, ⟨h1, h2, _, h4⟩, _ => ⟨h4, h1, h2⟩
  | n + 1, s :: r, k, ⟨h1, h2, _, h4⟩, hn => by
    obtain ⟨a, b, c⟩ := chain_drop (n := n) h4 (by simpa using hn)
    exact ⟨a, b, by simp only [List.getElem_cons_succ]; omega⟩
/-- what a step makes of the stack -/
theorem chain_step {starts stack : List Int} {i : Nat} {n : Int} (hc : chain starts i stack.reverse) (hl : starts.length = i) (h0 : 0 ≤ n) (h1 : n ≤ stack.length) :
    chain (starts ++ [if 0 < n then stack[(stack.length - n).toNat]?.getD 0 else (i : Int)]) ((i + 1 : Nat) : Int) ((stack.take (stack.length - n).toNat ++ [if 0 < n then stack[(stack.length - n).toNat]?.getD 0 else (i : Int)]).reverse) := by
  rw [List.reverse_append]
  simp only [List.reverse_cons, List.reverse_nil, List.nil_append, List.singleton_append]
  by_cases hn : 0 < n
  · simp only [if_pos hn]
    have hm : (stack.length - n).toNat < stack.length := by omega
    rw [List.getElem?_eq_getElem hm, Option.getD_some]
    have hi : n.toNat - 1 < stack.reverse.length := by simp; omega
    obtain ⟨a, b, c⟩ := chain_drop hc hi
    have e1 : stack.reverse[n.toNat - 1] = stack[(stack.length - n).toNat] := by
      rw [List.getElem_reverse]; congr 1; omega
    have e2 : stack.reverse.drop (n.toNat - 1 + 1) = (stack.take (stack.length - n).toNat).reverse := by
      rw [List.drop_reverse]; congr 2; omega
    rw [e1] at a b c; rw [e2] at a
    refine ⟨b, by omega, ?_, chain_ext (by omega) a⟩
    have : (((i + 1 : Nat) : Int) - 1).toNat = starts.length := by omega
    rw [this]; simp
  · have : n = 0 := by omega
    subst this
    simp only [if_neg (show ¬ (0:Int) < 0 by omega)]
    refine ⟨by omega, by omega, ?_, ?_⟩
    · have : (((i + 1 : Nat) : Int) - 1).toNat = starts.length := by omega
      rw [this]; simp
    · rw [List.take_of_length_le (by omega)]; exact chain_ext (by omega) hc
/-- what a node makes of the stack -/
def Push (R : List Int) (k : Nat) (a : Int) (rs : List Int) : Prop := ∃ frm, chain R ((k + 1 : Nat) : Int) (frm :: rs.drop a.toNat) ∧ (a = 0 → frm = k) ∧ (0 < a → rs[a.toNat - 1]? = some frm) ∧ (rs.drop a.toNat).length + 1 ≤ 12
theorem chain_uniq {starts : List Int} : ∀ {rs rs' : List Int} {k : Int}, chain starts k rs → chain starts k rs' → rs = rs'
  | [], [], _, _, _ => rfl
  | [], s :: r, k, h, h' => by have h : k = 0 := h; have h1 := h'.1; have h2 := h'.2.1; omega
  | s :: r, [], k, h', h => by have h : k = 0 := h; have h1 := h'.1; have h2 := h'.2.1; omega
  | s :: r, s' :: r', k, h, h' => by
    have e : s = s' := by have a := h.2.2.1; rw [h'.2.2.1] at a; exact (Option.some.inj a).symm
    subst e
    rw [chain_uniq h.2.2.2 h'.2.2.2]
theorem sLoop_ok (L : Int) : ∀ (r : List TNode) (i : Nat) (stack starts : List Int), chain starts i stack.reverse → starts.length = i → (sLoop L r i stack starts).2.2 = 0 →
    (sLoop L r i stack starts).1.length = i + r.length ∧ (∃ t, (sLoop L r i stack starts).1 = starts ++ t) ∧ (∃ rs, chain (sLoop L r i stack starts).1 ((i + r.length : Nat) : Int) rs ∧ rs.length ≤ 1) ∧
    ∀ j (hj : j < r.length), 0 ≤ arity r[j].1 ∧ ∃ rs, chain (sLoop L r i stack starts).1 ((i + j : Nat) : Int) rs ∧ arity r[j].1 ≤ rs.length ∧ Push (sLoop L r i stack starts).1 (i + j) (arity r[j].1) rs
  | [], i, stack, starts, hc, hl, h => by
    simp only [sLoop] at h ⊢
    split at h
    · cases h
    · rename_i hh
      rw [if_neg hh]
      exact ⟨by simp [hl], ⟨[], by simp⟩, ⟨_, hc, by simp; omega⟩, fun j hj => absurd hj (by simp)⟩
  | n :: r, i, stack, starts, hc, hl, h => by
    simp only [sLoop] at h ⊢
    split at h
    · simp at h
    · rename_i h1; split at h
      · simp at h
      · rename_i h2; split at h
        · simp at h
        · rename_i h3
          rw [if_neg h1, if_neg h2, if_neg h3]
          obtain ⟨a, ⟨t, b⟩, c, d⟩ := sLoop_ok L r (i + 1) _ _ (chain_step hc hl (by omega) (by omega)) (by simp [hl]) h
          refine ⟨by rw [a]; simp; omega, ⟨[_] ++ t, by rw [b, List.append_assoc]⟩, ?_, ?_⟩
          · obtain ⟨rs, c1, c2⟩ := c
            exact ⟨rs, by rw [show i + (n :: r).length = i + 1 + r.length by simp; omega]; exact c1, c2⟩
          · intro j hj
            cases j with
            | zero =>
              refine ⟨by simp; omega, stack.reverse, ?_, by simp; omega, ?_⟩
              · rw [b, List.append_assoc]; exact chain_ext (by omega) hc
              · have hs := chain_step (n := arity n.1) hc hl (by omega) (by omega)
                rw [List.reverse_append, List.reverse_singleton, List.singleton_append] at hs
                have ed : (stack.take (stack.length - arity n.1).toNat).reverse = stack.reverse.drop (arity n.1).toNat := by
                  rw [List.drop_reverse]; congr 2; omega
                rw [ed] at hs
                refine ⟨_, by rw [b]; exact chain_ext (by simp; omega) hs, fun h0 => ?_, fun h0 => ?_, ?_⟩
                · rw [if_neg (by simp only [List.getElem_cons_zero] at h0; omega)]; simp
                · simp only [List.getElem_cons_zero] at h0 ⊢
                  rw [if_pos h0, List.getElem?_eq_getElem (show (stack.length - arity n.1).toNat < stack.length by omega), Option.getD_some, List.getElem?_reverse (by omega), List.getElem?_eq_getElem (by omega)]
                  congr 2; omega
                · simp only [List.getElem_cons_zero, List.length_drop, List.length_reverse, List.length_take] at h3 ⊢; omega
            | succ j =>
              obtain ⟨e, rs, f, g, q⟩ := d j (by simpa using hj)
              exact ⟨by simpa using e, rs, by rw [show i + (j + 1) = i + 1 + j by omega]; exact f, by simpa using g, by rw [show i + (j + 1) = i + 1 + j by omega]; simpa using q⟩
theorem structF_ok {e : List TNode} (h : (structF e).2.2 = 0) : e.length ≤ 48 ∧ 0 < e.length ∧ (structF e).1.length = e.length ∧ (∃ rs, chain (structF e).1 e.length rs ∧ rs.length ≤ 1) ∧
    ∀ j (hj : j < e.length), 0 ≤ arity e[j].1 ∧ ∃ rs, chain (structF e).1 j rs ∧ arity e[j].1 ≤ rs.length ∧ Push (structF e).1 j (arity e[j].1) rs := by
  unfold structF at h ⊢
  split at h
  · simp at h
  · rename_i h1; split at h
    · simp at h
    · rename_i h2
      rw [if_neg h1, if_neg h2]
      obtain ⟨a, _, c, d⟩ := sLoop_ok e.length e 0 [] [] rfl rfl h
      exact ⟨by omega, by omega, by simpa using a, by simpa using c, by simpa using d⟩
/-- the operands of a node -/
def opd (starts : List Int) : Nat → Int → List Int
  | 0, _ => []
  | n + 1, t => opd starts n (starts[(t - 1).toNat]?.getD 0) ++ [t - 1]
theorem opd_len {starts : List Int} : ∀ (n : Nat) (t : Int), (opd starts n t).length = n
  | 0, _ => rfl
  | n + 1, t => by simp [opd, opd_len n]
def opsF (e : List TNode) (at_ : Int) : List Int :=
  if (structF e).2.2 ≠ 0 ∨ at_ < 0 ∨ e.length ≤ at_ then [] else opd (structF e).1 (arity (e[at_.toNat]?.getD (0, 0)).1).toNat at_
end Go.Proofs.YtgoggdaohdablaaGreat
