import Derived.Test.YtmdhmgngomlheaaP30q
namespace Go.Proofs.Ytmdhmgngomlheaa
open Go.Eng
set_option maxRecDepth 100000
set_option linter.unusedVariables false
set_option linter.unusedSimpArgs false
/-! chapter 30, plain: the choice covers just the set -/
theorem mt_mrg {q : NP} {x : Nat} (h : mt q x = true) (i : Nat) : mt (mrg q i) x = true := by
  rw [mt_iff] at h ⊢
  intro j
  simp only [mrg]
  rw [an_bit, an_bit, ← h j]
  cases x.testBit j <;> cases q.1.testBit j <;> cases decide (i = j) <;> rfl
theorem prime_of {c : Nat} (hc : c ≤ 8) {S : Nat → Bool} {x : Nat} : ∀ (k : Nat) (q : NP), popN 8 q.1 ≤ k → imp c S q = true → mt q x = true → ∃ r, prm c S r = true ∧ mt r x = true
  | k, q, hk, hi, hm => by
    by_cases hck : chk c S q c = true
    · exact ⟨q, by unfold prm; rw [hi, hck]; rfl, hm⟩
    · rw [Bool.not_eq_true] at hck
      unfold chk at hck
      rw [List.all_eq_false] at hck
      obtain ⟨i, h1, h2⟩ := hck
      have hic := List.mem_range.1 h1
      simp only [Bool.or_eq_true, Bool.not_eq_true', not_or, Bool.not_eq_false] at h2
      have hp := popN_clear 8 q.1 i (by omega) h2.1
      match k with
      | 0 => omega
      | k + 1 => exact prime_of hc k (mrg q i) (by simp only [mrg]; omega) h2.2 (mt_mrg hm i)
theorem covered {c : Nat} (hc : c ≤ 8) {S : Nat → Bool} {x : Nat} (hx : x < 2 ^ c) (hS : S x = true) : ∃ r, prm c S r = true ∧ mt r x = true := by
  have h1 : upTo c S 0 (2 ^ c - 1, x) = true := by rw [← start_eq hc]; unfold start; simp [hx, hS]
  have h2 : imp c S (2 ^ c - 1, x) = true := by unfold upTo at h1; rw [Bool.and_eq_true] at h1; exact h1.1
  refine prime_of hc 8 _ (popN_le _ _) h2 ?_
  unfold mt
  simp only
  rw [Nat.and_two_pow_sub_one_eq_mod, Nat.mod_eq_of_lt hx]; simp
theorem count_less {p p' : Nat → Bool} : ∀ l : List Nat, (∀ x ∈ l, p' x = true → p x = true) → (∃ x ∈ l, p x = true ∧ p' x = false) → l.countP p' + 1 ≤ l.countP p
  | [], _, h => by obtain ⟨x, hx, _⟩ := h; simp at hx
  | y :: r, h1, h2 => by
    have hr := fun x hx => h1 x (List.mem_cons_of_mem _ hx)
    have hle : r.countP p' ≤ r.countP p := List.countP_mono_left fun x hx h => hr x hx h
    obtain ⟨x, hx, h3, h4⟩ := h2
    rw [List.countP_cons, List.countP_cons]
    rcases List.mem_cons.1 hx with e | e
    · subst e; rw [if_pos h3, if_neg (by rw [h4]; simp)]; omega
    · have := count_less r hr ⟨x, e, h3, h4⟩
      have h5 := h1 y (by simp)
      cases hy : p' y with
      | false => simp only [Bool.false_eq_true, if_false]; split <;> omega
      | true => rw [h5 hy]; simp; omega
structure Inv30 (c : Nat) (S : Nat → Bool) (l : List NP) (st : List NP × (Nat → Bool)) : Prop where
  sub : ∀ q ∈ st.1, prm c S q = true
  left : ∀ x, x < 2 ^ c → st.2 x = true → S x = true ∧ ∀ q ∈ l, mt q x = false
  got : ∀ x, x < 2 ^ c → S x = true → st.2 x = true ∨ ∃ q ∈ st.1, mt q x = true
  few : st.1.length + (List.range (2 ^ c)).countP st.2 ≤ (List.range (2 ^ c)).countP S
theorem inv_step {c : Nat} {S : Nat → Bool} {l : List NP} {st : List NP × (Nat → Bool)} (h : Inv30 c S l st) {q : NP} (hq : prm c S q = true) : Inv30 c S (l ++ [q]) (pstep (2 ^ c) st q) := by
  have hM : ∀ x, x < 2 ^ c → (pstep (2 ^ c) st q).2 x = (st.2 x && !mt q x) := fun x hx => by simp [pstep, hx]
  refine ⟨fun r hr => ?_, fun x hx hm => ?_, fun x hx hs => ?_, ?_⟩
  · unfold pstep at hr; simp only at hr
    split at hr
    · rcases List.mem_append.1 hr with e | e
      · exact h.sub r e
      · rw [List.mem_singleton] at e; subst e; exact hq
    · exact h.sub r hr
  · rw [hM x hx, Bool.and_eq_true] at hm
    obtain ⟨h1, h2⟩ := h.left x hx hm.1
    refine ⟨h1, fun r hr => ?_⟩
    rcases List.mem_append.1 hr with e | e
    · exact h2 r e
    · rw [List.mem_singleton] at e; subst e; simpa using hm.2
  · rw [hM x hx]
    by_cases hm : mt q x = true
    · rcases h.got x hx hs with e | ⟨r, e1, e2⟩
      · right
        refine ⟨q, ?_, hm⟩
        unfold pstep; simp only
        rw [if_pos (List.any_eq_true.2 ⟨x, List.mem_range.2 hx, by simp [e, hm]⟩)]; simp
      · right; refine ⟨r, ?_, e2⟩
        unfold pstep; simp only; split
        · exact List.mem_append.2 (.inl e1)
        · exact e1
    · rcases h.got x hx hs with e | ⟨r, e1, e2⟩
      · left; simp [e, hm]
      · right; refine ⟨r, ?_, e2⟩
        unfold pstep; simp only; split
        · exact List.mem_append.2 (.inl e1)
        · exact e1
  · have hf := h.few
    by_cases ha : (List.range (2 ^ c)).any (fun x => st.2 x && mt q x) = true
    · have h1 : (pstep (2 ^ c) st q).1 = st.1 ++ [q] := by unfold pstep; simp only; rw [if_pos ha]
      obtain ⟨x, hx, hxm⟩ := List.any_eq_true.1 ha
      rw [Bool.and_eq_true] at hxm
      have := count_less (p := st.2) (p' := (pstep (2 ^ c) st q).2) (List.range (2 ^ c)) (fun y hy hm => by rw [hM y (List.mem_range.1 hy), Bool.and_eq_true] at hm; exact hm.1) ⟨x, hx, hxm.1, by rw [hM x (List.mem_range.1 hx), hxm.2]; simp⟩
      rw [h1, List.length_append, List.length_singleton]; omega
    · have h1 : (pstep (2 ^ c) st q).1 = st.1 := by unfold pstep; simp only; rw [if_neg ha]
      have := List.countP_mono_left (l := List.range (2 ^ c)) (p := (pstep (2 ^ c) st q).2) (q := st.2) (fun y hy hm => by rw [hM y (List.mem_range.1 hy), Bool.and_eq_true] at hm; exact hm.1)
      rw [h1]; omega
theorem inv_fold {c : Nat} {S : Nat → Bool} : ∀ (r l : List NP) (st : List NP × (Nat → Bool)), (∀ q ∈ r, prm c S q = true) → Inv30 c S l st → Inv30 c S (l ++ r) (r.foldl (pstep (2 ^ c)) st)
  | [], l, st, _, h => by simpa using h
  | q :: r, l, st, hr, h => by
    have := inv_fold r (l ++ [q]) (pstep (2 ^ c) st q) (fun x hx => hr x (List.mem_cons_of_mem _ hx)) (inv_step h (hr q (by simp)))
    simpa using this
theorem min_inv {c : Nat} (hc : c ≤ 8) (S : Nat → Bool) : Inv30 c S (prmL c S) ((prmL c S).foldl (pstep (2 ^ c)) ([], S)) := by
  have := inv_fold (prmL c S) [] ([], S) (fun q hq => (mem_prmL hc).1 hq) ⟨fun q hq => by simp at hq, fun x _ hx => ⟨hx, fun q hq => by simp at hq⟩, fun x _ hx => .inl hx, by simp⟩
  simpa using this
theorem min_exact {c : Nat} (hc : c ≤ 8) (S : Nat → Bool) {x : Nat} (hx : x < 2 ^ c) : (minF c S).any (fun q => mt q x) = S x := by
  have h := min_inv hc S
  rw [Bool.eq_iff_iff, List.any_eq_true]
  constructor
  · rintro ⟨q, hq, hm⟩
    exact (imp_iff.1 (prm_vld (h.sub q hq)).1).2 x hx hm
  · intro hs
    rcases h.got x hx hs with e | e
    · exfalso
      obtain ⟨r, h1, h2⟩ := covered hc hx hs
      have := (h.left x hx e).2 r ((mem_prmL hc).2 h1)
      rw [this] at h2; cases h2
    · exact e
theorem min_few {c : Nat} (hc : c ≤ 8) (S : Nat → Bool) : (minF c S).length ≤ (List.range (2 ^ c)).countP S := by
  have h := (min_inv hc S).few
  unfold minF; omega
theorem min_valid {c : Nat} (hc : c ≤ 8) (S : Nat → Bool) {q : NP} (hq : q ∈ minF c S) : vld c q = true := (prm_vld ((min_inv hc S).sub q hq)).2
theorem valid_pc {n : Int} {c : Nat} (hc : clampF n = c) {q : NP} (h : vld c q = true) : validF (pc q) n = true := by
  have hs := vld_small (by rw [← hc]; exact clampF_le n) h
  unfold vld at h
  rw [Bool.and_eq_true, decide_eq_true_eq, beq_iff_eq] at h
  unfold validF pc
  rw [hc, andI_nat (by omega) (by omega), h.2]
  have : ((q.1 : Nat) : Int) < ((2 ^ c : Nat) : Int) := by exact_mod_cast h.1
  simp only [Bool.and_eq_true, decide_eq_true_eq, beq_iff_eq]
  exact ⟨⟨⟨by omega, this⟩, by omega⟩, trivial⟩
end Go.Proofs.Ytmdhmgngomlheaa
