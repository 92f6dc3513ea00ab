import Derived.Test.YtgoggdaohdablaaGreatP10t
namespace Go.Proofs.YtgoggdaohdablaaGreat
open Go.Eng
set_option maxRecDepth 100000
set_option maxHeartbeats 1000000
set_option linter.unusedVariables false
set_option linter.unusedSimpArgs false
/-! chapter 23: every node of a well-typed expression has a type -/
theorem ends_lt : ∀ (a : Nat) (l : List Sg), (∀ x ∈ l, x.1 ≠ []) → ∀ z ∈ ends a l, (a : Int) ≤ z ∧ z < ((a + (flat l).length : Nat) : Int)
  | a, [], _, z, hz => by simp [ends] at hz
  | a, x :: r, h, z, hz => by
    have hx := List.length_pos_iff.2 (h x (by simp))
    simp only [ends, List.mem_cons] at hz
    simp only [flat, List.length_append]
    rcases hz with rfl | hz
    · omega
    · have := ends_lt (a + x.1.length) r (fun y hy => h y (by simp [hy])) z hz
      omega
theorem goods_nonempty {s : TSignature} : ∀ (p : Nat) (l : List Sg), Goods s p l → ∀ x ∈ l, x.1 ≠ []
  | p, x :: r, h, y, hy => by
    rcases List.mem_cons.1 hy with rfl | hy
    · exact h.1.1
    · exact goods_nonempty _ r h.2 y hy
theorem opd_drop {R : List Int} : ∀ (m j : Nat) (t : Int), (opd R (j + m) t).drop j = opd R m t
  | 0, j, t => by rw [List.drop_of_length_le (by rw [opd_len]; omega)]; rfl
  | m + 1, j, t => by
    rw [show j + (m + 1) = (j + m) + 1 by omega, opd, opd, List.drop_append_of_le_length (by rw [opd_len]; omega), opd_drop m j]
def TyOk (e : List TNode) (s : TSignature) (ty : Nat → TType) (at_ : Nat) (h : at_ < e.length) : Prop :=
  ((opsF e at_).length = (arity e[at_].1).toNat ∧ 0 ≤ arity e[at_].1) ∧ (∀ z ∈ opsF e at_, 0 ≤ z ∧ z < (at_ : Int)) ∧ ¬ (e[at_].2 ≠ 0 ∧ usesN e[at_].1 = false) ∧ nodeType e[at_] ((opsF e at_).map (fun z => ty z.toNat)) s = (ty at_, 0) ∧ validType (ty at_) s.1 = true
theorem typed_k {e : List TNode} {s : TSignature} (hs : (structF e).2.2 = 0) (ht : (typeOf e s).2.2 = 0) : ∀ k, k ≤ e.length → ∃ (ty : Nat → TType) (l : List Sg), Run e s k l ∧ l.map (·.2) = (ends 0 l).map (fun z => ty z.toNat) ∧ ∀ at_ (h : at_ < e.length), at_ < k → TyOk e s ty at_ h
  | 0, _ => by
    obtain ⟨l, hl⟩ := run_all hs ht 0 (Nat.zero_le _)
    have hl' := hl
    obtain ⟨_, _, _, _, _, h3, h4, _⟩ := hl
    have : l = [] := by
      cases l with
      | nil => rfl
      | cons x r =>
        have := goods_nonempty _ _ h4 x (by simp)
        simp [flat] at h3; exact absurd h3.1 this
    subst this
    exact ⟨fun _ => (0, 0), [], hl', rfl, fun at_ h q => absurd q (by omega)⟩
  | k + 1, hk => by
    obtain ⟨ty, l, hr, hm, hT⟩ := typed_k hs ht k (by omega)
    obtain ⟨a0, a1, b0, b1, hr'⟩ := run_step hr (by omega) hs ht
    have hkl : k < e.length := by omega
    obtain ⟨starts, hc, hl0, h1, h2, h3, h4, h5⟩ := hr
    have hfl : (flat l).length = k := by rw [h3]; simp; omega
    have hR : chain (structF e).1 ((flat l).length : Nat) (offs 0 l).reverse := by
      have hs' := hs
      rw [← h1] at hs'
      obtain ⟨_, ⟨t, e1⟩, _⟩ := sLoop_ok _ _ _ _ _ hc hl0 hs'
      rw [hfl, ← h1, e1]; exact chain_ext (by omega) hc
    have hoe := (opd_ends l.length l rfl hR).1
    rw [hfl] at hoe
    generalize hm0 : l.length - (arity e[k].1).toNat = m at *
    have hops : opsF e (k : Int) = (ends 0 l).drop m := by
      unfold opsF
      rw [if_neg (by omega), Int.toNat_natCast, List.getElem?_eq_getElem hkl, Option.getD_some, ← hoe, ← opd_drop (arity e[k].1).toNat m, show m + (arity e[k].1).toNat = l.length by omega]
    have hne := goods_nonempty _ _ h4
    have hlt : ∀ z ∈ ends 0 l, 0 ≤ z ∧ z < (k : Int) := fun z hz => by
      have := ends_lt 0 l hne z hz; rw [hfl] at this; omega
    have hsplit : ends 0 l = ends 0 (l.take m) ++ ends (0 + (flat (l.take m)).length) (l.drop m) := by rw [← ends_append, List.take_append_drop]
    have hflen : (flat (l.take m)).length + (flat (l.drop m)).length = k := by rw [← List.length_append, ← flat_append, List.take_append_drop, hfl]
    have htl : (l.take m).length = m := by simp; omega
    have he1 : ends 0 (l.take m) = (ends 0 l).take m := by rw [hsplit, List.take_left' (by rw [ends_len, htl])]
    generalize ht0 : (nodeType e[k] ((l.drop m).map (·.2)) s) = t at *
    have hold : ∀ z : Int, z < (k : Int) → 0 ≤ z → (if z.toNat = k then t.1 else ty z.toNat) = ty z.toNat := fun z h1 h2 => if_neg (by omega)
    have hmm : ∀ xs : List Int, (∀ z ∈ xs, 0 ≤ z ∧ z < (k : Int)) → xs.map (fun z => (fun i => if i = k then t.1 else ty i) z.toNat) = xs.map (fun z => ty z.toNat) := fun xs h => List.map_congr_left (fun z hz => hold z (h z hz).2 (h z hz).1)
    refine ⟨fun i => if i = k then t.1 else ty i, _, hr', ?_, fun at_ h q => ?_⟩
    · rw [ends_append, List.map_append, List.map_append, he1, hmm _ (fun z hz => hlt z (List.mem_of_mem_take hz)), List.map_take, hm, List.map_take]
      congr 1
      simp only [List.map_cons, List.map_nil, ends, List.length_append, List.length_singleton]
      rw [if_pos (by omega)]
    · by_cases hq : at_ = k
      · subst hq
        have hmap : (opsF e (at_ : Int)).map (fun z => (fun i => if i = at_ then t.1 else ty i) z.toNat) = (l.drop m).map (·.2) := by
          rw [hops, hmm _ (fun z hz => hlt z (List.mem_of_mem_drop hz)), List.map_drop, ← hm, List.map_drop]
        refine ⟨⟨by rw [hops, List.length_drop, ends_len]; omega, a0⟩, fun z hz => ?_, b0, ?_, ?_⟩
        · rw [hops] at hz; exact hlt z (List.mem_of_mem_drop hz)
        · rw [hmap, ht0]; simp only [if_true]; rw [← b1]
        · simp only [if_true]
          obtain ⟨_, _, _, _, _, _, _, h5'⟩ := hr'
          exact h5' (flat (l.drop m) ++ [e[at_]], t.1) (by simp)
      · have hq2 : at_ < k := by omega
        obtain ⟨c1, c2, c3, c4, c5⟩ := hT at_ h hq2
        refine ⟨c1, c2, c3, ?_, ?_⟩
        · rw [hmm _ (fun z hz => ⟨(c2 z hz).1, by have := (c2 z hz).2; omega⟩), c4]; simp only [if_neg hq]
        · simp only [if_neg hq]; exact c5
theorem typed {e : List TNode} {s : TSignature} (ht : (typeOf e s).2.2 = 0) : ∃ ty : Nat → TType, 0 < e.length ∧ (∀ at_ (h : at_ < e.length), TyOk e s ty at_ h) ∧ (typeOf e s).1 = ty (e.length - 1) := by
  have hs := typeOf_struct ht
  have h48 := structF_ok hs
  obtain ⟨ty, l, hr, hm, hT⟩ := typed_k hs ht e.length (Nat.le_refl _)
  refine ⟨ty, h48.2.1, fun at_ h => hT at_ h h, ?_⟩
  obtain ⟨starts, hc, hl0, h1, h2, h3, h4, h5⟩ := hr
  rw [List.drop_of_length_le (Nat.le_refl _)] at h1 h2
  rw [List.take_of_length_le (Nat.le_refl _)] at h3
  have hle : l.length ≤ 1 := Classical.byContradiction fun c => by
    rw [sLoop, if_pos (by rw [offs_len]; omega)] at h1
    rw [← h1] at hs; simp at hs
  match l, hle with
  | [], _ => have h := h48.2.1; rw [← h3] at h; simp [flat] at h
  | [x], _ =>
    have hx : x.1.length = e.length := by rw [← h3]; simp [flat]
    rw [← h2]
    simp only [List.map_cons, List.map_nil, ends] at hm ⊢
    injection hm with hm _
    simp only [tLoop, List.length_singleton]
    rw [hm]
    simp [hx]
    try (congr 1; omega)
end Go.Proofs.YtgoggdaohdablaaGreat
