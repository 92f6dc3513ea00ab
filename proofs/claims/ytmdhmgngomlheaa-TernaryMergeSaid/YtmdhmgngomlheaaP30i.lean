import Derived.Test.YtmdhmgngomlheaaP30h
namespace Go.Proofs.Ytmdhmgngomlheaa
open Go.Eng
set_option maxRecDepth 100000
set_option linter.unusedVariables false
set_option linter.unusedSimpArgs false
/-! chapter 30, plain: prime implicants in order -/
def chk (n : Nat) (S : Nat → Bool) (q : NP) (j : Nat) : Bool := (List.range j).all fun i => !(q.1.testBit i) || !imp n S (mrg q i)
def prm (n : Nat) (S : Nat → Bool) (q : NP) : Bool := imp n S q && chk n S q n
theorem chk_succ (n : Nat) (S : Nat → Bool) (q : NP) (j : Nat) : chk n S q (j + 1) = (chk n S q j && (!(q.1.testBit j) || !imp n S (mrg q j))) := by
  unfold chk; rw [List.range_succ, List.all_append]; simp
theorem mrg_ne {n : Nat} {q : NP} (h : vld n q = true) (j : Nat) : (pc (mrg q j) != pc q) = q.1.testBit j := by
  cases hb : q.1.testBit j with
  | true =>
    rw [bne_iff_ne]; intro e
    have := congrArg Prod.fst (pc_inj e)
    have h2 := an_bit q.1 j j
    rw [show anN q.1 (2 ^ j) = q.1 from this, hb] at h2; simp at h2
  | false =>
    have hb2 : q.2.testBit j = false := by cases hc : q.2.testBit j with | false => rfl | true => rw [(vld_iff.1 h).2 j hc] at hb; cases hb
    have e : mrg q j = q := Prod.ext (Nat.eq_of_testBit_eq fun i => by simp only [mrg]; rw [an_bit]; by_cases e : j = i; subst e; simp [hb]; simp [e]) (Nat.eq_of_testBit_eq fun i => by simp only [mrg]; rw [an_bit]; by_cases e : j = i; subst e; simp [hb2]; simp [e])
    rw [e]; simp
def ltN (a b : NP) : Prop := popN 8 a.1 < popN 8 b.1 ∨ (popN 8 a.1 = popN 8 b.1 ∧ (a.1 < b.1 ∨ (a.1 = b.1 ∧ a.2 < b.2)))
/-- all in order -/
def rowB (m : Nat) : List NP := (List.range (m + 1)).map fun b => (m, b)
def rowM (n fx : Nat) : List NP := (List.range (2 ^ n)).flatMap fun m => if popN 8 m = fx then rowB m else []
def allP (n : Nat) : List NP := (List.range (n + 1)).flatMap (rowM n)
def prmL (n : Nat) (S : Nat → Bool) : List NP := (allP n).filter (prm n S)
theorem mem_rowB {m : Nat} {q : NP} : q ∈ rowB m ↔ q.1 = m ∧ q.2 ≤ m := by
  unfold rowB
  rw [List.mem_map]
  constructor
  · rintro ⟨b, hb, rfl⟩; exact ⟨rfl, by have := List.mem_range.1 hb; omega⟩
  · rintro ⟨h1, h2⟩; exact ⟨q.2, List.mem_range.2 (by omega), Prod.ext h1.symm rfl⟩
theorem mem_rowM {n fx : Nat} {q : NP} : q ∈ rowM n fx ↔ q.1 < 2 ^ n ∧ popN 8 q.1 = fx ∧ q.2 ≤ q.1 := by
  unfold rowM
  rw [List.mem_flatMap]
  constructor
  · rintro ⟨m, hm, hq⟩
    split at hq
    · rename_i h1
      obtain ⟨h2, h3⟩ := mem_rowB.1 hq
      subst h2; exact ⟨List.mem_range.1 hm, h1, h3⟩
    · cases hq
  · rintro ⟨h1, h2, h3⟩
    exact ⟨q.1, List.mem_range.2 h1, by rw [if_pos h2]; exact mem_rowB.2 ⟨rfl, h3⟩⟩
theorem mem_allP {n : Nat} {q : NP} : q ∈ allP n ↔ q.1 < 2 ^ n ∧ popN 8 q.1 ≤ n ∧ q.2 ≤ q.1 := by
  unfold allP
  rw [List.mem_flatMap]
  constructor
  · rintro ⟨fx, hf, hq⟩
    have := mem_rowM.1 hq
    have := List.mem_range.1 hf
    omega
  · rintro ⟨h1, h2, h3⟩
    exact ⟨_, List.mem_range.2 (by omega), mem_rowM.2 ⟨h1, rfl, h3⟩⟩
theorem sorted_allP (n : Nat) : (allP n).Pairwise ltN := by
  unfold allP
  refine List.pairwise_flatMap.2 ⟨fun fx _ => ?_, List.pairwise_lt_range.imp fun {a b} hab x hx y hy => ?_⟩
  · unfold rowM
    refine List.pairwise_flatMap.2 ⟨fun m _ => ?_, List.pairwise_lt_range.imp fun {a b} hab x hx y hy => ?_⟩
    · split
      · unfold rowB
        refine List.pairwise_map.2 (List.pairwise_lt_range.imp fun {a b} hab => .inr ⟨rfl, .inr ⟨rfl, hab⟩⟩)
      · exact List.Pairwise.nil
    · split at hx
      · split at hy
        · rename_i h1 h2
          have := mem_rowB.1 hx; have := mem_rowB.1 hy
          refine .inr ⟨?_, .inl (by omega)⟩
          rw [(mem_rowB.1 hx).1, (mem_rowB.1 hy).1, h1, h2]
        · cases hy
      · cases hx
  · have := mem_rowM.1 hx; have := mem_rowM.1 hy
    exact .inl (by omega)
theorem strict_uniq {α : Type} {R : α → α → Prop} (asym : ∀ a b, R a b → ¬ R b a) : ∀ {a b : List α}, a.Pairwise R → b.Pairwise R → (∀ x, x ∈ a ↔ x ∈ b) → a = b
  | [], [], _, _, _ => rfl
  | [], y :: b, _, _, h => by have := (h y).2 (by simp); simp at this
  | x :: a, [], _, _, h => by have := (h x).1 (by simp); simp at this
  | x :: a, y :: b, ha, hb, h => by
    rw [List.pairwise_cons] at ha hb
    have e : x = y := by
      rcases List.mem_cons.1 ((h x).1 (by simp)) with q | q
      · exact q
      · rcases List.mem_cons.1 ((h y).2 (by simp)) with q2 | q2
        · exact q2.symm
        · exact absurd (ha.1 y q2) (asym _ _ (hb.1 x q))
    subst e
    have hx : ∀ z, R x z → z ≠ x := fun z hz e => by subst e; exact asym _ _ hz hz
    rw [strict_uniq asym ha.2 hb.2 fun z => ⟨fun hz => ?_, fun hz => ?_⟩]
    · rcases List.mem_cons.1 ((h z).1 (by simp [hz])) with q | q
      · exact absurd q (hx z (ha.1 z hz))
      · exact q
    · rcases List.mem_cons.1 ((h z).2 (by simp [hz])) with q | q
      · exact absurd q (hx z (hb.1 z hz))
      · exact q
theorem cnt_small {m : Nat} (h : m < 256) : cntI (m : Int) = popN 8 m := by
  unfold cntI
  rw [bv_nat (by omega)]
  exact popN_more 8 56 m h
theorem ltP_pc {a b : NP} (ha : a.1 < 256) (hb : b.1 < 256) : ltP (pc a) (pc b) ↔ ltN a b := by
  unfold ltP ltN pc
  rw [cnt_small ha, cnt_small hb]
  simp only; omega
theorem ltP_asym (a b : TPattern) (h : ltP a b) : ¬ ltP b a := by unfold ltP at *; omega
theorem ltP_tri {a b : TPattern} (h : a ≠ b) (h2 : ¬ ltP b a) : ltP a b := by
  have : a.1 ≠ b.1 ∨ a.2 ≠ b.2 := by
    by_cases e : a.1 = b.1
    · right; intro e2; exact h (Prod.ext e e2)
    · left; exact e
  by_cases e : a.1 = b.1
  · unfold ltP at *; rw [e] at h2 ⊢; omega
  · unfold ltP at *; omega
theorem prm_vld {n : Nat} {S : Nat → Bool} {q : NP} (h : prm n S q = true) : imp n S q = true ∧ vld n q = true := by
  unfold prm at h
  rw [Bool.and_eq_true] at h
  exact ⟨h.1, (imp_iff.1 h.1).1⟩
theorem mem_prmL {n : Nat} {S : Nat → Bool} (hn : n ≤ 8) {q : NP} : q ∈ prmL n S ↔ prm n S q = true := by
  unfold prmL
  rw [List.mem_filter, mem_allP]
  constructor
  · exact fun h => h.2
  · intro h
    have hv := (prm_vld h).2
    have h1 := (vld_iff.1 hv).1
    refine ⟨⟨h1, by rw [pop8 hn h1]; exact popN_le _ _, ?_⟩, h⟩
    unfold vld at hv
    rw [Bool.and_eq_true, beq_iff_eq] at hv
    rw [← hv.2]; exact Nat.and_le_right
theorem sort_prm {n : Nat} (hn : n ≤ 8) {S : Nat → Bool} {acc : List TPattern} (hnd : acc.Nodup) (hm : ∀ x, x ∈ acc ↔ ∃ q, x = pc q ∧ prm n S q = true) : sortK acc = (prmL n S).map pc := by
  obtain ⟨h1, h2, _⟩ := sortK_ok acc
  refine strict_uniq (R := ltP) ltP_asym ?_ ?_ fun x => ?_
  · have h3 : (sortK acc).Pairwise (fun a b => a ≠ b) := (h1.symm.nodup hnd)
    exact (h2.and h3).imp fun {a b} h => ltP_tri h.2 h.1
  · refine List.pairwise_map.2 ?_
    refine (List.Pairwise.and_mem.1 ((sorted_allP n).filter _)).imp fun {a b} h => ?_
    have ha := (vld_small hn (prm_vld ((mem_prmL hn).1 h.1)).2).1
    have hb := (vld_small hn (prm_vld ((mem_prmL hn).1 h.2.1)).2).1
    exact (ltP_pc ha hb).2 h.2.2
  · rw [h1.mem_iff, hm, List.mem_map]
    constructor
    · rintro ⟨q, rfl, hq⟩; exact ⟨q, (mem_prmL hn).2 hq, rfl⟩
    · rintro ⟨q, hq, rfl⟩; exact ⟨q, rfl, (mem_prmL hn).1 hq⟩
end Go.Proofs.Ytmdhmgngomlheaa
