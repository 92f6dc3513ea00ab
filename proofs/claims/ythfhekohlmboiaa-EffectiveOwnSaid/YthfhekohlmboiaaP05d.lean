import Derived.Test.YthfhekohlmboiaaP05b
import Derived.Test.YthfhekohlmboiaaEngS
namespace Go.Proofs.Ythfhekohlmboiaa
open Go.Eng
set_option maxRecDepth 100000
set_option maxHeartbeats 1000000
set_option linter.unusedVariables false
set_option linter.unusedSimpArgs false
theorem norm_pair : ∀ {l : List Rg}, Norm l → l.Pairwise (fun x y => x.2 < y.1)
  | [], _ => .nil
  | x :: l, h => List.pairwise_cons.2 ⟨h.2.1, norm_pair h.2.2⟩
def nthR (l : List Rg) (i : Nat) : Rg := l[i]?.getD (0, 0)
def normAt (l : List Rg) (i : Nat) : Bool := validR (nthR l i) && decide ((nthR l i).1 < (nthR l i).2) && (decide (i = 0) || decide ((nthR l (i - 1)).2 < (nthR l i).1))
theorem norm_at {l : List Rg} (h : Norm l) {i : Nat} (hi : i < l.length) : normAt l i = true := by
  have h1 := hasD_iff.1 (norm_mem h l[i] (List.getElem_mem hi))
  have hv : validR l[i] = true := validR_iff.2 (by omega)
  unfold normAt nthR
  rw [List.getElem?_eq_getElem hi, Option.getD_some, hv, decide_eq_true h1.2.1]
  by_cases c : i = 0
  · simp [c]
  · have hi' : i - 1 < l.length := by omega
    have := List.pairwise_iff_getElem.1 (norm_pair h) (i - 1) i hi' hi (by omega)
    rw [List.getElem?_eq_getElem hi', Option.getD_some, decide_eq_true this]; simp
def contL (l : List Rg) (d : Int) : Bool := l.any (fun r => contR r d)
theorem contL_iff {l : List Rg} {d : Int} : contL l d = true ↔ Dat l d := by simp [contL, Dat]
theorem dat_norm {l : List Rg} (h : Norm l) (d : Int) : Dat l d ↔ Cov l d := by
  constructor
  · rintro ⟨r, hr, q⟩; have q := contR_iff.1 q; exact ⟨r, hr, by omega, by omega⟩
  · rintro ⟨r, hr, q⟩; have := hasD_iff.1 (norm_mem h r hr); exact ⟨r, hr, contR_iff.2 (by omega)⟩
theorem contL_union (l : List Rg) (d : Int) : contL (unionR l) d = contL l d := by
  obtain ⟨h1, h2⟩ := unionR_ok l
  rw [Bool.eq_iff_iff, contL_iff, contL_iff, dat_norm h1, h2]
theorem contL_gaps (l : List Rg) (w : Rg) (d : Int) : contL (gapsP l w) d = (contR w d && !contL l d) := by
  rw [gaps_eq]
  obtain ⟨h1, h2⟩ := gapsR_ok (l := l) (w := w)
  rw [Bool.eq_iff_iff, contL_iff, dat_norm h1, h2, Bool.and_eq_true, Bool.not_eq_true', ← Bool.not_eq_true, contL_iff]
theorem gaps_norm (l : List Rg) (w : Rg) : Norm (gapsP l w) := by rw [gaps_eq]; exact gapsR_ok.1
theorem union_union (l : List Rg) : unionR (unionR l) = unionR l := by
  obtain ⟨h1, h2⟩ := unionR_ok l
  obtain ⟨h3, h4⟩ := unionR_ok (unionR l)
  exact norm_uniq h3 h1 fun d => by rw [h4, dat_norm h1]
theorem union_dat {l m : List Rg} (h : ∀ d, Dat l d ↔ Dat m d) : unionR l = unionR m := by
  obtain ⟨h1, h2⟩ := unionR_ok l
  obtain ⟨h3, h4⟩ := unionR_ok m
  exact norm_uniq h1 h3 fun d => by rw [h2, h4, h]
theorem gaps_dat {l m : List Rg} (w : Rg) (h : ∀ d, Dat l d ↔ Dat m d) : gapsP l w = gapsP m w := by unfold gapsP; rw [union_dat h]
theorem dat_mem {l m : List Rg} (h : ∀ r, r ∈ l ↔ r ∈ m) (d : Int) : Dat l d ↔ Dat m d := ⟨fun ⟨r, hr, q⟩ => ⟨r, (h r).1 hr, q⟩, fun ⟨r, hr, q⟩ => ⟨r, (h r).2 hr, q⟩⟩
/-- the boundaries -/
def bnd : List Rg → List Int
  | [] => []
  | r :: l => (if hasD r = true then [r.1, r.2] else []) ++ bnd l
theorem bnd_mem : ∀ {l : List Rg} {x : Int}, x ∈ bnd l ↔ ∃ r ∈ l, hasD r = true ∧ (x = r.1 ∨ x = r.2)
  | [], x => by simp [bnd]
  | r :: l, x => by
    rw [bnd, List.mem_append, bnd_mem]
    constructor
    · rintro (h | ⟨q, hq, h⟩)
      · split at h
        · rename_i c; exact ⟨r, by simp, c, by simpa using h⟩
        · simp at h
      · exact ⟨q, by simp [hq], h⟩
    · rintro ⟨q, hq, h⟩
      rcases List.mem_cons.1 hq with e | e
      · subst e; left; rw [if_pos h.1]; simpa using h.2
      · exact .inr ⟨q, e, h⟩
theorem bnd_append : ∀ (a b : List Rg), bnd (a ++ b) = bnd a ++ bnd b
  | [], _ => rfl
  | r :: a, b => by rw [List.cons_append, bnd, bnd, bnd_append, List.append_assoc]
theorem bnd_same {l m : List Rg} (h : ∀ r, r ∈ l ↔ r ∈ m) : uniqS (bnd l) = uniqS (bnd m) :=
  uniqS_eq (uniqS_ok _).1 fun x => by
    rw [(uniqS_ok _).2, bnd_mem, bnd_mem]
    exact ⟨fun ⟨r, hr, q⟩ => ⟨r, (h r).2 hr, q⟩, fun ⟨r, hr, q⟩ => ⟨r, (h r).1 hr, q⟩⟩
theorem inter_comm (a b : Rg) : interR a b = interR b a := by
  unfold interR
  by_cases h : hasD a = false ∨ hasD b = false
  · rw [if_pos h, if_pos h.symm]
  · rw [if_neg h, if_neg (c := hasD b = false ∨ hasD a = false) (fun q => h q.symm)]
    have e1 : (if b.2 < a.2 then b.2 else a.2) = if a.2 < b.2 then a.2 else b.2 := by split <;> split <;> omega
    have e2 : (if a.1 < b.1 then b.1 else a.1) = if b.1 < a.1 then a.1 else b.1 := by split <;> split <;> omega
    simp only [e1, e2]
theorem gaps_one (a b : Rg) : gapsP [b] a = subR a b := by
  rw [gaps_eq]
  unfold gapsR
  by_cases h : hasD a = false
  · rw [if_pos h]; unfold subR; rw [if_pos h]
  · rw [if_neg h]; simp
theorem sub_len (a b : Rg) : (subR a b).length ≤ 2 := by unfold subR; (repeat' split) <;> simp
/-- the reversed, turned list has the same elements -/
theorem turn_mem {l m : List Rg} {c : Nat} (hm : m.length = l.length) (h : ∀ i, i < l.length → m[i]? = l[(l.length - 1 - i + c) % l.length]?) : ∀ r, r ∈ l ↔ r ∈ m := by
  intro r
  by_cases h0 : l.length = 0
  · have e1 := List.length_eq_zero_iff.1 h0
    have e2 := List.length_eq_zero_iff.1 (hm.trans h0)
    rw [e1, e2]
  constructor
  · intro hr
    obtain ⟨j, hj, rfl⟩ := List.mem_iff_getElem.1 hr
    have hi : (l.length - 1 - j + c) % l.length < l.length := Nat.mod_lt _ (by omega)
    have e := h _ hi
    have e2 : (l.length - 1 - (l.length - 1 - j + c) % l.length + c) % l.length = j := by
      have a1 := Nat.div_add_mod (l.length - 1 - j + c) l.length
      generalize (l.length - 1 - j + c) % l.length = i at *
      generalize (l.length - 1 - j + c) / l.length = q at *
      have a2 : l.length - 1 - i + c = j + l.length * q := by omega
      rw [a2, Nat.add_mul_mod_self_left, Nat.mod_eq_of_lt hj]
    rw [e2, List.getElem?_eq_getElem hj] at e
    exact List.mem_of_getElem? e
  · intro hr
    obtain ⟨i, hi, rfl⟩ := List.mem_iff_getElem.1 hr
    have e := h i (by omega)
    rw [List.getElem?_eq_getElem hi] at e
    exact List.mem_of_getElem? e.symm
end Go.Proofs.Ythfhekohlmboiaa
