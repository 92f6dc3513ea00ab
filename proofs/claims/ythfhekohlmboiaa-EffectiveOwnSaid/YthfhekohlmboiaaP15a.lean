import Derived.Test.YthfhekohlmboiaaP05d
namespace Go.Proofs.Ythfhekohlmboiaa
open Go.Eng
set_option maxRecDepth 100000
set_option maxHeartbeats 1000000
set_option linter.unusedVariables false
set_option linter.unusedSimpArgs false
/-! rules in force, plain -/
def keepAt (f : TRule → Bool) (l : List TRule) (i : Nat) : Bool := match l[i]? with | some r => f r | none => false
def parAt (l : List TRule) (i : Nat) : Int := match l[i]? with | some r => r.2.2.1 | none => 0
def idxs (f : TRule → Bool) (l : List TRule) (k : Nat) : List Nat := (List.range k).filter (keepAt f l)
def idxI (f : TRule → Bool) (l : List TRule) (k : Nat) : List Int := (idxs f l k).map (fun i : Nat => (i : Int))
def ancR (near : List Int) (k : Nat) (p : Int) : Int := if 0 ≤ p ∧ p < k then near.getD p.toNat 0 else -1
def nearL (f : TRule → Bool) (l : List TRule) : Nat → List Int
  | 0 => []
  | k + 1 => nearL f l k ++ [if keepAt f l k = true then ((idxs f l k).length : Int) else ancR (nearL f l k) k (parAt l k)]
def anc (f : TRule → Bool) (l : List TRule) (k : Nat) : Int := ancR (nearL f l k) k (parAt l k)
def parI (f : TRule → Bool) (l : List TRule) (k : Nat) : List Int := (idxs f l k).map (anc f l)
def nr (f : TRule → Bool) (l : List TRule) (k : Nat) : Int := if keepAt f l k = true then ((idxs f l k).length : Int) else anc f l k
theorem keepAt_get {f : TRule → Bool} {l : List TRule} {i : Nat} (h : i < l.length) : keepAt f l i = f l[i] := by simp [keepAt, h]
theorem parAt_get {l : List TRule} {i : Nat} (h : i < l.length) : parAt l i = l[i].2.2.1 := by simp [parAt, h]
theorem keepAt_lt {f : TRule → Bool} {l : List TRule} {i : Nat} (h : keepAt f l i = true) : i < l.length := by
  unfold keepAt at h; split at h
  · rename_i e; exact (List.getElem?_eq_some_iff.1 e).1
  · cases h
theorem idxs_succ (f : TRule → Bool) (l : List TRule) (k : Nat) : idxs f l (k + 1) = idxs f l k ++ if keepAt f l k = true then [k] else [] := by
  unfold idxs; rw [List.range_succ, List.filter_append]; by_cases h : keepAt f l k = true <;> simp [h]
theorem idxs_len (f : TRule → Bool) (l : List TRule) (k : Nat) : (idxs f l k).length ≤ k := by
  unfold idxs; have := List.length_filter_le (keepAt f l) (List.range k); simpa using this
theorem idxs_mem {f : TRule → Bool} {l : List TRule} {k i : Nat} : i ∈ idxs f l k ↔ i < k ∧ keepAt f l i = true := by simp [idxs]
theorem idxI_len (f : TRule → Bool) (l : List TRule) (k : Nat) : (idxI f l k).length = (idxs f l k).length := by simp [idxI]
theorem parI_len (f : TRule → Bool) (l : List TRule) (k : Nat) : (parI f l k).length = (idxs f l k).length := by simp [parI]
theorem nearL_len (f : TRule → Bool) (l : List TRule) : ∀ k, (nearL f l k).length = k
  | 0 => rfl
  | k + 1 => by rw [nearL, List.length_append, nearL_len f l k]; rfl
theorem idxI_t {f : TRule → Bool} {l : List TRule} {k : Nat} (h : keepAt f l k = true) : idxI f l (k + 1) = idxI f l k ++ [(k : Int)] := by
  unfold idxI; rw [idxs_succ, if_pos h, List.map_append]; rfl
theorem idxI_f {f : TRule → Bool} {l : List TRule} {k : Nat} (h : ¬ keepAt f l k = true) : idxI f l (k + 1) = idxI f l k := by
  unfold idxI; rw [idxs_succ, if_neg h, List.append_nil]
theorem parI_t {f : TRule → Bool} {l : List TRule} {k : Nat} (h : keepAt f l k = true) : parI f l (k + 1) = parI f l k ++ [anc f l k] := by
  unfold parI; rw [idxs_succ, if_pos h, List.map_append]; rfl
theorem parI_f {f : TRule → Bool} {l : List TRule} {k : Nat} (h : ¬ keepAt f l k = true) : parI f l (k + 1) = parI f l k := by
  unfold parI; rw [idxs_succ, if_neg h, List.append_nil]
theorem nearL_t {f : TRule → Bool} {l : List TRule} {k : Nat} (h : keepAt f l k = true) : nearL f l (k + 1) = nearL f l k ++ [((idxs f l k).length : Int)] := by rw [nearL, if_pos h]
theorem nearL_f {f : TRule → Bool} {l : List TRule} {k : Nat} (h : ¬ keepAt f l k = true) : nearL f l (k + 1) = nearL f l k ++ [anc f l k] := by rw [nearL, if_neg h]; rfl
/-- the row of nearest rules, k of n entries filled -/
def nrow (near : List Int) (n : Nat) : List Int := near ++ List.replicate (n - near.length) 0
theorem nrow_len {near : List Int} {n : Nat} (h : near.length ≤ n) : (nrow near n).length = n := by simp [nrow]; omega
theorem nrow_set {near : List Int} {n k : Nat} {x : Int} (hk : near.length = k) (h : k < n) : (nrow near n).set (0 + k) x = nrow (near ++ [x]) n := by
  unfold nrow
  obtain ⟨d, hd⟩ : ∃ d, n - near.length = d + 1 := ⟨n - near.length - 1, by omega⟩
  rw [Nat.zero_add, List.set_append_right _ _ (by omega), hd, show k - near.length = 0 by omega]
  rw [List.replicate_succ, List.set_cons_zero, List.length_append, List.append_assoc, show n - (near.length + [x].length) = d by simp; omega]; rfl
theorem nrow_set2 {near : List Int} {n k : Nat} {x y : Int} (hk : near.length = k) (h : k < n) : ((nrow near n).set (0 + k) x).set (0 + k) y = nrow (near ++ [y]) n := by
  rw [List.set_set, nrow_set hk h]
theorem nrow_get {near : List Int} {n k : Nat} (h : k < near.length) : (nrow near n)[0 + k]? = some (near.getD k 0) := by
  unfold nrow; rw [Nat.zero_add, List.getElem?_append_left h, List.getD_eq_getElem?_getD, List.getElem?_eq_getElem h]; rfl
theorem nearL_get {f : TRule → Bool} {l : List TRule} : ∀ {k i : Nat}, i < k → (nearL f l k)[i]? = some (nr f l i)
  | k + 1, i, h => by
    rw [nearL]
    by_cases e : i < k
    · rw [List.getElem?_append_left (by rw [nearL_len]; exact e), nearL_get e]
    · obtain rfl : i = k := by omega
      rw [List.getElem?_append_right (by rw [nearL_len]; omega), nearL_len, Nat.sub_self]; rfl
theorem anc_unf (f : TRule → Bool) (l : List TRule) (k : Nat) : anc f l k = if 0 ≤ parAt l k ∧ parAt l k < k then nr f l (parAt l k).toNat else -1 := by
  unfold anc ancR
  split
  · rename_i h
    rw [List.getD_eq_getElem?_getD, nearL_get (by omega)]; rfl
  · rfl
theorem anc_t {f : TRule → Bool} {l : List TRule} {k : Nat} (h : 0 ≤ parAt l k ∧ parAt l k < k) : anc f l k = nr f l (parAt l k).toNat := by rw [anc_unf, if_pos h]
theorem anc_f {f : TRule → Bool} {l : List TRule} {k : Nat} (h : ¬ (0 ≤ parAt l k ∧ parAt l k < k)) : anc f l k = -1 := by rw [anc_unf, if_neg h]
theorem idxs_le (f : TRule → Bool) (l : List TRule) {i k : Nat} (h : i ≤ k) : (idxs f l i).length ≤ (idxs f l k).length := by
  induction k with
  | zero => obtain rfl : i = 0 := by omega
            exact Nat.le_refl _
  | succ k ih =>
    by_cases e : i ≤ k
    · have := ih e; rw [idxs_succ, List.length_append]; omega
    · obtain rfl : i = k + 1 := by omega
      exact Nat.le_refl _
theorem idxs_lt (f : TRule → Bool) (l : List TRule) {i k : Nat} (h : i < k) (hk : keepAt f l i = true) : (idxs f l i).length < (idxs f l k).length := by
  have := idxs_le f l (show i + 1 ≤ k from h)
  rw [idxs_succ, if_pos hk, List.length_append] at this; simp at this; omega
/-- an ancestor is earlier in the list -/
theorem anc_bd (f : TRule → Bool) (l : List TRule) : ∀ (n k : Nat), k < n → -1 ≤ anc f l k ∧ anc f l k < ((idxs f l k).length : Nat) ∨ anc f l k = -1
  | n + 1, k, h => by
    by_cases e : 0 ≤ parAt l k ∧ parAt l k < k
    · rw [anc_t e]
      by_cases e2 : keepAt f l (parAt l k).toNat = true
      · have := idxs_lt f l (show (parAt l k).toNat < k by omega) e2
        left; unfold nr; rw [if_pos e2]; omega
      · have := idxs_le f l (show (parAt l k).toNat ≤ k by omega)
        unfold nr; rw [if_neg e2]
        rcases anc_bd f l n (parAt l k).toNat (by omega) with q | q
        · left; omega
        · right; exact q
    · right; exact anc_f e
theorem anc_range (f : TRule → Bool) (l : List TRule) (k : Nat) : -1 ≤ anc f l k ∧ anc f l k < ((idxs f l k).length : Nat) := by
  rcases anc_bd f l (k + 1) k (by omega) with h | h <;> omega
/-- the place of a number in a list, or -1 -/
def indF (n : Int) : List Int → Nat → Int
  | [], _ => -1
  | x :: l, k => if x = n then (k : Int) else indF n l (k + 1)
theorem indF_append {n : Int} : ∀ {a b : List Int} {k : Nat}, indF n (a ++ b) k = if n ∈ a then indF n a k else indF n b (k + a.length)
  | [], b, k => by simp
  | x :: a, b, k => by
    rw [List.cons_append, indF, indF]
    by_cases e : x = n
    · simp [e]
    · rw [if_neg e, if_neg e, indF_append]
      have : (n ∈ x :: a) ↔ n ∈ a := by simp [Ne.symm e]
      simp only [this, List.length_cons]
      rw [show k + 1 + a.length = k + (a.length + 1) by omega]
theorem indF_no {n : Int} : ∀ {a : List Int} {k : Nat}, n ∉ a → indF n a k = -1
  | [], _, _ => rfl
  | x :: a, k, h => by
    rw [indF, if_neg (by intro e; exact h (by simp [e])), indF_no (by intro e; exact h (by simp [e]))]
theorem idxI_mem {f : TRule → Bool} {l : List TRule} {k i : Nat} : (i : Int) ∈ idxI f l k ↔ i < k ∧ keepAt f l i = true := by
  unfold idxI; rw [List.mem_map]
  constructor
  · rintro ⟨j, h1, h2⟩
    obtain rfl : j = i := by omega
    exact idxs_mem.1 h1
  · intro h; exact ⟨i, idxs_mem.2 h, rfl⟩
theorem indF_idxs {f : TRule → Bool} {l : List TRule} {p : Nat} : ∀ {N : Nat}, p < N → keepAt f l p = true → indF (p : Int) (idxI f l N) 0 = ((idxs f l p).length : Nat)
  | N + 1, h, hk => by
    by_cases e : p < N
    · by_cases g : keepAt f l N = true
      · rw [idxI_t g, indF_append, if_pos (idxI_mem.2 ⟨e, hk⟩), indF_idxs e hk]
      · rw [idxI_f g, indF_idxs e hk]
    · obtain rfl : p = N := by omega
      rw [idxI_t hk, indF_append, if_neg (by rw [idxI_mem]; omega), indF, if_pos rfl, Nat.zero_add, idxI_len]
theorem indF_none {f : TRule → Bool} {l : List TRule} {p N : Nat} (hk : ¬ keepAt f l p = true) : indF (p : Int) (idxI f l N) 0 = -1 :=
  indF_no (by rw [idxI_mem]; exact fun h => hk h.2)
/-- one step of the reference's search -/
theorem step_t {f : TRule → Bool} {l : List TRule} {i N : Nat} (h : 0 ≤ parAt l i ∧ parAt l i < i) (hi : i ≤ N) (hk : 0 ≤ indF (parAt l i) (idxI f l N) 0) : anc f l i = indF (parAt l i) (idxI f l N) 0 := by
  obtain ⟨p, hp⟩ : ∃ p : Nat, parAt l i = p := ⟨(parAt l i).toNat, by omega⟩
  rw [anc_t h]; rw [hp] at hk h ⊢
  by_cases g : keepAt f l p = true
  · rw [indF_idxs (by omega) g]; unfold nr; rw [Int.toNat_natCast, if_pos g]
  · rw [indF_none g] at hk; omega
theorem step_f {f : TRule → Bool} {l : List TRule} {i N : Nat} (h : 0 ≤ parAt l i ∧ parAt l i < i) (hi : i ≤ N) (hk : ¬ 0 ≤ indF (parAt l i) (idxI f l N) 0) : anc f l i = anc f l (parAt l i).toNat := by
  obtain ⟨p, hp⟩ : ∃ p : Nat, parAt l i = p := ⟨(parAt l i).toNat, by omega⟩
  rw [anc_t h]; rw [hp] at hk h ⊢
  by_cases g : keepAt f l p = true
  · rw [indF_idxs (by omega) g] at hk; omega
  · unfold nr; rw [Int.toNat_natCast, if_neg g]
/-- the rules of a definition in force -/
def fD (d date : Int) (r : TRule) : Bool := decide (r.2.1 = d) && contR r.2.2.2.2.1 date
def fA (date : Int) (r : TRule) : Bool := contR r.2.2.2.2.1 date
def priI (f : TRule → Bool) (l : List TRule) (k : Nat) : List Int := (idxs f l k).map (fun i => match l[i]? with | some r => r.2.2.2.1 | none => 0)
end Go.Proofs.Ythfhekohlmboiaa
