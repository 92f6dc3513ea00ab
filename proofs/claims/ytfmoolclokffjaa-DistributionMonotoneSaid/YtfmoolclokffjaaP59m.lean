import Derived.Test.YtfmoolclokffjaaP02l
namespace Go.Proofs.Ytfmoolclokffjaa
open Go.Eng
set_option maxRecDepth 100000
set_option maxHeartbeats 1000000
set_option linter.unusedVariables false
set_option linter.unusedSimpArgs false
/-! lists of amounts, plain -/
def okL (l : List Int) : Bool := l.all fun v => !byd v 1000000000000000
theorem okL_iff {l : List Int} : okL l = true ↔ ∀ v ∈ l, -1000000000000000 ≤ v ∧ v ≤ 1000000000000000 := by
  unfold okL
  rw [List.all_eq_true]
  constructor
  · intro h v hv
    exact byd_f (by simpa using h v hv)
  · intro h v hv
    have := h v hv
    simp [byd]; omega
def srt (l : List Int) : List Int := l.mergeSort fun x y => decide (x ≤ y)
theorem srt_perm (l : List Int) : (srt l).Perm l := List.mergeSort_perm l _
theorem srt_len (l : List Int) : (srt l).length = l.length := (srt_perm l).length_eq
theorem srt_sorted (l : List Int) : (srt l).Pairwise (· ≤ ·) := by
  have := List.pairwise_mergeSort (le := fun x y : Int => decide (x ≤ y)) (fun a b c h1 h2 => by simp at *; omega) (fun a b => by simp; omega) l
  exact this.imp (fun h => by simpa using h)
theorem srt_eq {l m : List Int} (h : m.Perm l) (hs : m.Pairwise (· ≤ ·)) : m = srt l :=
  List.Perm.eq_of_pairwise (le := (· ≤ ·)) (fun a b _ _ h1 h2 => by omega) hs (srt_sorted l) (h.trans (srt_perm l).symm)
theorem srt_of_perm {l m : List Int} (h : l.Perm m) : srt l = srt m := srt_eq ((srt_perm l).trans h) (srt_sorted l)
/-- an insertion under way: element i has come down to place k -/
def insA (l : List Int) (i k : Nat) : List Int := l.take k ++ ([l.getD i 0] ++ ((l.take i).drop k ++ l.drop (i + 1)))
theorem insA_i {l : List Int} {i : Nat} (h : i < l.length) : insA l i i = l := by
  unfold insA
  rw [List.drop_of_length_le (by simp; omega), List.nil_append, List.getD_eq_getElem?_getD, List.getElem?_eq_getElem h]
  simp
theorem insA_len {l : List Int} {i k : Nat} (h : i < l.length) (hk : k ≤ i) : (insA l i k).length = l.length := by
  unfold insA
  simp; omega
theorem insA_at {l : List Int} {i k : Nat} (h : i < l.length) (hk : k ≤ i) : (insA l i k)[k]? = some (l.getD i 0) := by
  unfold insA
  rw [List.getElem?_append_right (by simp; omega)]
  simp [show k - min k l.length = 0 by omega]
theorem insA_pre {l : List Int} {i k : Nat} (h : i < l.length) (hk : k ≤ i) (h0 : 0 < k) : (insA l i k)[k - 1]? = some (l.getD (k - 1) 0) := by
  unfold insA
  rw [List.getElem?_append_left (by simp; omega), List.getElem?_take_of_lt (by omega), List.getD_eq_getElem?_getD, List.getElem?_eq_getElem (by omega)]
  rfl
theorem insA_set {l : List Int} {i k : Nat} (h : i < l.length) (hk : k ≤ i) (h0 : 0 < k) : ((insA l i k).set k (l.getD (k - 1) 0)).set (k - 1) (l.getD i 0) = insA l i (k - 1) := by
  obtain ⟨j, rfl⟩ : ∃ j, k = j + 1 := ⟨k - 1, by omega⟩
  have hj : j < l.length := by omega
  have e1 : l.take (j + 1) = l.take j ++ [l.getD j 0] := by
    rw [List.take_succ_eq_append_getElem hj, List.getD_eq_getElem?_getD, List.getElem?_eq_getElem hj]; rfl
  have e2 : (l.take i).drop j = l.getD j 0 :: (l.take i).drop (j + 1) := by
    rw [List.drop_eq_getElem_cons (by simp; omega), List.getElem_take, List.getD_eq_getElem?_getD, List.getElem?_eq_getElem hj]; rfl
  unfold insA
  simp only [Nat.add_sub_cancel]
  rw [e1, e2, List.set_append_right _ _ (by simp; omega)]
  have hl : (l.take j ++ [l.getD j 0]).length = j + 1 := by simp; omega
  rw [hl, Nat.sub_self, List.singleton_append, List.set_cons_zero, List.append_assoc, List.set_append_right _ _ (by simp; omega)]
  have hl2 : (l.take j).length = j := by simp; omega
  rw [hl2, Nat.sub_self]
  rfl
theorem insA_perm {l : List Int} {i k : Nat} (h : i < l.length) (hk : k ≤ i) : (insA l i k).Perm l := by
  have e : l = l.take k ++ ((l.take i).drop k ++ ([l.getD i 0] ++ l.drop (i + 1))) := by
    have h1 := List.take_append_drop i l
    rw [List.drop_eq_getElem_cons h] at h1
    have h2 := List.take_append_drop k (l.take i)
    rw [List.take_take, Nat.min_eq_left hk] at h2
    have h3 : l.getD i 0 = l[i] := by rw [List.getD_eq_getElem?_getD, List.getElem?_eq_getElem h]; rfl
    rw [h3, ← List.append_assoc, h2]
    exact h1.symm
  have e2 : insA l i k = l.take k ++ ([l.getD i 0] ++ ((l.take i).drop k ++ l.drop (i + 1))) := rfl
  rw [e2]
  refine List.Perm.trans ?_ (List.Perm.of_eq e.symm)
  refine List.Perm.append_left _ ?_
  rw [← List.append_assoc, ← List.append_assoc]
  exact List.Perm.append_right _ List.perm_append_comm
/-- the insertion has come to its end -/
theorem insA_sorted {l : List Int} {i k : Nat} (h : i < l.length) (hk : k ≤ i) (hs : (l.take i).Pairwise (· ≤ ·)) (hd : ∀ y ∈ (l.take i).drop k, l.getD i 0 < y) (hp : k = 0 ∨ l.getD (k - 1) 0 ≤ l.getD i 0) :
    ((insA l i k).take (i + 1)).Pairwise (· ≤ ·) := by
  have e : (insA l i k).take (i + 1) = l.take k ++ ([l.getD i 0] ++ (l.take i).drop k) := by
    unfold insA
    rw [← List.append_assoc, ← List.append_assoc]
    rw [List.take_left' (by simp; omega), List.append_assoc]
  have hsp : (l.take k ++ (l.take i).drop k).Pairwise (· ≤ ·) := by
    have h2 := List.take_append_drop k (l.take i)
    rw [List.take_take, Nat.min_eq_left hk] at h2
    rw [h2]; exact hs
  obtain ⟨p1, p2, p3⟩ := List.pairwise_append.1 hsp
  have hx : ∀ y ∈ l.take k, y ≤ l.getD i 0 := by
    intro y hy
    rcases hp with hp | hp
    · subst hp; simp at hy
    · obtain ⟨j, hj, rfl⟩ := List.mem_take_iff_getElem.1 hy
      have hk1 : k - 1 < l.length := by omega
      rcases Nat.lt_or_ge j (k - 1) with q | q
      · have hle : l[j]'(by omega) ≤ l[k - 1]'hk1 := by
          have := List.pairwise_iff_getElem.1 p1 j (k - 1) (by simp; omega) (by simp; omega) q
          simpa using this
        rw [List.getD_eq_getElem?_getD, List.getElem?_eq_getElem hk1] at hp
        simp only [Option.getD_some] at hp
        omega
      · obtain rfl : j = k - 1 := by omega
        rw [List.getD_eq_getElem?_getD, List.getElem?_eq_getElem hk1] at hp
        simpa using hp
  rw [e]
  refine List.pairwise_append.2 ⟨p1, List.pairwise_cons.2 ⟨fun y hy => ?_, p2⟩, fun y hy z hz => ?_⟩
  · have := hd y hy; omega
  · rcases List.mem_cons.1 hz with e2 | e2
    · subst e2; exact hx y hy
    · exact p3 y hy z e2
theorem insA_step {l : List Int} {i k : Nat} (h : i < l.length) (hk : k ≤ i) (h0 : 0 < k) (hgt : l.getD i 0 < l.getD (k - 1) 0) (hd : ∀ y ∈ (l.take i).drop k, l.getD i 0 < y) : ∀ y ∈ (l.take i).drop (k - 1), l.getD i 0 < y := by
  obtain ⟨j, rfl⟩ : ∃ j, k = j + 1 := ⟨k - 1, by omega⟩
  intro y hy
  have hj : j < l.length := by omega
  rw [Nat.add_sub_cancel, List.drop_eq_getElem_cons (by simp; omega), List.getElem_take] at hy
  rcases List.mem_cons.1 hy with e | e
  · subst e
    rw [Nat.add_sub_cancel] at hgt
    have : l.getD j 0 = l[j] := by rw [List.getD_eq_getElem?_getD, List.getElem?_eq_getElem hj]; rfl
    rw [← this]; exact hgt
  · exact hd y e
/-- how many are less -/
def cntLt (a : List Int) (x : Int) : Nat := (a.filter fun y => decide (y < x)).length
theorem cntLt_le (a : List Int) (x : Int) : cntLt a x ≤ a.length := List.length_filter_le _ _
theorem cntLt_iff : ∀ {a : List Int} {x : Int}, a.Pairwise (· < ·) → ∀ (h : Nat) (hh : h < a.length), (x ≤ a[h] ↔ cntLt a x ≤ h)
  | y :: a, x, hs, h, hh => by
    have hs' := List.pairwise_cons.1 hs
    unfold cntLt
    by_cases c : y < x
    · rw [List.filter_cons_of_pos (by simpa using c), List.length_cons]
      cases h with
      | zero => simp; omega
      | succ h =>
        have := cntLt_iff (x := x) hs'.2 h (by simpa using hh)
        unfold cntLt at this
        simp only [List.getElem_cons_succ]
        rw [this]; omega
    · have e : a.filter (fun y => decide (y < x)) = [] := List.filter_eq_nil_iff.2 fun z hz => by have := hs'.1 z hz; simp; omega
      rw [List.filter_cons_of_neg (by simpa using c), e]
      cases h with
      | zero => simp; omega
      | succ h =>
        have := hs'.1 (a[h]'(by simpa using hh)) (List.getElem_mem _)
        simp; omega
/-- the quantile -/
def qAt (m : Nat) (k n : Int) : Int := if (k * m + n - 1) / n - 1 < 0 then 0 else (k * m + n - 1) / n - 1
def quanR (l : List Int) (k n : Int) : Int × Bool :=
  if l.length = 0 ∨ 4096 < l.length ∨ n < 1 ∨ 1000 < n ∨ k < 0 ∨ n < k then (0, false) else ((srt l).getD (qAt l.length k n).toNat 0, true)
theorem qAt_bd {m : Nat} {k n : Int} (hm : 0 < m) (hn : 1 ≤ n) (hk : 0 ≤ k ∧ k ≤ n) : 0 ≤ qAt m k n ∧ qAt m k n < m := by
  unfold qAt
  have h1 : k * m ≤ n * m := Int.mul_le_mul_of_nonneg_right hk.2 (by omega)
  have h2 : (k * m + n - 1) / n ≤ m := by
    have : k * m + n - 1 < (m + 1) * n := by rw [Int.add_mul, Int.one_mul, Int.mul_comm (m : Int) n]; omega
    have := (Int.ediv_lt_iff_lt_mul (by omega)).2 this
    omega
  split <;> omega
end Go.Proofs.Ytfmoolclokffjaa
