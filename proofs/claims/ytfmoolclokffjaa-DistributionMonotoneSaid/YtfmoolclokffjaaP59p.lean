import Derived.Test.YtfmoolclokffjaaP59e
namespace Go.Proofs.Ytfmoolclokffjaa
open Go.Eng
set_option maxRecDepth 100000
set_option maxHeartbeats 1000000
set_option linter.unusedVariables false
set_option linter.unusedSimpArgs false
/-! a list turned about; quantiles in order: plain -/
def turnI (l : List Int) (c j : Nat) : List Int := (List.range j).map fun i => l.getD ((l.length - 1 - i + c) % l.length) 0
theorem turnI_len {l : List Int} {c j : Nat} : (turnI l c j).length = j := by simp [turnI]
theorem turnI_succ {l : List Int} {c j : Nat} : turnI l c (j + 1) = turnI l c j ++ [l.getD ((l.length - 1 - j + c) % l.length) 0] := by simp [turnI, List.range_succ]
theorem turn_rem {n j c : Nat} (hj : j < n) : ((n : Int) - 1 - (j : Int) + (c : Int)).tmod (n : Int) = (((n - 1 - j + c) % n : Nat) : Int) := by
  have e : (n : Int) - 1 - (j : Int) + (c : Int) = ((n - 1 - j + c : Nat) : Int) := by omega
  rw [e, rem64 (by omega), Int.natCast_emod]
theorem turn_ix {n j c : Nat} (hj : j < n) : (n - 1 - j + c) % n = if j < c % n then c % n - 1 - j else n - 1 - j + c % n := by
  have hc : c % n < n := Nat.mod_lt _ (by omega)
  rw [Nat.add_mod, Nat.mod_eq_of_lt (show n - 1 - j < n by omega)]
  by_cases h : j < c % n
  · rw [if_pos h, Nat.mod_eq_sub_mod (by omega), Nat.mod_eq_of_lt (by omega)]; omega
  · rw [if_neg h, Nat.mod_eq_of_lt (by omega)]
theorem turnI_eq (l : List Int) (c : Nat) : turnI l c l.length = (l.take (c % l.length)).reverse ++ (l.drop (c % l.length)).reverse := by
  apply List.ext_getElem?
  intro j
  by_cases hj : j < l.length
  · have hc : c % l.length < l.length := Nat.mod_lt _ (by omega)
    unfold turnI
    rw [List.getElem?_map, List.getElem?_range hj, Option.map_some, turn_ix hj]
    by_cases h : j < c % l.length
    · rw [if_pos h, List.getElem?_append_left (by simp; omega), List.getElem?_reverse (by simp; omega), List.length_take, Nat.min_eq_left (by omega), List.getElem?_take_of_lt (by omega), List.getD_eq_getElem?_getD, List.getElem?_eq_getElem (by omega)]
      rfl
    · rw [if_neg h, List.getElem?_append_right (by simp; omega), List.length_reverse, List.length_take, Nat.min_eq_left (by omega), List.getElem?_reverse (by simp; omega), List.length_drop, List.getElem?_drop, List.getD_eq_getElem?_getD, List.getElem?_eq_getElem (by omega)]
      rw [show c % l.length + (l.length - c % l.length - 1 - (j - c % l.length)) = l.length - 1 - j + c % l.length by omega, List.getElem?_eq_getElem (by omega)]
      rfl
  · rw [List.getElem?_eq_none (by rw [turnI_len]; omega), List.getElem?_eq_none (by simp; omega)]
theorem turnI_perm (l : List Int) (c : Nat) : (turnI l c l.length).Perm l := by
  rw [turnI_eq]
  refine ((List.reverse_perm _).append (List.reverse_perm _)).trans ?_
  rw [List.take_append_drop]
theorem quan_f {l : List Int} {k n : Int} (h : (quanR l k n).2 = false) : (quanR l k n).1 = 0 := by
  unfold quanR at h ⊢
  split at h
  · rename_i q; rw [if_pos q]
  · cases h
theorem quan_t {l : List Int} {k n : Int} (h : (quanR l k n).2 = true) : 0 < l.length ∧ l.length ≤ 4096 ∧ 1 ≤ n ∧ n ≤ 1000 ∧ 0 ≤ k ∧ k ≤ n := by
  unfold quanR at h
  split at h
  · cases h
  · rename_i q; omega
theorem quan_v {l : List Int} {k n : Int} (h : 0 < l.length ∧ l.length ≤ 4096 ∧ 1 ≤ n ∧ n ≤ 1000 ∧ 0 ≤ k ∧ k ≤ n) : quanR l k n = ((srt l).getD (qAt l.length k n).toNat 0, true) := by
  unfold quanR; rw [if_neg (by omega)]
theorem srt_mono {l : List Int} {i j : Nat} (hij : i ≤ j) (hj : j < l.length) : (srt l).getD i 0 ≤ (srt l).getD j 0 := by
  have h1 : j < (srt l).length := by rw [srt_len]; exact hj
  rw [List.getD_eq_getElem?_getD, List.getElem?_eq_getElem (by omega), List.getD_eq_getElem?_getD, List.getElem?_eq_getElem h1]
  rcases Nat.lt_or_ge i j with q | q
  · exact List.pairwise_iff_getElem.1 (srt_sorted l) i j (by omega) h1 q
  · obtain rfl : i = j := by omega
    exact Int.le_refl _
theorem qAt_mono {m : Nat} {k k' n : Int} (hn : 1 ≤ n) (h : k ≤ k') : qAt m k n ≤ qAt m k' n := by
  have h1 : k * m ≤ k' * m := Int.mul_le_mul_of_nonneg_right h (by omega)
  have h2 : (k * m + n - 1) / n ≤ (k' * m + n - 1) / n := Int.ediv_le_ediv (by omega) (by omega)
  unfold qAt; omega
theorem qAt_0 {m : Nat} {n : Int} (hn : 1 ≤ n) : qAt m 0 n = 0 := by
  unfold qAt
  rw [Int.zero_mul, Int.zero_add, Int.ediv_eq_zero_of_lt (by omega) (by omega)]; rfl
theorem qAt_n {m : Nat} {n : Int} (hn : 1 ≤ n) (hm : 0 < m) : qAt m n n = (m : Int) - 1 := by
  have h : (n * m + n - 1) / n = m := by
    rw [show n * (m : Int) + n - 1 = (n - 1) + m * n by rw [Int.mul_comm n]; omega, Int.add_mul_ediv_right _ _ (by omega), Int.ediv_eq_zero_of_lt (by omega) (by omega)]; omega
  unfold qAt; rw [h]; omega
theorem srt_bd {l : List Int} {v : Int} (hv : v ∈ l) : (srt l).getD 0 0 ≤ v ∧ v ≤ (srt l).getD (l.length - 1) 0 := by
  obtain ⟨j, hj, e⟩ := List.getElem_of_mem ((srt_perm l).mem_iff.2 hv)
  have hl : j < l.length := by rw [srt_len] at hj; exact hj
  have hg : (srt l).getD j 0 = v := by rw [List.getD_eq_getElem?_getD, List.getElem?_eq_getElem hj]; exact e
  have h1 := srt_mono (l := l) (i := 0) (j := j) (by omega) hl
  have h2 := srt_mono (l := l) (i := j) (j := l.length - 1) (by omega) (by omega)
  omega
theorem wrap_sub (a b : Int) : IntKind.i64.wrap (IntKind.i64.wrap a - b) = IntKind.i64.wrap (a - b) := by simp only [IntKind.wrap_i64]; omega
theorem sumW_sub {s : Int} {c : List Int} {k : Nat} (h : k < c.length) : IntKind.i64.wrap (IntKind.i64.wrap (s - (c.take k).sum) - c[k]) = IntKind.i64.wrap (s - (c.take (k + 1)).sum) := by
  rw [wrap_sub, List.take_succ_eq_append_getElem h, List.sum_append]
  congr 1; simp; omega
theorem sumW_add {l : List Int} {k : Nat} (h : k < l.length) : IntKind.i64.wrap (IntKind.i64.wrap (l.take k).sum + l[k]) = IntKind.i64.wrap (l.take (k + 1)).sum := by
  rw [wrap_add, List.take_succ_eq_append_getElem h, List.sum_append]; simp
end Go.Proofs.Ytfmoolclokffjaa
