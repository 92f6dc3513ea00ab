import Derived.Test.YthfhekohlmboiaaEng14
import Derived.Lib.SlicesCompact
import Derived.Lib.RowBridge
namespace Go.Eng
/-! lists of integers in order, each once -/
theorem strict_eq : ∀ {a b : List Int}, a.Pairwise (· < ·) → b.Pairwise (· < ·) → (∀ x, x ∈ a ↔ x ∈ b) → a = b
  | [], [], _, _, _ => rfl
  | [], y :: b, _, _, h => by have := (h y).2 (by simp); simp at this
  | x :: a, [], _, _, h => by have := (h x).1 (by simp); simp at this
  | x :: a, y :: b, ha, hb, h => by
    rw [List.pairwise_cons] at ha hb
    have hxy : x = y := by
      have h1 := (h x).1 (by simp)
      have h2 := (h y).2 (by simp)
      rcases List.mem_cons.1 h1 with h1 | h1
      · exact h1
      rcases List.mem_cons.1 h2 with h2 | h2
      · exact h2.symm
      have := ha.1 y h2; have := hb.1 x h1; omega
    subst hxy
    rw [strict_eq ha.2 hb.2 fun z => ⟨fun hz => ?_, fun hz => ?_⟩]
    · rcases List.mem_cons.1 ((h z).1 (List.mem_cons_of_mem _ hz)) with e | e
      · subst e; exact absurd (ha.1 z hz) (by omega)
      · exact e
    · rcases List.mem_cons.1 ((h z).2 (List.mem_cons_of_mem _ hz)) with e | e
      · subst e; exact absurd (hb.1 z hz) (by omega)
      · exact e
/-- in order, each once -/
def uniqS (l : List Int) : List Int := Lib.compact (l.mergeSort fun x y => decide (x ≤ y))
theorem compactUpTo_strict {d : Array Int} (hs : d.toList.Pairwise (· ≤ ·)) : ∀ m, m ≤ d.size → (Lib.compactUpTo d m).Pairwise (· < ·) ∧ ∀ x, x ∈ Lib.compactUpTo d m ↔ ∃ j, ∃ h : j < d.size, j < m ∧ d[j] = x
  | 0, _ => by simp [Lib.compactUpTo]
  | m + 1, hm => by
    obtain ⟨h1, h2⟩ := compactUpTo_strict hs m (by omega)
    have hle : ∀ i j, ∀ (hi : i < d.size) (hj : j < d.size), i ≤ j → d[i] ≤ d[j] := fun i j hi hj hij => by
      rcases Nat.lt_or_ge i j with h | h
      · have := List.pairwise_iff_getElem.1 hs i j (by simpa using hi) (by simpa using hj) h; simpa using this
      · have : i = j := by omega
        subst this; exact Int.le_refl _
    rw [Lib.compactUpTo_succ]
    have gm : d[m]! = d[m] := getElem!_pos d m (by omega)
    by_cases hk : Lib.keeps d m = true
    · rw [if_pos hk, gm]
      refine ⟨List.pairwise_append.2 ⟨h1, by simp, fun a ha b hb => ?_⟩, fun x => ?_⟩
      · obtain rfl := List.mem_singleton.1 hb
        obtain ⟨j, hj, hjm, rfl⟩ := (h2 a).1 ha
        simp only [Lib.keeps, decide_eq_true_eq] at hk
        rcases hk with hk | hk
        · omega
        · rw [gm, getElem!_pos d (m - 1) (by omega)] at hk
          have a1 := hle j (m - 1) hj (by omega) (by omega)
          have a2 := hle (m - 1) m (by omega) (by omega) (by omega)
          omega
      · rw [List.mem_append, h2, List.mem_singleton]
        constructor
        · rintro (⟨j, hj, hjm, e⟩ | e)
          · exact ⟨j, hj, by omega, e⟩
          · exact ⟨m, by omega, by omega, e.symm⟩
        · rintro ⟨j, hj, hjm, e⟩
          by_cases hjm' : j = m
          · subst hjm'; exact .inr e.symm
          · exact .inl ⟨j, hj, by omega, e⟩
    · rw [if_neg hk, List.append_nil]
      refine ⟨h1, fun x => ?_⟩
      rw [h2]
      simp only [Lib.keeps, decide_eq_true_eq, not_or, ne_eq, Classical.not_not] at hk
      constructor
      · rintro ⟨j, hj, hjm, e⟩; exact ⟨j, hj, by omega, e⟩
      · rintro ⟨j, hj, hjm, e⟩
        by_cases hjm' : j = m
        · subst hjm'
          refine ⟨j - 1, by omega, by omega, ?_⟩
          have := hk.2
          rw [gm, getElem!_pos d (j - 1) (by omega)] at this
          rw [← this]; exact e
        · exact ⟨j, hj, by omega, e⟩
theorem sorted_le (l : List Int) : (l.mergeSort fun x y => decide (x ≤ y)).Pairwise (· ≤ ·) := by
  have := List.pairwise_mergeSort (le := fun x y : Int => decide (x ≤ y)) (fun a b c h1 h2 => by simp at h1 h2 ⊢; omega) (fun a b => by simp; omega) l
  exact this.imp (fun h => by simpa using h)
theorem uniqS_ok (l : List Int) : (uniqS l).Pairwise (· < ·) ∧ ∀ x, x ∈ uniqS l ↔ x ∈ l := by
  have hs := sorted_le l
  obtain ⟨h1, h2⟩ := compactUpTo_strict (d := (l.mergeSort fun x y => decide (x ≤ y)).toArray) (by simpa using hs) _ (Nat.le_refl _)
  have e : uniqS l = Lib.compactUpTo (l.mergeSort fun x y => decide (x ≤ y)).toArray (l.mergeSort fun x y => decide (x ≤ y)).toArray.size := by simp [uniqS, Lib.compact]
  rw [e]
  refine ⟨h1, fun x => ?_⟩
  rw [h2, ← List.mem_mergeSort (le := fun x y => decide (x ≤ y)), List.mem_iff_getElem]
  constructor
  · rintro ⟨j, hj, _, e⟩; exact ⟨j, by simpa using hj, by simpa using e⟩
  · rintro ⟨j, hj, e⟩; exact ⟨j, by simpa using hj, by simpa using hj, by simpa using e⟩
theorem uniqS_eq {l m : List Int} (h1 : m.Pairwise (· < ·)) (h2 : ∀ x, x ∈ m ↔ x ∈ l) : uniqS l = m :=
  strict_eq (uniqS_ok l).1 h1 (fun x => by rw [(uniqS_ok l).2, h2])
/-- one more, at its place -/
def insU (x : Int) : List Int → List Int
  | [] => [x]
  | y :: r => if x < y then x :: y :: r else if x = y then y :: r else y :: insU x r
theorem insU_mem (x : Int) : ∀ (l : List Int) (z : Int), z ∈ insU x l ↔ z = x ∨ z ∈ l
  | [], z => by simp [insU]
  | y :: r, z => by
    unfold insU; split
    · simp
    · split
      · rename_i h1 h2; subst h2; simp
      · simp only [List.mem_cons, insU_mem x r z]; constructor <;> (rintro (h | h | h) <;> simp [h])
theorem insU_strict (x : Int) : ∀ (l : List Int), l.Pairwise (· < ·) → (insU x l).Pairwise (· < ·)
  | [], _ => by simp [insU]
  | y :: r, h => by
    rw [List.pairwise_cons] at h
    unfold insU; split
    · rename_i h1
      refine List.pairwise_cons.2 ⟨fun z hz => ?_, List.pairwise_cons.2 h⟩
      rcases List.mem_cons.1 hz with e | e
      · omega
      · have := h.1 z e; omega
    · split
      · exact List.pairwise_cons.2 h
      · refine List.pairwise_cons.2 ⟨fun z hz => ?_, insU_strict x r h.2⟩
        rcases (insU_mem x r z).1 hz with e | e
        · omega
        · exact h.1 z e
theorem insU_uniqS (x : Int) (l : List Int) : insU x (uniqS l) = uniqS (l ++ [x]) :=
  (uniqS_eq (insU_strict x _ (uniqS_ok l).1) (fun z => by rw [insU_mem, (uniqS_ok l).2]; simp [or_comm])).symm
/-- the same, to be reckoned -/
def uniqI (l : List Int) : List Int := l.foldr insU []
theorem uniqI_ok : ∀ (l : List Int), (uniqI l).Pairwise (· < ·) ∧ ∀ z, z ∈ uniqI l ↔ z ∈ l
  | [] => by simp [uniqI]
  | x :: r => by
    obtain ⟨h1, h2⟩ := uniqI_ok r
    exact ⟨insU_strict x _ h1, fun z => by rw [show uniqI (x :: r) = insU x (uniqI r) from rfl, insU_mem, h2]; simp⟩
theorem uniqS_I (l : List Int) : uniqS l = uniqI l := uniqS_eq (uniqI_ok l).1 (uniqI_ok l).2
theorem uniqS_nil : uniqS [] = [] := uniqS_I []
theorem uniqS_of {l : List Int} (h : l.Pairwise (· < ·)) : uniqS l = l := uniqS_eq h (fun _ => Iff.rfl)
theorem uniqS_len (l : List Int) : (uniqS l).length ≤ l.length := by
  have := Lib.compact_length_le (l.mergeSort fun x y => decide (x ≤ y))
  rw [List.length_mergeSort] at this; exact this
end Go.Eng
