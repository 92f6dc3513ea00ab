import Derived.Test.YtcdkmhmlpjnfeaaP12c
namespace Go.Proofs.Ytcdkmhmlpjnfeaa
open Go.Eng
set_option maxRecDepth 100000
set_option maxHeartbeats 1000000
set_option linter.unusedVariables false
set_option linter.unusedSimpArgs false
/-! a valid table, plain -/
/-- the first row that is out of bounds, or in conflict with an earlier one -/
def valF (bad : TRow → Bool) (l : List TRow) : Nat → Int × Int
  | 0 => (0, 0)
  | d + 1 => if bad (l.getD (l.length - (d + 1)) ((0, 0), 0, 0, 0)) = true then (((l.length - (d + 1) : Nat) : Int), 3)
    else if (firstL (fun x => confl x (l.getD (l.length - (d + 1)) ((0, 0), 0, 0, 0))) (l.take (l.length - (d + 1))) 0).2 = true then (((l.length - (d + 1) : Nat) : Int), 11) else valF bad l d
theorem valF_at {bad : TRow → Bool} {l : List TRow} {j : Nat} (h : j < l.length) : valF bad l (l.length - j) = if bad l[j] = true then ((j : Int), 3) else if (firstL (fun x => confl x l[j]) (l.take j) 0).2 = true then ((j : Int), 11) else valF bad l (l.length - (j + 1)) := by
  obtain ⟨d, hd⟩ : ∃ d, l.length - j = d + 1 := ⟨l.length - j - 1, by omega⟩
  have e : l.length - (d + 1) = j := by omega
  rw [hd, valF, e, List.getD_eq_getElem?_getD, List.getElem?_eq_getElem h, show l.length - (j + 1) = d by omega]
  rfl
theorem firstL_f {f : TRow → Bool} : ∀ (l : List TRow) (k : Nat), (firstL f l k).2 = false → firstL f l k = (0, false) ∧ ∀ x ∈ l, f x = false
  | [], k, _ => ⟨rfl, by simp⟩
  | x :: l, k, h => by
    rw [firstL] at h ⊢
    by_cases c : f x = true
    · rw [if_pos c] at h; cases h
    · rw [if_neg c] at h ⊢
      obtain ⟨h1, h2⟩ := firstL_f l (k + 1) h
      refine ⟨h1, fun y hy => ?_⟩
      rcases List.mem_cons.1 hy with e | e
      · subst e; simpa using c
      · exact h2 y e
theorem valF_ok {bad : TRow → Bool} {l : List TRow} : ∀ d, d ≤ l.length → (valF bad l d).2 = 0 → fconf l d = (0, 0, false) ∧ ∀ j, (hj : j < l.length) → l.length - d ≤ j → (firstL (fun x => confl x l[j]) (l.take j) 0).2 = false
  | 0, _, _ => ⟨rfl, fun j hj h => by omega⟩
  | d + 1, hd, h => by
    obtain ⟨j, hj⟩ : ∃ j, l.length - (d + 1) = j := ⟨_, rfl⟩
    have e : d + 1 = l.length - j := by omega
    have hjl : j < l.length := by omega
    rw [e, valF_at hjl] at h
    by_cases c1 : bad l[j] = true
    · rw [if_pos c1] at h; simp at h
    · rw [if_neg c1] at h
      by_cases c2 : (firstL (fun x => confl x l[j]) (l.take j) 0).2 = true
      · rw [if_pos c2] at h; simp at h
      · rw [if_neg c2, show l.length - (j + 1) = d by omega] at h
        obtain ⟨a1, a2⟩ := valF_ok d (by omega) h
        refine ⟨?_, fun i hi hl => ?_⟩
        · rw [e, fconf_at hjl, if_neg c2, show l.length - (j + 1) = d by omega, a1]
        · by_cases q : i = j
          · subst q; simpa using c2
          · exact a2 i hi (by omega)
theorem match_confl {a b : TRow} {date key : Int} (h1 : matchR date key a = true) (h2 : matchR date key b = true) : confl a b = true := by
  simp only [matchR, Bool.and_eq_true, decide_eq_true_eq] at h1 h2
  obtain ⟨⟨c1, l1⟩, u1⟩ := h1
  obtain ⟨⟨c2, l2⟩, u2⟩ := h2
  have c1 := contR_iff.1 c1
  have c2 := contR_iff.1 c2
  have i : (interR a.1 b.1).2 = true := by
    rw [← Bool.not_eq_false]
    intro q
    have := inter_f (a := a.1) (b := b.1) (hasD_iff.2 (by omega)) (hasD_iff.2 (by omega)) q
    omega
  unfold confl
  rw [i, Bool.true_and, decide_eq_true_eq]
  omega
/-- at most one element satisfies the predicate -/
def Lone (f : TRow → Bool) (l : List TRow) : Prop := l.Pairwise (fun a b => f a = true → f b = true → False)
theorem lone_of {date key : Int} {l : List TRow} (h : ∀ j, (hj : j < l.length) → (firstL (fun x => confl x l[j]) (l.take j) 0).2 = false) : Lone (matchR date key) l := by
  unfold Lone
  rw [List.pairwise_iff_getElem]
  intro i j hi hj hij h1 h2
  have := (firstL_f _ _ (h j hj)).2 l[i] (List.mem_take_iff_getElem.2 ⟨i, by omega, rfl⟩)
  rw [match_confl h1 h2] at this
  cases this
theorem lone_first {f : TRow → Bool} : ∀ {l : List TRow} (m i : Nat) (h : i < l.length), Lone f l → f l[i] = true → firstL f l m = (((m + i : Nat) : Int), true)
  | x :: l, m, 0, h, hl, hf => by rw [firstL, if_pos (show f x = true from hf)]; rfl
  | x :: l, m, i + 1, h, hl, hf => by
    have hl := List.pairwise_cons.1 hl
    have hm : l[i]'(by simpa using h) ∈ l := List.getElem_mem _
    rw [firstL, if_neg (fun c => hl.1 _ hm c hf), lone_first (m + 1) i (by simpa using h) hl.2 hf, show m + 1 + i = m + (i + 1) by omega]
theorem lone_cnt {f : TRow → Bool} : ∀ {l : List TRow} (m : Nat), Lone f l → (l.filter f).length ≤ 1 ∧ (firstL f l m).2 = decide ((l.filter f).length = 1)
  | [], m, _ => ⟨by simp, rfl⟩
  | x :: l, m, hl => by
    have hl := List.pairwise_cons.1 hl
    obtain ⟨a1, a2⟩ := lone_cnt (l := l) (m + 1) hl.2
    by_cases c : f x = true
    · have e : l.filter f = [] := List.filter_eq_nil_iff.2 fun y hy q => hl.1 y hy c q
      rw [List.filter_cons_of_pos c, e, firstL, if_pos c]
      simp
    · rw [List.filter_cons_of_neg c, firstL, if_neg c]
      exact ⟨a1, a2⟩
theorem lone_take {f : TRow → Bool} {l : List TRow} (k : Nat) (h : Lone f l) : ((l.take k).filter f).length ≤ 1 := (lone_cnt 0 (h.sublist (List.take_sublist k l))).1
end Go.Proofs.Ytcdkmhmlpjnfeaa
