import Derived.Test.YtfamnoalgjkjhaaP34i
namespace Go.Proofs.Ytfamnoalgjkjhaa
set_option linter.unusedSimpArgs false
set_option linter.unusedVariables false
/-! ### plain: the next free segment -/
def Fr (nx : List Int) (j : Nat) : Prop := nx[j]? = some (j : Int)
def GoodN (nx : List Int) : Prop := ∀ k, k < nx.length → ∃ v : Nat, nx[k]? = some (v : Int) ∧ k ≤ v ∧ v < nx.length ∧ ∀ j, k ≤ j → j < v → ¬ Fr nx j
def IsFF (nx : List Int) (i r : Nat) : Prop := i ≤ r ∧ r < nx.length ∧ Fr nx r ∧ ∀ j, i ≤ j → j < r → ¬ Fr nx j
theorem isFF_uniq {nx : List Int} {i r s : Nat} (h : IsFF nx i r) (h' : IsFF nx i s) : r = s := by
  obtain ⟨a1, a2, a3, a4⟩ := h
  obtain ⟨b1, b2, b3, b4⟩ := h'
  rcases Nat.lt_trichotomy r s with c | c | c
  · exact absurd a3 (b4 r a1 c)
  · exact c
  · exact absurd b3 (a4 s b1 c)
noncomputable def ffree (nx : List Int) (i : Nat) : Nat := @dite _ (∃ r, IsFF nx i r) (Classical.propDecidable _) (fun h => Classical.choose h) (fun _ => 0)
theorem ffree_eq {nx : List Int} {i r : Nat} (h : IsFF nx i r) : ffree nx i = r := by
  have he : ∃ r, IsFF nx i r := ⟨r, h⟩
  unfold ffree
  rw [dif_pos he]
  exact isFF_uniq (Classical.choose_spec he) h
structure SameFr (nx ys : List Int) : Prop where
  good : GoodN ys
  len : ys.length = nx.length
  fr : ∀ j, Fr ys j ↔ Fr nx j
theorem sameFr_refl {nx : List Int} (h : GoodN nx) : SameFr nx nx := ⟨h, rfl, fun _ => Iff.rfl⟩
/-- seeking -/
theorem seek_step {nx : List Int} {i e : Nat} (hg : GoodN nx) (h1 : i ≤ e) (h2 : e < nx.length) (h3 : ∀ j, i ≤ j → j < e → ¬ Fr nx j) (hne : nx[e] ≠ (e : Int)) :
    ∃ v : Nat, nx[e] = (v : Int) ∧ e < v ∧ v < nx.length ∧ ∀ j, i ≤ j → j < v → ¬ Fr nx j := by
  obtain ⟨v, g1, g2, g3, g4⟩ := hg e h2
  rw [List.getElem?_eq_getElem h2] at g1
  injection g1 with g1
  refine ⟨v, g1, ?_, g3, fun j hj1 hj2 => ?_⟩
  · rcases Nat.lt_or_ge e v with c | c
    · exact c
    · exact absurd (by rw [g1]; omega) hne
  · by_cases c : j < e
    · exact h3 j hj1 c
    · exact g4 j (by omega) hj2
theorem fr_of {nx : List Int} {e : Nat} (h : e < nx.length) : Fr nx e ↔ nx[e] = (e : Int) := by
  unfold Fr; rw [List.getElem?_eq_getElem h]; simp
/-- shortening the way -/
theorem short_step {nx ys : List Int} {i i' e : Nat} (hf : IsFF nx i e) (hs : SameFr nx ys) (h1 : i ≤ i') (h2 : i' ≤ e) (hl : i' < ys.length) (hne : ys[i'] ≠ (i' : Int)) :
    ∃ v : Nat, ys[i'] = (v : Int) ∧ i' < v ∧ v ≤ e ∧ SameFr nx (ys.set i' (e : Int)) := by
  obtain ⟨f1, f2, f3, f4⟩ := hf
  obtain ⟨v, g1, g2, g3, g4⟩ := hs.good i' hl
  rw [List.getElem?_eq_getElem hl] at g1
  injection g1 with g1
  have hv : i' < v := by
    rcases Nat.lt_or_ge i' v with c | c
    · exact c
    · exact absurd (by rw [g1]; omega) hne
  have hve : v ≤ e := by
    rcases Nat.lt_or_ge e v with c | c
    · exact absurd ((hs.fr e).2 f3) (g4 e h2 c)
    · exact c
  have hie : i' < e := by omega
  have hnf : ¬ Fr ys i' := fun h => hne ((fr_of hl).1 h)
  have hel : e < ys.length := by rw [hs.len]; exact f2
  have hfr : ∀ j, Fr (ys.set i' (e : Int)) j ↔ Fr ys j := fun j => by
    by_cases c : i' = j
    · subst c
      constructor
      · intro h
        unfold Fr at h
        rw [List.getElem?_set_self hl] at h
        injection h with h; omega
      · intro h; exact absurd h hnf
    · unfold Fr; rw [List.getElem?_set_ne c]
  refine ⟨v, g1, hv, hve, ⟨fun k hk => ?_, by simp [hs.len], fun j => (hfr j).trans (hs.fr j)⟩⟩
  rw [List.length_set] at hk
  by_cases c : i' = k
  · subst c
    refine ⟨e, by rw [List.getElem?_set_self hl], by omega, by simpa using hel, fun j hj1 hj2 h => ?_⟩
    exact f4 j (by omega) hj2 ((hs.fr j).1 ((hfr j).1 h))
  · obtain ⟨u, k1, k2, k3, k4⟩ := hs.good k hk
    exact ⟨u, by rw [List.getElem?_set_ne c]; exact k1, k2, by simpa using k3, fun j hj1 hj2 h => k4 j hj1 hj2 ((hfr j).1 h)⟩
end Go.Proofs.Ytfamnoalgjkjhaa
