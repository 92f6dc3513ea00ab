import Derived.Test.YtkbljpjbocdhdaaEng13
namespace Go.Eng
section
variable {P : Program} {cx : Cx} {st : St} {a : Act} {w : World} {k : Kn} {c : Code}
/-- a nil slice reads as the empty list -/
theorem inv_nil {α : Type} {i : Nat} (rt : RT α) (hs : lookS st.slots i = some (.raw (.slice none 0 0))) (hi : Inv cx st a w) : Inv cx ⟨(i, .tv (rSlice rt) []) :: st.slots, st.heap⟩ a w := by
  obtain ⟨β, hb⟩ := hi
  refine ⟨β, hb.below, hb.old, hb.defers, hb.size, hb.own, hb.sep, hb.rows, fun j s hj => ?_⟩
  rw [lookS_cons] at hj
  split at hj
  · rename_i e; subst e; injection hj with hj; subst hj
    obtain ⟨v, h1, h2⟩ := hb.slots i _ hs
    have h2 : v = .slice none 0 0 := h2
    subst h2
    exact ⟨_, h1, nil_val⟩
  · exact hb.slots j s hj
theorem j_nil {α : Type} (i : Nat) (rt : RT α) (hs : lookS st.slots i = some (.raw (.slice none 0 0))) (h : J P cx ⟨(i, .tv (rSlice rt) []) :: st.slots, st.heap⟩ c k) : J P cx st c k := fun a w hi => h a w (inv_nil rt hs hi)
end
end Go.Eng
