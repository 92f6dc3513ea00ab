import Derived.Test.YtfmoolclokffjaaEng15
import Derived.Test.YtfmoolclokffjaaEng8
namespace Go.Eng
set_option linter.unusedSimpArgs false

/-! ### a function that is handed a pointer to an element of a row of its caller's, and writes it -/
theorem heap_modify {h : Array Obj} {b : Nat} {f g : Obj → Obj} (he : ∀ x, h[b]? = some x → f x = g x) : h.modify b f = h.modify b g := by
  apply Array.ext_getElem?
  intro i
  rw [Array.getElem?_modify, Array.getElem?_modify]
  by_cases e : b = i
  · rw [if_pos e, if_pos e]
    subst e
    cases hx : h[b]? with
    | none => rfl
    | some x => simp [he x hx]
  · rw [if_neg e, if_neg e]
theorem setCell_row {w : World} {b i : Nat} {cur : Array Value} {e : TypeId} {fr : Nat × Nat} {v : Value} (h : w.heap[b]? = some (.cells cur e fr)) : w.setCell ⟨b, i, none⟩ v = w.setRow b (cur.setIfInBounds i v) := by
  unfold World.setCell World.setRow
  rw [heap_modify (fun x hx => ?_)]
  rw [h] at hx
  injection hx with hx
  subst hx
  rfl
theorem setRow_setRow {w : World} {b : Nat} {c c' : Array Value} : (w.setRow b c).setRow b c' = w.setRow b c' := by
  unfold World.setRow
  simp only [World.mk.injEq, and_true, true_and]
  apply Array.ext_getElem?
  intro i
  simp only [Array.getElem?_modify]
  by_cases e : b = i
  · subst e
    simp only [if_pos]
    cases w.heap[b]? with
    | none => rfl
    | some x => cases x <;> rfl
  · simp only [if_neg e]

/-- called with a pointer to where x lies and with v, the function leaves y there and hands back nothing -/
structure CtW {α : Type} (P : Program) (k : FuncId) (n : Nat) (enc : α → List Value) (v : Value) (x y : α) : Prop where
  ent : ∀ w args, (callFunc k args).run P w = .ok (.enter k args) w
  calls : ∀ (w : World) (b o : Nat) (cur : Array Value) (e : TypeId), w.heap[b]? = some (.cells cur e (0, 0)) → o + n ≤ cur.size → (∀ j, j < n → cur[o + j]? = (enc x)[j]?) →
    Calls P k #[.pointer (some ⟨b, o, none⟩), v] w fun e' w' => e' = .returned (.tuple #[]) ∧ ∃ cur', cur'.size = cur.size ∧ (∀ j, j < n → cur'[o + j]? = (enc y)[j]?) ∧ (∀ j, j < o ∨ o + n ≤ j → cur'[j]? = cur[j]?) ∧ w' = w.setRow b cur'

section
variable {P : Program} {cx : Cx} {st st' : St} {β : Loc} {a : Act} {w w' : World} {ops : Array Oper} {k : Kn} {c : Code}
variable {dst : Option Tmp} {ty : TypeId} {pos : String} {aft : Array Edge} {gd : Option (Nat × Bool)}
variable {α : Type} {rt : RT α} [NM rt] {enc : α → List Value}

theorem op_callW {kf : FuncId} {v : Value} {z y : α} (h : CtW P kf rt.n enc v z y) (he : Exact rt enc) {nm i d : Nat} {xs : List α} {p q : Operand} {ts : Array TypeId} (hx : Ev st p (.optr nm rt.n i 0)) (hq : Ev st q (.raw v)) (hn : lookH st.heap nm = some ⟨rt, xs⟩) (hz : xs[i]? = some z) (hd : Nat.blt d cx.n = true) :
    OS P cx ⟨some d, .call { callee := .value (.func kf), args := #[p, q], argTypes := ts }, ty, pos, aft, gd⟩ st ⟨(d, .raw (.tuple #[])) :: st.slots, (nm, ⟨rt, xs.set i y⟩) :: st.heap⟩ := by
  rintro a w ⟨β, hi⟩ Q
  have hrun : (execOp a.eval ⟨some d, .call { callee := .value (.func kf), args := #[p, q], argTypes := ts }, ty, pos, aft, gd⟩).run P w = .ok (.enter kf #[a.eval p, a.eval q]) w := by
    simp [execOp, resolve, Act.eval, Deferred.ofValue, invoke, h.ent]
  unfold Oper.wp
  rw [hrun, Oper.upon_enter]
  obtain ⟨b, o, h1, h2⟩ := hi.ev hx
  obtain ⟨cur, e, h3, h4, h5⟩ := own_row hi hn h1
  have hil : i < xs.length := (List.getElem?_eq_some_iff.1 hz).1
  have hle : o + i * rt.n + rt.n ≤ cur.size := by
    have : (i + 1) * rt.n ≤ xs.length * rt.n := Nat.mul_le_mul_right _ hil
    rw [Nat.succ_mul] at this; omega
  obtain ⟨cs, h6, h7⟩ := h5 i z hz
  have h6 := he.1 h6
  subst h6
  rw [h2, hi.raw hq]
  refine (h.calls w b (o + i * rt.n) cur e h3 hle (fun j hj => ?_)).mono ?_
  · have hl : j < (enc z).length := by rw [he.len]; exact hj
    rw [h7 j _ (List.getElem?_eq_getElem hl), List.getElem?_eq_getElem hl]
  · rintro e' w' ⟨rfl, cur', s1, s2, s3, rfl⟩
    refine ⟨_, (InvB.setRow (rt' := rt) (xs' := xs.set i y) (cur' := cur') hi hn h1 h3 s1 (.inl rfl) (by simp; omega) (fun j x hj => ?_)).put (by simpa using hd) rfl⟩
    refine ⟨enc x, he.2 rfl, fun u v hu => ?_⟩
    have hun : u < rt.n := by rw [← he.len x]; exact (List.getElem?_eq_some_iff.1 hu).1
    by_cases e1 : i = j
    · subst e1
      rw [List.getElem?_set_self hil] at hj
      injection hj with hj; subst hj
      rw [s2 u hun]; exact hu
    · rw [List.getElem?_set_ne e1] at hj
      obtain ⟨cs, g1, g2⟩ := h5 j x hj
      have g1 := he.1 g1
      subst g1
      rw [s3 _ ?_]
      · exact g2 u v hu
      · rcases Nat.lt_or_ge j i with q | q
        · have : (j + 1) * rt.n ≤ i * rt.n := Nat.mul_le_mul_right _ q
          rw [Nat.succ_mul] at this; omega
        · have : (i + 1) * rt.n ≤ j * rt.n := Nat.mul_le_mul_right _ (by omega)
          rw [Nat.succ_mul] at this; omega
end
end Go.Eng
