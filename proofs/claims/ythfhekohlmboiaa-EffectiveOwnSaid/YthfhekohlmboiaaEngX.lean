import Derived.Test.YthfhekohlmboiaaEng12
import GoSem.ClaimJoined
namespace Go.Eng
set_option linter.unusedSimpArgs false
set_option linter.unusedVariables false
open Go.WideShapes Go.RowKit

/-! ### arguments opened, with the reach that the form itself speaks of: what a slice takes, in bytes -/
def OpensW {α : Type} (P : Program) (t : TypeId) (rt : RT α) (φ : α → Prop) : Prop :=
  ∀ {H : Type} {enc : TypeId × Value → H} {w : World} {base : Nat} {spare : Nat → Bool} {held : Bool} {fuel : Nat} {cs : List Value} {x : DataW H × List MemPlace},
    DataW.trod enc P w base spare held fuel t cs = some x → (∀ m ∈ DataW.weights P t x.1, m ≤ reachBytes) → ∃ d, rt.rep w (Old w) cs d ∧ φ d
theorem Opens.toW {α : Type} {P : Program} {t : TypeId} {rt : RT α} {φ : α → Prop} (h : Opens P t rt φ) : OpensW P t rt φ := fun hx _ => h hx
theorem weightsAll_mem {H : Type} {P : Program} {e : TypeId} : ∀ {l : List (DataW H)} {y : DataW H} {m : Nat}, y ∈ l → m ∈ DataW.weights P e y → m ∈ DataW.weightsAll P e l
  | z :: l, y, m, hy, hm => by
    rw [DataW.weightsAll, List.mem_append]
    rcases List.mem_cons.1 hy with q | q
    · subst q; exact .inl hm
    · exact .inr (weightsAll_mem q hm)
theorem exists_listW {α : Type} {P : Nat → α → Prop} : ∀ {n : Nat}, (∀ i, i < n → ∃ d, P i d) → ∃ xs : List α, xs.length = n ∧ ∀ i x, xs[i]? = some x → P i x
  | 0, _ => ⟨[], rfl, fun i x h => by simp at h⟩
  | n + 1, h => by
    obtain ⟨xs, h1, h2⟩ := exists_listW (n := n) (fun i hi => h i (by omega))
    obtain ⟨d, hd⟩ := h n (by omega)
    refine ⟨xs ++ [d], by simp [h1], fun i x hx => ?_⟩
    rcases Nat.lt_or_ge i n with q | q
    · rw [List.getElem?_append_left (by omega)] at hx; exact h2 i x hx
    · rw [List.getElem?_append_right (by omega)] at hx
      have hi : i = n := by
        rcases Nat.lt_or_ge n i with q2 | q2
        · rw [List.getElem?_eq_none (by simp; omega)] at hx; cases hx
        · omega
      subst hi
      rw [h1, Nat.sub_self] at hx
      simp at hx; subst hx; exact hd
theorem opensW_slice {α : Type} {P : Program} {t e : TypeId} {rt : RT α} {φ : α → Prop} {b : Nat} (ht : P.underlying t = some (.slice e)) (hc : P.cellsOf e = rt.n) (hn : Nat.ble 1 rt.n = true) (hb : P.bytesOf e = b) (h : OpensW P e rt φ) :
    OpensW P t (rSlice rt) (fun xs => xs.length * b ≤ reachBytes ∧ ∀ x ∈ xs, φ x) := fun {H enc w base spare held fuel cs x} hx hw => by
  have hn : 0 < rt.n := Nat.le_of_ble_eq_true hn
  rcases DataW.trod_slice ht hx with ⟨rfl, _⟩ | ⟨a, len, cap, elems, rest, n, _, rfl, hx2, hb2, hl, hm, hlen, hel, _⟩
  · exact ⟨[], ⟨none, 0, rfl, Nat.le_refl _, by simp [maxLen], fun hne => absurd rfl hne⟩, by simp, by simp⟩
  · subst hx2
    have hw2 : (elems.length + rest.length) * b ≤ reachBytes ∧ ∀ y ∈ elems, ∀ m ∈ DataW.weights P e y.1, m ≤ reachBytes := by
      simp only [DataW.weights, ht] at hw
      refine ⟨by have := hw ((elems.length + rest.length) * b) (by simp [hb]); exact this, fun y hy m hm => hw m ?_⟩
      simp only [List.mem_cons, List.mem_append]
      exact .inr (.inl (weightsAll_mem (List.mem_map_of_mem hy) hm))
    have each : ∀ i, i < len → ∃ d, (∃ cs', w.cells? base (a.add (i * rt.n)) rt.n = some cs' ∧ rt.rep w (Old w) cs' d) ∧ φ d := by
      intro i hi
      have h1 := hel i hi
      rw [hc] at h1
      cases h2 : w.cells? base (a.add (i * rt.n)) rt.n with
      | none => rw [h2] at h1; have : i < elems.length := by omega
                rw [List.getElem?_eq_getElem this] at h1; cases h1
      | some cs' =>
        rw [h2, Option.bind_some, List.getElem?_eq_getElem (show i < elems.length by omega)] at h1
        obtain ⟨d, h3, h4⟩ := h h1 (hw2.2 _ (List.getElem_mem _))
        exact ⟨d, ⟨cs', rfl, h3⟩, h4⟩
    obtain ⟨xs, h1, h2⟩ := exists_listW each
    refine ⟨xs, ⟨some a, cap, by rw [h1], by omega, hm, fun hne => ?_⟩, by rw [h1, ← hlen]; exact Nat.le_trans (Nat.mul_le_mul_right _ (by omega)) hw2.1, fun x hx => ?_⟩
    · have hpos : 0 < len := by rw [← h1]; exact List.length_pos_iff.2 hne
      have hsp : a.spot = none ∧ a.block < w.heap.size := by
        obtain ⟨d, ⟨cs', h3, _⟩, _⟩ := each 0 hpos
        obtain ⟨_, h5, h6⟩ := World.cells?_some h3
        have h7 := h6 0 hn
        rw [List.getElem?_eq_getElem (by omega)] at h7
        have h8 := World.cell?_spot h7
        refine ⟨by simpa [Addr.add] using h8, ?_⟩
        have := World.cells?_block h3 hn
        simpa [Addr.add] using this
      obtain ⟨bb, o, sp⟩ := a
      obtain ⟨hs1, hs2⟩ := hsp
      simp only at hs1 hs2
      subst hs1
      refine ⟨bb, o, rfl, hs2, fun i x hx => ?_⟩
      obtain ⟨⟨cs', h3, h4⟩, _⟩ := h2 i x hx
      refine ⟨cs', h4, fun j v hj => ?_⟩
      obtain ⟨_, h5, h6⟩ := World.cells?_some h3
      have hjl : j < rt.n := by rw [← h5]; exact (List.getElem?_eq_some_iff.1 hj).1
      have := h6 j hjl
      rw [hj] at this
      rw [← this]
      congr 1
      simp only [Addr.add]
      split <;> split <;> simp_all
    · obtain ⟨i, hi⟩ := List.getElem?_of_mem hx
      exact (h2 i x hi).2
def OpensFW {α : Type} (P : Program) (fs : List Field) (off : Nat) (rt : RT α) (φ : α → Prop) : Prop :=
  ∀ {H : Type} {enc : TypeId × Value → H} {w : World} {base : Nat} {spare : Nat → Bool} {held : Bool} {fuel : Nat} {cs : List Value} {xs : List (DataW H × List MemPlace)},
    xs.length = fs.length → (∀ (i : Nat) (f : Field), fs[i]? = some f → DataW.trod enc P w base spare held fuel f.type ((cs.drop f.offset).take (P.cellsOf f.type)) = xs[i]?) →
    (∀ m ∈ DataW.weightsEach P (fs.map (·.type)) (xs.map (·.1)), m ≤ reachBytes) → ∃ d, rt.rep w (Old w) ((cs.drop off).take rt.n) d ∧ φ d
theorem opensFW_last {α : Type} {P : Program} {f : Field} {off : Nat} {rt : RT α} {φ : α → Prop} (ho : f.offset = off) (hc : P.cellsOf f.type = rt.n) (h : OpensW P f.type rt φ) : OpensFW P [f] off rt φ := fun {H enc w base spare held fuel cs xs} hl hx hw => by
  match xs, hl with
  | [y], _ =>
    have := hx 0 f rfl
    rw [ho, hc] at this
    exact h this (fun m hm => hw m (by simp only [List.map_cons, DataW.weightsEach, List.mem_append]; exact .inl hm))
theorem opensFW_cons {α γ : Type} {P : Program} {f : Field} {fs : List Field} {off off' : Nat} {a : RT α} {b : RT γ} {φ : α → Prop} {ψ : γ → Prop} (ho : f.offset = off) (hc : P.cellsOf f.type = a.n) (h : OpensW P f.type a φ) (hr : OpensFW P fs off' b ψ) (he : off' = off + a.n) : OpensFW P (f :: fs) off (rPair a b) (fun d => φ d.1 ∧ ψ d.2) := fun {H enc w base spare held fuel cs xs} hl hx hw => by
  match xs, hl with
  | y :: ys, hl =>
    have h0 := hx 0 f rfl
    rw [ho, hc] at h0
    simp only [List.map_cons, DataW.weightsEach, List.mem_append] at hw
    obtain ⟨d1, h1, h2⟩ := h h0 (fun m hm => hw m (.inl hm))
    obtain ⟨d2, h3, h4⟩ := hr (xs := ys) (cs := cs) (by simpa using hl) (fun i f' hf => by simpa using hx (i + 1) f' (by simpa using hf)) (fun m hm => hw m (.inr hm))
    refine ⟨(d1, d2), ⟨_, _, ?_, h1, h3⟩, h2, h4⟩
    subst he
    show (cs.drop off).take (a.n + b.n) = _
    rw [List.take_add, List.drop_drop]
theorem opensW_struct {α : Type} {P : Program} {t : TypeId} {fs : List Field} {rt : RT α} {φ : α → Prop} (ht : P.underlying t = some (.struct fs.toArray)) (hc : P.cellsOf t = rt.n) (h : OpensFW P fs 0 rt φ) : OpensW P t rt φ := fun hx hw => by
  obtain ⟨xs, n, _, hx2, hl, hlen, hf⟩ := DataW.trod_struct ht hx
  subst hx2
  simp only [DataW.weights, ht] at hw
  obtain ⟨d, h1, h2⟩ := h (xs := xs) (by simpa using hlen) (fun i f hf' => hf i f (by simpa using hf')) (by simpa using hw)
  refine ⟨d, ?_, h2⟩
  rw [List.drop_zero, List.take_of_length_le (by omega)] at h1
  exact h1
theorem OpensW.arg {α : Type} {P : Program} {t : TypeId} {rt : RT α} {φ : α → Prop} (h : OpensW P t rt φ) {H : Type} {enc : TypeId × Value → H} {w : World} {base : Nat} {spare : Nat → Bool} {held : Bool} {v : Value} {d : DataW H} {ps : List MemPlace}
    (hv : v = (if rt.agg then .agg v.cells else v.cells.toList.getD 0 undef)) (hd : DataW.Trod enc P w base spare held t v d ps) (hw : ∀ m ∈ DataW.weights P t d, m ≤ reachBytes) : ∃ x, rt.val w (Old w) v x ∧ φ x := by
  obtain ⟨fuel, hf⟩ := hd
  obtain ⟨x, h1, h2⟩ := h hf hw
  exact ⟨x, ⟨_, h1, by simpa using hv⟩, h2⟩
end Go.Eng
