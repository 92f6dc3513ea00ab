import Derived.Test.YtfamnoalgjkjhaaP34d
namespace Go.Proofs.Ytfamnoalgjkjhaa
set_option linter.unusedSimpArgs false
set_option linter.unusedVariables false
/-! ### plain: blocks, each sorted -/
section
variable {α : Type} {le : α → α → Bool}
theorem flat_len {bs : Nat} : ∀ {cs : List (List α)}, (∀ c ∈ cs, c.length = bs) → cs.flatten.length = cs.length * bs
  | [], _ => by simp
  | c :: cs, h => by
    have := flat_len (cs := cs) (fun d hd => h d (by simp [hd]))
    rw [List.flatten_cons, List.length_append, this, h c (by simp), List.length_cons, Nat.add_mul]; omega
theorem flat_sorted_len (cs : List (List α)) : (cs.map (ssort le)).flatten.length = cs.flatten.length := by
  induction cs with
  | nil => rfl
  | cons c cs ih => simp only [List.map_cons, List.flatten_cons, List.length_append, ssort_len, ih]
def P1 (le : α → α → Bool) (bs : Nat) (xs ys : List α) (a : Nat) : Prop := ∃ (full : List (List α)) (rest : List α), xs = full.flatten ++ rest ∧ ys = (full.map (ssort le)).flatten ++ rest ∧ (∀ c ∈ full, c.length = bs) ∧ full.flatten.length = a
def P2 (le : α → α → Bool) (bs : Nat) (xs ys : List α) : Prop := ∃ (full : List (List α)) (last : List α), xs = full.flatten ++ last ∧ ys = (full.map (ssort le)).flatten ++ ssort le last ∧ (∀ c ∈ full, c.length = bs) ∧ last.length ≤ bs
def P3 (le : α → α → Bool) (bs : Nat) (xs ys : List α) (a : Nat) : Prop := ∃ (ds full : List (List α)) (last : List α), xs = ds.flatten ++ full.flatten ++ last ∧ ys = (ds.map (ssort le)).flatten ++ (full.map (ssort le)).flatten ++ ssort le last ∧ (∀ c ∈ ds, c.length = 2 * bs) ∧ (∀ c ∈ full, c.length = bs) ∧ last.length ≤ bs ∧ ds.flatten.length = a
theorem p1_start (xs : List α) (bs : Nat) : P1 le bs xs xs 0 := ⟨[], xs, by simp, by simp, by simp, by simp⟩
theorem p1_len {xs ys : List α} {bs a : Nat} (h : P1 le bs xs ys a) : ys.length = xs.length ∧ a ≤ xs.length := by
  obtain ⟨full, rest, rfl, rfl, h1, h2⟩ := h
  have l1 := flat_sorted_len (le := le) full
  refine ⟨by simp only [List.length_append]; omega, by simp only [List.length_append]; omega⟩
theorem p2_len {xs ys : List α} {bs : Nat} (h : P2 le bs xs ys) : ys.length = xs.length := by
  obtain ⟨full, rest, rfl, rfl, h1, h2⟩ := h
  simp only [List.length_append, flat_sorted_len, ssort_len]
theorem p3_len {xs ys : List α} {bs a : Nat} (h : P3 le bs xs ys a) : ys.length = xs.length ∧ a ≤ xs.length := by
  obtain ⟨ds, full, rest, rfl, rfl, h1, h2, h3, h4⟩ := h
  have l1 := flat_sorted_len (le := le) full
  have l2 := flat_sorted_len (le := le) ds
  refine ⟨by simp only [List.length_append, ssort_len]; omega, by simp only [List.length_append]; omega⟩
theorem p1_step {xs ys zs : List α} {bs a : Nat} (h : P1 le bs xs ys a) (hb : a + bs ≤ xs.length) (hi : InsO le ys a (a + bs) zs) : P1 le bs xs zs (a + bs) := by
  obtain ⟨full, rest, rfl, rfl, h1, h2⟩ := h
  have hr : rest = rest.take bs ++ rest.drop bs := (List.take_append_drop _ _).symm
  have hl : (rest.take bs).length = bs := by rw [List.length_append] at hb; rw [List.length_take]; omega
  generalize rest.take bs = c at *
  generalize rest.drop bs = r at *
  subst hr
  have l1 := flat_sorted_len (le := le) full
  refine ⟨full ++ [c], r, by simp, ?_, fun d hd => ?_, by rw [List.flatten_append, List.length_append, h2]; simp [hl]⟩
  · unfold InsO at hi
    rw [hi, seg_of (A := (full.map (ssort le)).flatten) (S := c) (B := r) (by simp) (by omega) (by omega), List.take_left' (by omega)]
    have : (full.map (ssort le)).flatten ++ (c ++ r) = ((full.map (ssort le)).flatten ++ c) ++ r := by simp
    rw [this, List.drop_left' (by simp only [List.length_append]; omega)]
    simp
  · rcases List.mem_append.1 hd with hd | hd
    · exact h1 d hd
    · rw [List.mem_singleton.1 hd]; exact hl
theorem p1_end {xs ys zs : List α} {bs a : Nat} (h : P1 le bs xs ys a) (hb : xs.length < a + bs) (hi : InsO le ys a xs.length zs) : P2 le bs xs zs := by
  obtain ⟨full, rest, rfl, rfl, h1, h2⟩ := h
  have l1 := flat_sorted_len (le := le) full
  refine ⟨full, rest, rfl, ?_, h1, by simp at hb; simp at h2; omega⟩
  unfold InsO at hi
  rw [hi, seg_of (A := (full.map (ssort le)).flatten) (S := rest) (B := []) (by simp) (by omega) (by simp only [List.length_append]; omega), List.take_left' (by omega), List.drop_of_length_le (by simp only [List.length_append]; omega)]
  simp
theorem flat_nil {bs : Nat} {full : List (List α)} (h : ∀ c ∈ full, c.length = bs) (hb : 0 < bs) (hl : full.flatten.length < bs) : full = [] := by
  cases full with
  | nil => rfl
  | cons c cs => have := h c (by simp); simp at hl; omega
theorem flat_one {bs : Nat} {full : List (List α)} (h : ∀ c ∈ full, c.length = bs) (hb : 0 < bs) (hl : full.flatten.length < 2 * bs) : full = [] ∨ ∃ c, full = [c] ∧ c.length = bs := by
  match full, h, hl with
  | [], _, _ => exact .inl rfl
  | [c], h, _ => exact .inr ⟨c, rfl, h c (by simp)⟩
  | c :: d :: r, h, hl => exfalso; have := h c (by simp); have := h d (by simp); simp at hl; omega
theorem p2_end {xs ys : List α} {bs : Nat} (h : P2 le bs xs ys) (hb : 0 < bs) (hn : xs.length ≤ bs) : ys = ssort le xs := by
  obtain ⟨full, last, rfl, rfl, h1, h2⟩ := h
  rcases flat_one h1 hb (by simp at hn ⊢; omega) with rfl | ⟨c, rfl, hc⟩
  · simp
  · have : last = [] := List.length_eq_zero_iff.1 (by simp at hn; omega)
    subst this; simp [ssort_nil]
theorem p3_start {xs ys : List α} {bs : Nat} (h : P2 le bs xs ys) : P3 le bs xs ys 0 := by
  obtain ⟨full, last, h1, h2, h3, h4⟩ := h
  exact ⟨[], full, last, by simpa using h1, by simpa using h2, by simp, h3, h4, by simp⟩
theorem p3_next (tr : ∀ a b c, le a b = true → le b c = true → le a c = true) (to : ∀ a b, (le a b || le b a) = true) {xs ys : List α} {bs a : Nat} (h : P3 le bs xs ys a) (hb : 0 < bs) (hn : a + 2 * bs ≤ xs.length) :
    Sorted le (seg ys a (a + bs)) ∧ Sorted le (seg ys (a + bs) (a + 2 * bs)) ∧ ∀ zs, Sym le ys a (a + bs) (a + 2 * bs) zs → P3 le bs xs zs (a + 2 * bs) := by
  obtain ⟨ds, full, last, rfl, rfl, h1, h2, h3, h4⟩ := h
  have l1 := flat_sorted_len (le := le) ds
  obtain ⟨c1, c2, f2, l2, e1, e2, e3, e4, e5, e6⟩ : ∃ (c1 c2 : List α) (f2 : List (List α)) (l2 : List α), full.flatten ++ last = c1 ++ c2 ++ (f2.flatten ++ l2) ∧ (full.map (ssort le)).flatten ++ ssort le last = ssort le c1 ++ ssort le c2 ++ ((f2.map (ssort le)).flatten ++ ssort le l2) ∧ c1.length = bs ∧ c2.length = bs ∧ (∀ c ∈ f2, c.length = bs) ∧ l2.length ≤ bs := by
    match full, h2 with
    | [], _ => exfalso; simp at hn h4; omega
    | [c1], h2 =>
      have := h2 c1 (by simp)
      exact ⟨c1, last, [], [], by simp, by simp [ssort_nil], this, by simp at hn h4; omega, by simp, by simp⟩
    | c1 :: c2 :: f2, h2 => exact ⟨c1, c2, f2, last, by simp, by simp, h2 c1 (by simp), h2 c2 (by simp), fun c hc => h2 c (by simp [hc]), h3⟩
  have g1 : (ds.map (ssort le)).flatten ++ (full.map (ssort le)).flatten ++ ssort le last = (ds.map (ssort le)).flatten ++ ssort le c1 ++ ssort le c2 ++ ((f2.map (ssort le)).flatten ++ ssort le l2) := by rw [List.append_assoc, e2]; simp
  have g2 : ds.flatten ++ full.flatten ++ last = ds.flatten ++ c1 ++ c2 ++ (f2.flatten ++ l2) := by rw [List.append_assoc, e1]; simp
  rw [g1, g2]
  have k1 : (ssort le c1).length = bs := by rw [ssort_len, e3]
  have k2 : (ssort le c2).length = bs := by rw [ssort_len, e4]
  generalize hA : (ds.map (ssort le)).flatten = A at *
  generalize hR : (f2.map (ssort le)).flatten ++ ssort le l2 = R at *
  have s1 : seg (A ++ ssort le c1 ++ ssort le c2 ++ R) a (a + bs) = ssort le c1 := seg_of (A := A) (B := ssort le c2 ++ R) (by simp) (by omega) (by omega)
  have s2 : seg (A ++ ssort le c1 ++ ssort le c2 ++ R) (a + bs) (a + 2 * bs) = ssort le c2 := seg_of (A := A ++ ssort le c1) (B := R) (by simp) (by simp only [List.length_append]; omega) (by simp only [List.length_append]; omega)
  refine ⟨by rw [s1]; exact ssort_sorted tr to _, by rw [s2]; exact ssort_sorted tr to _, fun zs hz => ?_⟩
  unfold Sym at hz
  rw [s1, s2, ← ssort_app tr to] at hz
  have t1 : (A ++ ssort le c1 ++ ssort le c2 ++ R).take a = A := by
    simp only [List.append_assoc]; exact List.take_left' (by omega)
  have t2 : (A ++ ssort le c1 ++ ssort le c2 ++ R).drop (a + 2 * bs) = R := List.drop_left' (by simp only [List.length_append]; omega)
  rw [t1, t2] at hz
  refine ⟨ds ++ [c1 ++ c2], f2, l2, by simp, ?_, fun c hc => ?_, e5, e6, by simp only [List.flatten_append, List.length_append, h4]; simp; omega⟩
  · rw [hz, ← hR, ← hA]; simp
  · rcases List.mem_append.1 hc with hc | hc
    · exact h1 c hc
    · rw [List.mem_singleton.1 hc, List.length_append]; omega
theorem p3_more (tr : ∀ a b c, le a b = true → le b c = true → le a c = true) (to : ∀ a b, (le a b || le b a) = true) {xs ys : List α} {bs a : Nat} (h : P3 le bs xs ys a) (hb : 0 < bs) (hn : xs.length < a + 2 * bs) (hm : a + bs < xs.length) :
    Sorted le (seg ys a (a + bs)) ∧ Sorted le (seg ys (a + bs) xs.length) ∧ ∀ zs, Sym le ys a (a + bs) xs.length zs → P2 le (2 * bs) xs zs := by
  obtain ⟨ds, full, last, rfl, rfl, h1, h2, h3, h4⟩ := h
  have l1 := flat_sorted_len (le := le) ds
  rcases flat_one h2 hb (by simp at hn h4 ⊢; omega) with rfl | ⟨c1, rfl, e3⟩
  · exfalso; simp at hm h4; omega
  have k1 : (ssort le c1).length = bs := by rw [ssort_len, e3]
  have k2 : (ssort le last).length = last.length := by rw [ssort_len]
  have hlen : (ds.flatten ++ [c1].flatten ++ last).length = a + bs + last.length := by simp only [List.length_append, h4]; simp [e3]
  rw [hlen] at hn hm ⊢
  simp only [List.map_cons, List.map_nil, List.flatten_cons, List.flatten_nil, List.append_nil] at *
  generalize hA : (ds.map (ssort le)).flatten = A at *
  have s1 : seg (A ++ ssort le c1 ++ ssort le last) a (a + bs) = ssort le c1 := seg_of (A := A) (B := ssort le last) (by simp) (by omega) (by omega)
  have s2 : seg (A ++ ssort le c1 ++ ssort le last) (a + bs) (a + bs + last.length) = ssort le last := seg_of (A := A ++ ssort le c1) (B := []) (by simp) (by simp only [List.length_append]; omega) (by simp only [List.length_append]; omega)
  refine ⟨by rw [s1]; exact ssort_sorted tr to _, by rw [s2]; exact ssort_sorted tr to _, fun zs hz => ?_⟩
  unfold Sym at hz
  rw [s1, s2, ← ssort_app tr to] at hz
  have t1 : (A ++ ssort le c1 ++ ssort le last).take a = A := by
    simp only [List.append_assoc]; exact List.take_left' (by omega)
  rw [t1, List.drop_of_length_le (by simp only [List.length_append]; omega), List.append_nil] at hz
  exact ⟨ds, c1 ++ last, by simp, by rw [hz, hA], h1, by simp only [List.length_append]; omega⟩
theorem p3_end {xs ys : List α} {bs a : Nat} (h : P3 le bs xs ys a) (hb : 0 < bs) (hm : xs.length ≤ a + bs) : P2 le (2 * bs) xs ys := by
  obtain ⟨ds, full, last, rfl, rfl, h1, h2, h3, h4⟩ := h
  rcases flat_one h2 hb (by simp at hm h4 ⊢; omega) with rfl | ⟨c1, rfl, e3⟩
  · exact ⟨ds, last, by simp, by simp, h1, by omega⟩
  · have : last = [] := List.length_eq_zero_iff.1 (by simp at hm h4; omega)
    subst this
    exact ⟨ds, c1, by simp, by simp [ssort_nil], h1, by omega⟩
end
end Go.Proofs.Ytfamnoalgjkjhaa
