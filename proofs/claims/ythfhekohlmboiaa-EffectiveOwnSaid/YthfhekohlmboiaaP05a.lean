import Derived.Test.YthfhekohlmboiaaFacts
namespace Go.Proofs.Ythfhekohlmboiaa
open Go.Eng
set_option maxRecDepth 100000
set_option maxHeartbeats 1000000
set_option linter.unusedVariables false
set_option linter.unusedSimpArgs false
/-! ranges of dates, plain -/
abbrev Rg := Int × Int
def validR (r : Rg) : Bool := decide (0 ≤ r.1) && decide (r.1 ≤ r.2) && decide (r.2 ≤ 109573)
def hasD (r : Rg) : Bool := validR r && decide (r.1 < r.2)
def contR (r : Rg) (d : Int) : Bool := validR r && decide (r.1 ≤ d) && decide (d < r.2)
theorem validR_iff {r : Rg} : validR r = true ↔ 0 ≤ r.1 ∧ r.1 ≤ r.2 ∧ r.2 ≤ 109573 := by simp [validR, and_assoc]
theorem hasD_iff {r : Rg} : hasD r = true ↔ 0 ≤ r.1 ∧ r.1 < r.2 ∧ r.2 ≤ 109573 := by simp [hasD, validR]; omega
theorem contR_iff {r : Rg} {d : Int} : contR r d = true ↔ 0 ≤ r.1 ∧ r.2 ≤ 109573 ∧ r.1 ≤ d ∧ d < r.2 := by simp [contR, validR]; omega
/-- the dates of a list -/
def Cov (l : List Rg) (d : Int) : Prop := ∃ r ∈ l, r.1 ≤ d ∧ d < r.2
/-- normal form -/
def Norm : List Rg → Prop
  | [] => True
  | x :: r => hasD x = true ∧ (∀ y ∈ r, x.2 < y.1) ∧ Norm r
theorem norm_mem : ∀ {l : List Rg}, Norm l → ∀ r ∈ l, hasD r = true
  | x :: l, h, r, hr => by
    rcases List.mem_cons.1 hr with e | e
    · subst e; exact h.1
    · exact norm_mem h.2.2 r e
theorem norm_append : ∀ {a b : List Rg}, Norm a → Norm b → (∀ x ∈ a, ∀ y ∈ b, x.2 < y.1) → Norm (a ++ b)
  | [], _, _, hb, _ => hb
  | x :: a, b, ha, hb, h => ⟨ha.1, fun y hy => by
      rcases List.mem_append.1 hy with e | e
      · exact ha.2.1 y e
      · exact h x (by simp) y e, norm_append ha.2.2 hb (fun z hz => h z (by simp [hz]))⟩
theorem norm_left : ∀ {a b : List Rg}, Norm (a ++ b) → Norm a
  | [], _, _ => trivial
  | x :: a, b, h => ⟨h.1, fun y hy => h.2.1 y (by simp [hy]), norm_left h.2.2⟩
theorem norm_sep : ∀ {a b : List Rg}, Norm (a ++ b) → ∀ x ∈ a, ∀ y ∈ b, x.2 < y.1
  | z :: a, b, h, x, hx, y, hy => by
    rcases List.mem_cons.1 hx with e | e
    · subst e; exact h.2.1 y (by simp [hy])
    · exact norm_sep h.2.2 x e y hy
theorem norm_uniq : ∀ {a b : List Rg}, Norm a → Norm b → (∀ d, Cov a d ↔ Cov b d) → a = b
  | [], [], _, _, _ => rfl
  | [], y :: b, _, hb, h => by
    have := hasD_iff.1 hb.1
    obtain ⟨r, hr, _⟩ := (h y.1).2 ⟨y, by simp, by omega, by omega⟩
    simp at hr
  | x :: a, [], ha, _, h => by
    have := hasD_iff.1 ha.1
    obtain ⟨r, hr, _⟩ := (h x.1).1 ⟨x, by simp, by omega, by omega⟩
    simp at hr
  | x :: a, y :: b, ha, hb, h => by
    have hx := hasD_iff.1 ha.1
    have hy := hasD_iff.1 hb.1
    have hal : ∀ r ∈ a, x.2 < r.1 ∧ r.1 < r.2 := fun r hr => ⟨ha.2.1 r hr, (hasD_iff.1 (norm_mem ha.2.2 r hr)).2.1⟩
    have hbl : ∀ r ∈ b, y.2 < r.1 ∧ r.1 < r.2 := fun r hr => ⟨hb.2.1 r hr, (hasD_iff.1 (norm_mem hb.2.2 r hr)).2.1⟩
    have h1 : x.1 = y.1 := by
      obtain ⟨r, hr, r1, r2⟩ := (h x.1).1 ⟨x, by simp, by omega, by omega⟩
      obtain ⟨q, hq, q1, q2⟩ := (h y.1).2 ⟨y, by simp, by omega, by omega⟩
      have a1 : y.1 ≤ x.1 := by
        rcases List.mem_cons.1 hr with e | e
        · subst e; exact r1
        · have := hbl r e; omega
      have a2 : x.1 ≤ y.1 := by
        rcases List.mem_cons.1 hq with e | e
        · subst e; exact q1
        · have := hal q e; omega
      omega
    have h2 : x.2 = y.2 := by
      rcases Int.lt_trichotomy x.2 y.2 with q | q | q
      · obtain ⟨r, hr, r1, r2⟩ := (h x.2).2 ⟨y, by simp, by omega, q⟩
        rcases List.mem_cons.1 hr with e | e
        · subst e; omega
        · have := hal r e; omega
      · exact q
      · obtain ⟨r, hr, r1, r2⟩ := (h y.2).1 ⟨x, by simp, by omega, q⟩
        rcases List.mem_cons.1 hr with e | e
        · subst e; omega
        · have := hbl r e; omega
    have hxy : x = y := Prod.ext h1 h2
    subst hxy
    rw [norm_uniq ha.2.2 hb.2.2 fun d => ⟨fun ⟨r, hr, r1, r2⟩ => ?_, fun ⟨r, hr, r1, r2⟩ => ?_⟩]
    · obtain ⟨q, hq, q1, q2⟩ := (h d).1 ⟨r, by simp [hr], r1, r2⟩
      rcases List.mem_cons.1 hq with e | e
      · subst e; have := hal r hr; omega
      · exact ⟨q, e, q1, q2⟩
    · obtain ⟨q, hq, q1, q2⟩ := (h d).2 ⟨r, by simp [hr], r1, r2⟩
      rcases List.mem_cons.1 hq with e | e
      · subst e; have := hbl r hr; omega
      · exact ⟨q, e, q1, q2⟩
/-- the intersection -/
def interR (a b : Rg) : Rg × Bool :=
  if hasD a = false ∨ hasD b = false then ((0, 0), false) else if (if b.2 < a.2 then b.2 else a.2) ≤ (if a.1 < b.1 then b.1 else a.1) then ((0, 0), false)
  else ((if a.1 < b.1 then b.1 else a.1, if b.2 < a.2 then b.2 else a.2), true)
theorem inter_t {a b : Rg} (h : (interR a b).2 = true) : hasD a = true ∧ hasD b = true ∧ hasD (interR a b).1 = true ∧ ∀ d, ((interR a b).1.1 ≤ d ∧ d < (interR a b).1.2) ↔ ((a.1 ≤ d ∧ d < a.2) ∧ (b.1 ≤ d ∧ d < b.2)) := by
  unfold interR at h ⊢
  by_cases h1 : hasD a = false ∨ hasD b = false
  · rw [if_pos h1] at h; simp at h
  · rw [if_neg h1] at h ⊢
    by_cases h2 : (if b.2 < a.2 then b.2 else a.2) ≤ (if a.1 < b.1 then b.1 else a.1)
    · rw [if_pos h2] at h; simp at h
    · rw [if_neg h2]
      simp only [not_or, Bool.not_eq_false] at h1
      have ha := hasD_iff.1 h1.1; have hb := hasD_iff.1 h1.2
      refine ⟨h1.1, h1.2, hasD_iff.2 ?_, fun d => ?_⟩
      · simp only; split at h2 <;> split at h2 <;> simp_all <;> omega
      · simp only; split <;> split <;> omega
theorem inter_f {a b : Rg} (ha : hasD a = true) (hb : hasD b = true) (h : (interR a b).2 = false) : a.2 ≤ b.1 ∨ b.2 ≤ a.1 := by
  unfold interR at h
  rw [if_neg (by simp [ha, hb])] at h
  have ha := hasD_iff.1 ha; have hb := hasD_iff.1 hb
  by_cases h2 : (if b.2 < a.2 then b.2 else a.2) ≤ (if a.1 < b.1 then b.1 else a.1)
  · split at h2 <;> split at h2 <;> omega
  · rw [if_neg h2] at h; simp at h
/-- the program's union: of ranges in order of their beginnings -/
def addU (out : List Rg) (r : Rg) : List Rg := match out.getLast? with
  | some p => if r.1 ≤ p.2 then out.dropLast ++ [(p.1, if p.2 < r.2 then r.2 else p.2)] else out ++ [r]
  | none => [r]
theorem addU_ok {out : List Rg} {r : Rg} (hn : Norm out) (hr : hasD r = true) (hs : ∀ x ∈ out, x.1 ≤ r.1) : Norm (addU out r) ∧ (∀ d, Cov (addU out r) d ↔ Cov out d ∨ (r.1 ≤ d ∧ d < r.2)) ∧ ∀ x ∈ addU out r, x.1 ≤ r.1 := by
  have hr' := hasD_iff.1 hr
  unfold addU
  rcases List.eq_nil_or_concat out with rfl | ⟨l, p, rfl⟩
  · simp only [List.getLast?_nil]
    refine ⟨⟨hr, by simp, trivial⟩, fun d => ?_, by simp⟩
    simp [Cov]
  · rw [List.concat_eq_append] at *
    simp only [List.getLast?_append, List.getLast?_singleton, Option.some_or, List.dropLast_concat]
    have hl := norm_left hn
    have hsep := fun x hx => norm_sep hn x hx p (by simp)
    have hp : hasD p = true := norm_mem hn p (by simp)
    have hp' := hasD_iff.1 hp
    have hpr := hs p (by simp)
    by_cases c : r.1 ≤ p.2
    · rw [if_pos c]
      refine ⟨norm_append hl ⟨hasD_iff.2 ?_, by simp, trivial⟩ (fun x hx y hy => ?_), fun d => ?_, fun x hx => ?_⟩
      · simp only; split <;> omega
      · obtain rfl := List.mem_singleton.1 hy; exact hsep x hx
      · simp only [Cov, List.mem_append, List.mem_singleton]
        constructor
        · rintro ⟨x, hx | rfl, h1, h2⟩
          · exact .inl ⟨x, .inl hx, h1, h2⟩
          · simp only at h1 h2
            by_cases q : d < p.2
            · exact .inl ⟨p, .inr rfl, h1, q⟩
            · right; split at h2 <;> omega
        · rintro (⟨x, hx | rfl, h1, h2⟩ | ⟨h1, h2⟩)
          · exact ⟨x, .inl hx, h1, h2⟩
          · exact ⟨_, .inr rfl, h1, by simp only; split <;> omega⟩
          · exact ⟨_, .inr rfl, by simp only; omega, by simp only; split <;> omega⟩
      · rcases List.mem_append.1 hx with e | e
        · exact hs x (by simp [e])
        · obtain rfl := List.mem_singleton.1 e; exact hpr
    · rw [if_neg c]
      refine ⟨norm_append hn ⟨hr, by simp, trivial⟩ (fun x hx y hy => ?_), fun d => ?_, fun x hx => ?_⟩
      · obtain rfl := List.mem_singleton.1 hy
        rcases List.mem_append.1 hx with e | e
        · have := hsep x e; omega
        · obtain rfl := List.mem_singleton.1 e; omega
      · simp only [Cov, List.mem_append, List.mem_singleton]
        constructor
        · rintro ⟨x, (hx | rfl) | rfl, h1, h2⟩
          · exact .inl ⟨x, .inl hx, h1, h2⟩
          · exact .inl ⟨_, .inr rfl, h1, h2⟩
          · exact .inr ⟨h1, h2⟩
        · rintro (⟨x, hx | rfl, h1, h2⟩ | ⟨h1, h2⟩)
          · exact ⟨x, .inl (.inl hx), h1, h2⟩
          · exact ⟨_, .inl (.inr rfl), h1, h2⟩
          · exact ⟨r, .inr rfl, h1, h2⟩
      · rcases List.mem_append.1 hx with e | e
        · exact hs x e
        · obtain rfl := List.mem_singleton.1 e; exact Int.le_refl _
end Go.Proofs.Ythfhekohlmboiaa
