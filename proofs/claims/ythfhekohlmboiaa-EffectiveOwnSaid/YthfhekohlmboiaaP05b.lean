import Derived.Test.YthfhekohlmboiaaP05a
namespace Go.Proofs.Ythfhekohlmboiaa
open Go.Eng
set_option maxRecDepth 100000
set_option maxHeartbeats 1000000
set_option linter.unusedVariables false
set_option linter.unusedSimpArgs false
theorem norm_sub : ∀ {a b : List Rg}, List.Sublist a b → Norm b → Norm a
  | _, _, .slnil, h => h
  | _, _, .cons x s, h => norm_sub s h.2.2
  | _, _, .cons_cons x s, h => ⟨h.1, fun y hy => h.2.1 y (s.subset hy), norm_sub s h.2.2⟩
/-- the reference's union -/
def put1 : List Rg → Rg → List Rg × Rg
  | [], r => ([], r)
  | x :: l, r => if x.2 < r.1 then (x :: (put1 l r).1, (put1 l r).2)
    else if x.1 ≤ r.2 then put1 l (if x.1 < r.1 then x.1 else r.1, if r.2 < x.2 then x.2 else r.2) else put1 l r
def putS (l : List Rg) (r : Rg) : List Rg := (put1 l r).1 ++ [(put1 l r).2] ++ l.filter (fun x => decide ((put1 l r).2.2 < x.1))
theorem put1_ok : ∀ (l : List Rg) (r : Rg), Norm l → hasD r = true →
    (put1 l r).2.1 ≤ r.1 ∧ r.2 ≤ (put1 l r).2.2 ∧ hasD (put1 l r).2 = true ∧ List.Sublist (put1 l r).1 l ∧ (∀ x ∈ (put1 l r).1, x.2 < (put1 l r).2.1) ∧
    (∀ x ∈ l, x ∈ (put1 l r).1 ∨ ((put1 l r).2.1 ≤ x.1 ∧ x.2 ≤ (put1 l r).2.2) ∨ (put1 l r).2.2 < x.1) ∧ (∀ d, (put1 l r).2.1 ≤ d ∧ d < (put1 l r).2.2 → (r.1 ≤ d ∧ d < r.2) ∨ Cov l d) ∧
    (∀ m : Int, m < r.1 → (∀ x ∈ l, m < x.1) → m < (put1 l r).2.1) ∧ ((∀ x ∈ l, r.2 < x.1) → (put1 l r).2.2 = r.2)
  | [], r, _, hr => ⟨Int.le_refl _, Int.le_refl _, hr, .slnil, by simp [put1], by simp, fun d h => .inl h, fun m h _ => h, fun _ => rfl⟩
  | x :: l, r, hn, hr => by
    have hx := hasD_iff.1 hn.1
    have hr' := hasD_iff.1 hr
    unfold put1
    by_cases c1 : x.2 < r.1
    · rw [if_pos c1]
      obtain ⟨h1, h2, h3, h4, h5, h6, h7, h8, h9⟩ := put1_ok l r hn.2.2 hr
      refine ⟨h1, h2, h3, h4.cons_cons x, fun y hy => ?_, fun y hy => ?_, fun d hd => ?_, fun m hm hl => h8 m hm (fun y hy => hl y (by simp [hy])), fun hl => h9 (fun y hy => hl y (by simp [hy]))⟩
      · rcases List.mem_cons.1 hy with e | e
        · subst e; exact h8 _ c1 hn.2.1
        · exact h5 y e
      · rcases List.mem_cons.1 hy with e | e
        · subst e; exact .inl (by simp)
        · rcases h6 y e with q | q
          · exact .inl (by simp [q])
          · exact .inr q
      · rcases h7 d hd with q | ⟨y, hy, q⟩
        · exact .inl q
        · exact .inr ⟨y, by simp [hy], q⟩
    · rw [if_neg c1]
      by_cases c2 : x.1 ≤ r.2
      · rw [if_pos c2]
        generalize hr2 : ((if x.1 < r.1 then x.1 else r.1, if r.2 < x.2 then x.2 else r.2) : Rg) = r2
        have e1 : r2.1 ≤ r.1 ∧ r2.1 ≤ x.1 ∧ r.2 ≤ r2.2 ∧ x.2 ≤ r2.2 := by subst hr2; simp only; split <;> split <;> omega
        have e2 : ∀ d, r2.1 ≤ d ∧ d < r2.2 → (r.1 ≤ d ∧ d < r.2) ∨ (x.1 ≤ d ∧ d < x.2) := by intro d; subst hr2; simp only; split <;> split <;> omega
        have e3 : hasD r2 = true := by subst hr2; rw [hasD_iff]; simp only; split <;> split <;> omega
        have e4 : ∀ m : Int, m < r.1 → m < x.1 → m < r2.1 := by intro m; subst hr2; simp only; split <;> omega
        obtain ⟨h1, h2, h3, h4, h5, h6, h7, h8, h9⟩ := put1_ok l r2 hn.2.2 e3
        refine ⟨by omega, by omega, h3, h4.cons x, h5, fun y hy => ?_, fun d hd => ?_, fun m hm hl => h8 m (e4 m hm (hl x (by simp))) (fun y hy => hl y (by simp [hy])), fun hl => ?_⟩
        · rcases List.mem_cons.1 hy with e | e
          · subst e; exact .inr (.inl (by omega))
          · exact h6 y e
        · rcases h7 d hd with q | ⟨y, hy, q⟩
          · rcases e2 d q with q | q
            · exact .inl q
            · exact .inr ⟨x, by simp, q⟩
          · exact .inr ⟨y, by simp [hy], q⟩
        · have := hl x (by simp); omega
      · rw [if_neg c2]
        obtain ⟨h1, h2, h3, h4, h5, h6, h7, h8, h9⟩ := put1_ok l r hn.2.2 hr
        have e9 := h9 (fun y hy => by have := hn.2.1 y hy; omega)
        refine ⟨h1, h2, h3, h4.cons x, h5, fun y hy => ?_, fun d hd => ?_, fun m hm hl => h8 m hm (fun y hy => hl y (by simp [hy])), fun _ => e9⟩
        · rcases List.mem_cons.1 hy with e | e
          · subst e; exact .inr (.inr (by omega))
          · exact h6 y e
        · rcases h7 d hd with q | ⟨y, hy, q⟩
          · exact .inl q
          · exact .inr ⟨y, by simp [hy], q⟩
theorem putS_ok {l : List Rg} {r : Rg} (hn : Norm l) (hr : hasD r = true) : Norm (putS l r) ∧ ∀ d, Cov (putS l r) d ↔ Cov l d ∨ (r.1 ≤ d ∧ d < r.2) := by
  obtain ⟨h1, h2, h3, h4, h5, h6, h7, _, _⟩ := put1_ok l r hn hr
  have h3' := hasD_iff.1 h3
  unfold putS
  generalize put1 l r = p at *
  refine ⟨norm_append (norm_append (norm_sub h4 hn) ⟨h3, by simp, trivial⟩ (fun x hx y hy => ?_)) (norm_sub List.filter_sublist hn) (fun x hx y hy => ?_), fun d => ?_⟩
  · obtain rfl := List.mem_singleton.1 hy; exact h5 x hx
  · have hy := (List.mem_filter.1 hy).2
    simp only [decide_eq_true_eq] at hy
    rcases List.mem_append.1 hx with e | e
    · have := h5 x e; omega
    · obtain rfl := List.mem_singleton.1 e; exact hy
  · constructor
    · rintro ⟨x, hx, q⟩
      rcases List.mem_append.1 hx with e | e
      · rcases List.mem_append.1 e with e | e
        · exact .inl ⟨x, h4.subset e, q⟩
        · obtain rfl := List.mem_singleton.1 e
          rcases h7 d q with q | q
          · exact .inr q
          · exact .inl q
      · exact .inl ⟨x, (List.mem_filter.1 e).1, q⟩
    · rintro (⟨x, hx, q⟩ | q)
      · rcases h6 x hx with e | e | e
        · exact ⟨x, by simp [e], q⟩
        · exact ⟨p.2, by simp, by omega, by omega⟩
        · exact ⟨x, by simp [hx, e], q⟩
      · exact ⟨p.2, by simp, by omega, by omega⟩
/-- the dates of the ranges that are valid -/
def Dat (l : List Rg) (d : Int) : Prop := ∃ r ∈ l, contR r d = true
def runU (l : List Rg) : List Rg := l.foldl addU []
theorem runU_ok : ∀ (l out : List Rg), Norm out → (∀ r ∈ l, hasD r = true) → l.Pairwise (fun a b => a.1 ≤ b.1) → (∀ x ∈ out, ∀ r ∈ l, x.1 ≤ r.1) → Norm (l.foldl addU out) ∧ ∀ d, Cov (l.foldl addU out) d ↔ Cov out d ∨ Cov l d
  | [], out, h, _, _, _ => ⟨h, fun d => by simp [Cov]⟩
  | r :: l, out, h, hr, hs, hle => by
    rw [List.pairwise_cons] at hs
    obtain ⟨a1, a2, a3⟩ := addU_ok h (hr r (by simp)) (fun x hx => hle x hx r (by simp))
    obtain ⟨b1, b2⟩ := runU_ok l (addU out r) a1 (fun q hq => hr q (by simp [hq])) hs.2 (fun x hx q hq => by have := a3 x hx; have := hs.1 q hq; omega)
    refine ⟨b1, fun d => ?_⟩
    rw [List.foldl_cons, b2, a2]
    constructor
    · rintro ((q | q) | ⟨x, hx, q⟩)
      · exact .inl q
      · exact .inr ⟨r, by simp, q⟩
      · exact .inr ⟨x, by simp [hx], q⟩
    · rintro (q | ⟨x, hx, q⟩)
      · exact .inl (.inl q)
      · rcases List.mem_cons.1 hx with e | e
        · subst e; exact .inl (.inr q)
        · exact .inr ⟨x, e, q⟩
theorem runU_norm {l : List Rg} (hr : ∀ r ∈ l, hasD r = true) (hs : l.Pairwise (fun a b => a.1 ≤ b.1)) : Norm (runU l) ∧ ∀ d, Cov (runU l) d ↔ Cov l d := by
  obtain ⟨h1, h2⟩ := runU_ok l [] trivial hr hs (by simp)
  exact ⟨h1, fun d => by rw [runU, h2]; simp [Cov]⟩
theorem cov_dat {l m : List Rg} (h : m.Perm (l.filter hasD)) (d : Int) : Cov m d ↔ Dat l d := by
  constructor
  · rintro ⟨r, hr, q⟩
    have hr := List.mem_filter.1 (h.mem_iff.1 hr)
    have := hasD_iff.1 hr.2
    exact ⟨r, hr.1, contR_iff.2 (by omega)⟩
  · rintro ⟨r, hr, q⟩
    have q := contR_iff.1 q
    exact ⟨r, h.mem_iff.2 (List.mem_filter.2 ⟨hr, hasD_iff.2 (by omega)⟩), by omega⟩
/-- the reference's union of a list -/
def unionR (l : List Rg) : List Rg := l.foldl (fun out r => if hasD r = true then putS out r else out) []
theorem unionR_ok' : ∀ (l out : List Rg), Norm out → Norm (l.foldl (fun out r => if hasD r = true then putS out r else out) out) ∧ ∀ d, Cov (l.foldl (fun out r => if hasD r = true then putS out r else out) out) d ↔ Cov out d ∨ Dat l d
  | [], out, h => ⟨h, fun d => by simp [Dat]⟩
  | r :: l, out, h => by
    rw [List.foldl_cons]
    by_cases hr : hasD r = true
    · rw [if_pos hr]
      obtain ⟨a1, a2⟩ := putS_ok h hr
      obtain ⟨b1, b2⟩ := unionR_ok' l (putS out r) a1
      have hr' := hasD_iff.1 hr
      refine ⟨b1, fun d => ?_⟩
      rw [b2, a2]
      constructor
      · rintro ((q | q) | ⟨x, hx, q⟩)
        · exact .inl q
        · exact .inr ⟨r, by simp, contR_iff.2 (by omega)⟩
        · exact .inr ⟨x, by simp [hx], q⟩
      · rintro (q | ⟨x, hx, q⟩)
        · exact .inl (.inl q)
        · rcases List.mem_cons.1 hx with e | e
          · subst e; have := contR_iff.1 q; exact .inl (.inr (by omega))
          · exact .inr ⟨x, e, q⟩
    · rw [if_neg hr]
      obtain ⟨b1, b2⟩ := unionR_ok' l out h
      refine ⟨b1, fun d => ?_⟩
      rw [b2]
      constructor
      · rintro (q | ⟨x, hx, q⟩)
        · exact .inl q
        · exact .inr ⟨x, by simp [hx], q⟩
      · rintro (q | ⟨x, hx, q⟩)
        · exact .inl q
        · rcases List.mem_cons.1 hx with e | e
          · subst e; have := contR_iff.1 q; exact absurd (hasD_iff.2 (by omega)) hr
          · exact .inr ⟨x, e, q⟩
theorem unionR_ok (l : List Rg) : Norm (unionR l) ∧ ∀ d, Cov (unionR l) d ↔ Dat l d := by
  obtain ⟨h1, h2⟩ := unionR_ok' l [] trivial
  exact ⟨h1, fun d => by rw [unionR, h2]; simp [Cov]⟩
theorem union_eq {l m : List Rg} (h : m.Perm (l.filter hasD)) (hs : m.Pairwise (fun a b => a.1 ≤ b.1)) : runU m = unionR l := by
  obtain ⟨a1, a2⟩ := runU_norm (l := m) (fun r hr => (List.mem_filter.1 (h.mem_iff.1 hr)).2) hs
  obtain ⟨b1, b2⟩ := unionR_ok l
  exact norm_uniq a1 b1 fun d => by rw [a2, b2, cov_dat h]
/-- the program's gaps -/
def gapsS : List Rg → Rg → Int → List Rg
  | [], w, from_ => if from_ < w.2 then [(from_, w.2)] else []
  | x :: u, w, from_ => if (interR x w).2 = false then gapsS u w from_ else (if from_ < (interR x w).1.1 then [(from_, (interR x w).1.1)] else []) ++ gapsS u w (interR x w).1.2
theorem gapsS_ok : ∀ (u : List Rg) (w : Rg) (f : Int), Norm u → hasD w = true → w.1 ≤ f → f ≤ w.2 → (f = w.1 ∨ ∀ x ∈ u, f < x.1) →
    Norm (gapsS u w f) ∧ (∀ g ∈ gapsS u w f, f ≤ g.1 ∧ g.2 ≤ w.2) ∧ ∀ d, Cov (gapsS u w f) d ↔ f ≤ d ∧ d < w.2 ∧ ¬ Cov u d
  | [], w, f, _, hw, h1, h2, _ => by
    have hw := hasD_iff.1 hw
    unfold gapsS
    by_cases c : f < w.2
    · rw [if_pos c]
      refine ⟨⟨hasD_iff.2 (by simp only; omega), by simp, trivial⟩, fun g hg => ?_, fun d => ?_⟩
      · obtain rfl := List.mem_singleton.1 hg; simp only; omega
      · simp [Cov]
    · rw [if_neg c]
      refine ⟨trivial, by simp, fun d => ?_⟩
      simp [Cov]; omega
  | x :: u, w, f, hn, hw, h1, h2, h3 => by
    have hw' := hasD_iff.1 hw
    have hx := hasD_iff.1 hn.1
    unfold gapsS
    by_cases c : (interR x w).2 = false
    · rw [if_pos c]
      obtain ⟨a1, a2, a3⟩ := gapsS_ok u w f hn.2.2 hw h1 h2 (h3.imp id fun q y hy => q y (by simp [hy]))
      refine ⟨a1, a2, fun d => ?_⟩
      rw [a3]
      have hdis := inter_f hn.1 hw c
      constructor
      · rintro ⟨q1, q2, q3⟩
        refine ⟨q1, q2, ?_⟩
        rintro ⟨y, hy, y1, y2⟩
        rcases List.mem_cons.1 hy with e | e
        · subst e; omega
        · exact q3 ⟨y, e, y1, y2⟩
      · rintro ⟨q1, q2, q3⟩
        exact ⟨q1, q2, fun ⟨y, hy, q⟩ => q3 ⟨y, by simp [hy], q⟩⟩
    · rw [if_neg c]
      have ct : (interR x w).2 = true := by simpa using c
      obtain ⟨_, _, i1, i2⟩ := inter_t ct
      have i1' := hasD_iff.1 i1
      have p1 := (i2 (interR x w).1.1).1 ⟨Int.le_refl _, i1'.2.1⟩
      have p2 := (i2 ((interR x w).1.2 - 1)).1 ⟨by omega, by omega⟩
      generalize (interR x w).1 = p at *
      have hfp : f ≤ p.1 := by rcases h3 with q | q; · omega
                               · have := q x (by simp); omega
      obtain ⟨a1, a2, a3⟩ := gapsS_ok u w p.2 hn.2.2 hw (by omega) (by omega) (.inr fun y hy => by have := hn.2.1 y hy; omega)
      refine ⟨norm_append ?_ a1 (fun g hg y hy => ?_), fun g hg => ?_, fun d => ?_⟩
      · split
        · exact ⟨hasD_iff.2 (by simp only; omega), by simp, trivial⟩
        · trivial
      · have := a2 y hy
        split at hg
        · obtain rfl := List.mem_singleton.1 hg; simp only; omega
        · simp at hg
      · rcases List.mem_append.1 hg with e | e
        · split at e
          · obtain rfl := List.mem_singleton.1 e; simp only; omega
          · simp at e
        · have := a2 g e; omega
      · constructor
        · rintro ⟨g, hg, g1, g2⟩
          rcases List.mem_append.1 hg with e | e
          · split at e
            · obtain rfl := List.mem_singleton.1 e
              simp only at g1 g2
              refine ⟨g1, by omega, ?_⟩
              rintro ⟨y, hy, y1, y2⟩
              rcases List.mem_cons.1 hy with e | e
              · subst e; have := (i2 d).2 ⟨⟨y1, y2⟩, by omega⟩; omega
              · have := hn.2.1 y e; omega
            · simp at e
          · obtain ⟨q1, q2, q3⟩ := (a3 d).1 ⟨g, e, g1, g2⟩
            refine ⟨by omega, q2, ?_⟩
            rintro ⟨y, hy, y1, y2⟩
            rcases List.mem_cons.1 hy with e | e
            · subst e; have := (i2 d).2 ⟨⟨y1, y2⟩, by omega⟩; omega
            · exact q3 ⟨y, e, y1, y2⟩
        · rintro ⟨q1, q2, q3⟩
          by_cases c1 : d < p.1
          · exact ⟨(f, p.1), List.mem_append.2 (.inl (by rw [if_pos (by omega)]; simp)), q1, c1⟩
          · by_cases c2 : d < p.2
            · exact absurd ⟨x, by simp, ((i2 d).1 ⟨by omega, c2⟩).1⟩ q3
            · obtain ⟨g, hg, q⟩ := (a3 d).2 ⟨by omega, q2, fun ⟨y, hy, q⟩ => q3 ⟨y, by simp [hy], q⟩⟩
              exact ⟨g, List.mem_append.2 (.inr hg), q⟩
/-- the reference's difference and gaps -/
def subR (a b : Rg) : List Rg := if hasD a = false then [] else if (interR a b).2 = false then [a] else
  (if a.1 < (interR a b).1.1 then [(a.1, (interR a b).1.1)] else []) ++ (if (interR a b).1.2 < a.2 then [((interR a b).1.2, a.2)] else [])
theorem subR_ok {a b : Rg} (ha : hasD a = true) : Norm (subR a b) ∧ (∀ g ∈ subR a b, a.1 ≤ g.1 ∧ g.2 ≤ a.2) ∧ ∀ d, Cov (subR a b) d ↔ (a.1 ≤ d ∧ d < a.2) ∧ ¬ contR b d = true := by
  have ha' := hasD_iff.1 ha
  unfold subR
  rw [if_neg (by simp [ha])]
  by_cases c : (interR a b).2 = false
  · rw [if_pos c]
    refine ⟨⟨ha, by simp, trivial⟩, by simp, fun d => ?_⟩
    have : ∀ d, (a.1 ≤ d ∧ d < a.2) → ¬ contR b d = true := fun d q hc => by
      have hc := contR_iff.1 hc
      have := inter_f ha (b := b) (hasD_iff.2 (by omega)) c
      omega
    constructor
    · rintro ⟨g, hg, q⟩
      obtain rfl := List.mem_singleton.1 hg
      exact ⟨q, this d q⟩
    · rintro ⟨q, _⟩; exact ⟨a, by simp, q⟩
  · rw [if_neg c]
    have ct : (interR a b).2 = true := by simpa using c
    obtain ⟨_, hb, i1, i2⟩ := inter_t ct
    have i1' := hasD_iff.1 i1
    have hb' := hasD_iff.1 hb
    have p1 := (i2 (interR a b).1.1).1 ⟨Int.le_refl _, i1'.2.1⟩
    have p2 := (i2 ((interR a b).1.2 - 1)).1 ⟨by omega, by omega⟩
    generalize (interR a b).1 = p at *
    refine ⟨norm_append ?_ ?_ (fun x hx y hy => ?_), fun g hg => ?_, fun d => ?_⟩
    · split
      · exact ⟨hasD_iff.2 (by simp only; omega), by simp, trivial⟩
      · trivial
    · split
      · exact ⟨hasD_iff.2 (by simp only; omega), by simp, trivial⟩
      · trivial
    · split at hx <;> split at hy <;> simp_all <;> omega
    · rcases List.mem_append.1 hg with e | e <;> split at e <;> simp_all <;> omega
    · rw [contR_iff]
      have hi := i2 d
      constructor
      · rintro ⟨g, hg, g1, g2⟩
        rcases List.mem_append.1 hg with e | e
        · split at e
          · obtain rfl := List.mem_singleton.1 e; simp only at g1 g2; omega
          · simp at e
        · split at e
          · obtain rfl := List.mem_singleton.1 e; simp only at g1 g2; omega
          · simp at e
      · rintro ⟨q1, q2⟩
        by_cases c1 : d < p.1
        · exact ⟨(a.1, p.1), List.mem_append.2 (.inl (by rw [if_pos (by omega)]; simp)), q1.1, c1⟩
        · exact ⟨(p.2, a.2), List.mem_append.2 (.inr (by rw [if_pos (by omega)]; simp)), by simp only; omega, q1.2⟩
def gapsR (l : List Rg) (w : Rg) : List Rg := if hasD w = false then [] else l.foldl (fun out x => out.flatMap (fun p => subR p x)) [w]
theorem flat_norm {b : Rg} : ∀ {a : List Rg}, Norm a → Norm (a.flatMap (fun p => subR p b)) ∧ (∀ g ∈ a.flatMap (fun p => subR p b), ∃ p ∈ a, p.1 ≤ g.1 ∧ g.2 ≤ p.2) ∧ ∀ d, Cov (a.flatMap (fun p => subR p b)) d ↔ Cov a d ∧ ¬ contR b d = true
  | [], _ => ⟨trivial, by simp, fun d => by simp [Cov]⟩
  | x :: a, h => by
    obtain ⟨s1, s2, s3⟩ := subR_ok (b := b) h.1
    obtain ⟨t1, t2, t3⟩ := flat_norm (b := b) h.2.2
    rw [List.flatMap_cons]
    refine ⟨norm_append s1 t1 (fun g hg y hy => ?_), fun g hg => ?_, fun d => ?_⟩
    · obtain ⟨p, hp, q⟩ := t2 y hy
      have := h.2.1 p hp; have := s2 g hg; omega
    · rcases List.mem_append.1 hg with e | e
      · exact ⟨x, by simp, s2 g e⟩
      · obtain ⟨p, hp, q⟩ := t2 g e; exact ⟨p, by simp [hp], q⟩
    · have h3 := s3 d; have h4 := t3 d
      constructor
      · rintro ⟨g, hg, q⟩
        rcases List.mem_append.1 hg with e | e
        · have := h3.1 ⟨g, e, q⟩; exact ⟨⟨x, by simp, this.1⟩, this.2⟩
        · obtain ⟨⟨y, hy, r⟩, q2⟩ := h4.1 ⟨g, e, q⟩; exact ⟨⟨y, by simp [hy], r⟩, q2⟩
      · rintro ⟨⟨y, hy, r⟩, q2⟩
        rcases List.mem_cons.1 hy with e | e
        · subst e; obtain ⟨g, hg, q⟩ := h3.2 ⟨r, q2⟩; exact ⟨g, List.mem_append.2 (.inl hg), q⟩
        · obtain ⟨g, hg, q⟩ := h4.2 ⟨⟨y, e, r⟩, q2⟩; exact ⟨g, List.mem_append.2 (.inr hg), q⟩
theorem gapsR_ok' : ∀ (l out : List Rg), Norm out → Norm (l.foldl (fun out x => out.flatMap (fun p => subR p x)) out) ∧ ∀ d, Cov (l.foldl (fun out x => out.flatMap (fun p => subR p x)) out) d ↔ Cov out d ∧ ¬ Dat l d
  | [], out, h => ⟨h, fun d => by simp [Dat]⟩
  | x :: l, out, h => by
    obtain ⟨s1, _, s3⟩ := flat_norm (b := x) h
    obtain ⟨t1, t2⟩ := gapsR_ok' l _ s1
    refine ⟨t1, fun d => ?_⟩
    rw [List.foldl_cons, t2, s3]
    constructor
    · rintro ⟨⟨q1, q2⟩, q3⟩
      refine ⟨q1, ?_⟩
      rintro ⟨y, hy, r⟩
      rcases List.mem_cons.1 hy with e | e
      · subst e; exact q2 r
      · exact q3 ⟨y, e, r⟩
    · rintro ⟨q1, q2⟩
      exact ⟨⟨q1, fun r => q2 ⟨x, by simp, r⟩⟩, fun ⟨y, hy, r⟩ => q2 ⟨y, by simp [hy], r⟩⟩
theorem gapsR_ok {l : List Rg} {w : Rg} : Norm (gapsR l w) ∧ ∀ d, Cov (gapsR l w) d ↔ contR w d = true ∧ ¬ Dat l d := by
  unfold gapsR
  by_cases hw : hasD w = false
  · rw [if_pos hw]
    refine ⟨trivial, fun d => ?_⟩
    simp only [Cov, List.not_mem_nil, false_and, exists_false, false_iff]
    rintro ⟨q, _⟩
    have q := contR_iff.1 q
    rw [hasD_iff.2 (by omega)] at hw; cases hw
  · rw [if_neg hw]
    have hw : hasD w = true := by simpa using hw
    have hw' := hasD_iff.1 hw
    obtain ⟨h1, h2⟩ := gapsR_ok' l [w] ⟨hw, by simp, trivial⟩
    refine ⟨h1, fun d => ?_⟩
    rw [h2, contR_iff]
    have : Cov [w] d ↔ w.1 ≤ d ∧ d < w.2 := by simp [Cov]
    rw [this]
    constructor
    · rintro ⟨q1, q2⟩; exact ⟨by omega, q2⟩
    · rintro ⟨q1, q2⟩; exact ⟨by omega, q2⟩
def gapsP (l : List Rg) (w : Rg) : List Rg := if hasD w = false then [] else gapsS (unionR l) w w.1
theorem gaps_eq (l : List Rg) (w : Rg) : gapsP l w = gapsR l w := by
  obtain ⟨b1, b2⟩ := gapsR_ok (l := l) (w := w)
  unfold gapsP
  by_cases hw : hasD w = false
  · rw [if_pos hw]; unfold gapsR; rw [if_pos hw]
  · rw [if_neg hw]
    have hw : hasD w = true := by simpa using hw
    have hw' := hasD_iff.1 hw
    obtain ⟨u1, u2⟩ := unionR_ok l
    obtain ⟨a1, _, a3⟩ := gapsS_ok (unionR l) w w.1 u1 hw (Int.le_refl _) (by omega) (.inl rfl)
    refine norm_uniq a1 b1 fun d => ?_
    rw [a3, b2, u2, contR_iff]
    constructor
    · rintro ⟨q1, q2, q3⟩; exact ⟨by omega, q3⟩
    · rintro ⟨q1, q3⟩; exact ⟨by omega, by omega, q3⟩
end Go.Proofs.Ythfhekohlmboiaa
