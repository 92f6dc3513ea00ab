import Derived.Test.YtcdkmhmlpjnfeaaP12b
namespace Go.Proofs.Ytcdkmhmlpjnfeaa
open Go.Eng
set_option maxRecDepth 100000
set_option maxHeartbeats 1000000
set_option linter.unusedVariables false
set_option linter.unusedSimpArgs false
/-! ranges of keys, plain -/
def NormK : List Rg → Prop
  | [] => True
  | x :: r => x.1 < x.2 ∧ (∀ y ∈ r, x.2 < y.1) ∧ NormK r
theorem normK_mem : ∀ {l : List Rg}, NormK l → ∀ r ∈ l, r.1 < r.2
  | x :: l, h, r, hr => by
    rcases List.mem_cons.1 hr with e | e
    · subst e; exact h.1
    · exact normK_mem h.2.2 r e
theorem normK_append : ∀ {a b : List Rg}, NormK a → NormK b → (∀ x ∈ a, ∀ y ∈ b, x.2 < y.1) → NormK (a ++ b)
  | [], _, _, hb, _ => hb
  | x :: a, b, ha, hb, h => ⟨ha.1, fun y hy => by
      rcases List.mem_append.1 hy with e | e
      · exact ha.2.1 y e
      · exact h x (by simp) y e, normK_append ha.2.2 hb (fun z hz => h z (by simp [hz]))⟩
theorem normK_uniq : ∀ {a b : List Rg}, NormK a → NormK b → (∀ d, Cov a d ↔ Cov b d) → a = b
  | [], [], _, _, _ => rfl
  | [], y :: b, _, hb, h => by
    have := hb.1
    obtain ⟨r, hr, _⟩ := (h y.1).2 ⟨y, by simp, by omega, by omega⟩
    simp at hr
  | x :: a, [], ha, _, h => by
    have := ha.1
    obtain ⟨r, hr, _⟩ := (h x.1).1 ⟨x, by simp, by omega, by omega⟩
    simp at hr
  | x :: a, y :: b, ha, hb, h => by
    have hx := ha.1
    have hy := hb.1
    have hal : ∀ r ∈ a, x.2 < r.1 ∧ r.1 < r.2 := fun r hr => ⟨ha.2.1 r hr, normK_mem ha.2.2 r hr⟩
    have hbl : ∀ r ∈ b, y.2 < r.1 ∧ r.1 < r.2 := fun r hr => ⟨hb.2.1 r hr, normK_mem hb.2.2 r hr⟩
    have h1 : x.1 = y.1 := by
      obtain ⟨r, hr, r1, r2⟩ := (h x.1).1 ⟨x, by simp, by omega, by omega⟩
      obtain ⟨q, hq, q1, q2⟩ := (h y.1).2 ⟨y, by simp, by omega, by omega⟩
      have a1 : y.1 ≤ x.1 := by
        rcases List.mem_cons.1 hr with e | e
        · subst e; exact r1
        · have := hbl r e; omega
      have a2 : x.1 ≤ y.1 := by
        rcases List.mem_cons.1 hq with e | e
        · subst e; exact q1
        · have := hal q e; omega
      omega
    have h2 : x.2 = y.2 := by
      rcases Int.lt_trichotomy x.2 y.2 with q | q | q
      · obtain ⟨r, hr, r1, r2⟩ := (h x.2).2 ⟨y, by simp, by omega, q⟩
        rcases List.mem_cons.1 hr with e | e
        · subst e; omega
        · have := hal r e; omega
      · exact q
      · obtain ⟨r, hr, r1, r2⟩ := (h y.2).1 ⟨x, by simp, by omega, q⟩
        rcases List.mem_cons.1 hr with e | e
        · subst e; omega
        · have := hbl r e; omega
    have hxy : x = y := Prod.ext h1 h2
    subst hxy
    rw [normK_uniq ha.2.2 hb.2.2 fun d => ⟨fun ⟨r, hr, r1, r2⟩ => ?_, fun ⟨r, hr, r1, r2⟩ => ?_⟩]
    · obtain ⟨q, hq, q1, q2⟩ := (h d).1 ⟨r, by simp [hr], r1, r2⟩
      rcases List.mem_cons.1 hq with e | e
      · subst e; have := hal r hr; omega
      · exact ⟨q, e, q1, q2⟩
    · obtain ⟨q, hq, q1, q2⟩ := (h d).2 ⟨r, by simp [hr], r1, r2⟩
      rcases List.mem_cons.1 hq with e | e
      · subst e; have := hbl r hr; omega
      · exact ⟨q, e, q1, q2⟩
/-- the keys between the parts -/
def gapK : List Rg → Int → Int → List Rg
  | [], f, hi => if f < hi then [(f, hi)] else []
  | p :: s, f, hi => (if f < p.1 then [(f, p.1)] else []) ++ gapK s (if f < p.2 then p.2 else f) hi
def gStepK (s : List Rg × Int) (p : Rg) : List Rg × Int := (if s.2 < p.1 then s.1 ++ [(s.2, p.1)] else s.1, if s.2 < p.2 then p.2 else s.2)
theorem gapK_end (hi : Int) : ∀ (s : List Rg) (f : Int) (o : List Rg), ((s.foldl gStepK (o, f)).1 ++ if (s.foldl gStepK (o, f)).2 < hi then [((s.foldl gStepK (o, f)).2, hi)] else []) = o ++ gapK s f hi
  | [], f, o => rfl
  | p :: s, f, o => by
    rw [List.foldl_cons, gapK]
    rw [show gStepK (o, f) p = (if f < p.1 then o ++ [(f, p.1)] else o, if f < p.2 then p.2 else f) from rfl, gapK_end hi s]
    split <;> simp
theorem gapK_ok : ∀ (s : List Rg) (f hi : Int), f ≤ hi → (∀ p ∈ s, p.1 < p.2 ∧ p.2 ≤ hi) → s.Pairwise (fun a b => a.1 ≤ b.1) →
    NormK (gapK s f hi) ∧ (∀ g ∈ gapK s f hi, f ≤ g.1 ∧ g.2 ≤ hi) ∧ ∀ d, Cov (gapK s f hi) d ↔ (f ≤ d ∧ d < hi) ∧ ¬ Cov s d
  | [], f, hi, hf, _, _ => by
    unfold gapK
    by_cases h : f < hi
    · rw [if_pos h]
      exact ⟨⟨h, by simp, trivial⟩, by simp, fun d => by simp [Cov]⟩
    · rw [if_neg h]
      exact ⟨trivial, by simp, fun d => by simp [Cov]; omega⟩
  | p :: s, f, hi, hf, hp, hs => by
    rw [List.pairwise_cons] at hs
    have hpp := hp p (by simp)
    unfold gapK
    generalize hf2 : (if f < p.2 then p.2 else f) = f2
    have hf2' : f ≤ f2 ∧ p.2 ≤ f2 ∧ (f2 = f ∨ f2 = p.2) := by subst hf2; split <;> omega
    obtain ⟨a1, a2, a3⟩ := gapK_ok s f2 hi (by omega) (fun q hq => hp q (by simp [hq])) hs.2
    refine ⟨normK_append ?_ a1 (fun x hx y hy => ?_), fun g hg => ?_, fun d => ?_⟩
    · split
      · rename_i h; exact ⟨h, by simp, trivial⟩
      · trivial
    · have := a2 y hy
      split at hx
      · obtain rfl := List.mem_singleton.1 hx; simp only; omega
      · simp at hx
    · rcases List.mem_append.1 hg with e | e
      · split at e
        · obtain rfl := List.mem_singleton.1 e; simp only; omega
        · simp at e
      · have := a2 g e; omega
    · have h3 := a3 d
      constructor
      · rintro ⟨g, hg, g1, g2⟩
        rcases List.mem_append.1 hg with e | e
        · split at e
          · obtain rfl := List.mem_singleton.1 e
            simp only at g1 g2
            refine ⟨⟨g1, by omega⟩, ?_⟩
            rintro ⟨q, hq, q1, q2⟩
            rcases List.mem_cons.1 hq with e2 | e2
            · subst e2; omega
            · have := hs.1 q e2; omega
          · simp at e
        · obtain ⟨⟨c1, c2⟩, c3⟩ := h3.1 ⟨g, e, g1, g2⟩
          refine ⟨⟨by omega, c2⟩, ?_⟩
          rintro ⟨q, hq, q1, q2⟩
          rcases List.mem_cons.1 hq with e2 | e2
          · subst e2; omega
          · exact c3 ⟨q, e2, q1, q2⟩
      · rintro ⟨⟨c1, c2⟩, c3⟩
        by_cases h : d < p.1
        · exact ⟨(f, p.1), List.mem_append.2 (.inl (by rw [if_pos (by omega)]; simp)), c1, h⟩
        · have h2 : p.2 ≤ d := by
            rcases Int.lt_or_le d p.2 with q | q
            · exact absurd ⟨p, by simp, by omega, q⟩ c3
            · exact q
          obtain ⟨g, hg, q⟩ := h3.2 ⟨⟨by omega, c2⟩, fun ⟨q, hq, r⟩ => c3 ⟨q, by simp [hq], r⟩⟩
          exact ⟨g, List.mem_append.2 (.inr hg), q⟩
/-- the reference's removal of a range -/
def pieceK (lo hi : Int) (x : Rg) : List Rg := if lo ≥ hi ∨ hi ≤ x.1 ∨ x.2 ≤ lo then [x] else (if x.1 < lo then [(x.1, lo)] else []) ++ if hi < x.2 then [(hi, x.2)] else []
def woK (l : List Rg) (lo hi : Int) : List Rg := l.flatMap (pieceK lo hi)
theorem pieceK_ok {lo hi : Int} {x : Rg} (hx : x.1 < x.2) : NormK (pieceK lo hi x) ∧ (∀ g ∈ pieceK lo hi x, x.1 ≤ g.1 ∧ g.2 ≤ x.2) ∧ ∀ d, Cov (pieceK lo hi x) d ↔ (x.1 ≤ d ∧ d < x.2) ∧ ¬ (lo ≤ d ∧ d < hi) := by
  unfold pieceK
  by_cases h : lo ≥ hi ∨ hi ≤ x.1 ∨ x.2 ≤ lo
  · rw [if_pos h]
    exact ⟨⟨hx, by simp, trivial⟩, by simp, fun d => by simp [Cov]; omega⟩
  · rw [if_neg h]
    by_cases h1 : x.1 < lo <;> by_cases h2 : hi < x.2
    · rw [if_pos h1, if_pos h2]
      exact ⟨⟨h1, by simp; omega, h2, by simp, trivial⟩, by simp; omega, fun d => by simp [Cov]; omega⟩
    · rw [if_pos h1, if_neg h2]
      exact ⟨⟨h1, by simp, trivial⟩, by simp; omega, fun d => by simp [Cov]; omega⟩
    · rw [if_neg h1, if_pos h2]
      exact ⟨⟨h2, by simp, trivial⟩, by simp; omega, fun d => by simp [Cov]; omega⟩
    · rw [if_neg h1, if_neg h2]
      exact ⟨trivial, by simp, fun d => by simp [Cov]; omega⟩
theorem woK_ok {lo hi : Int} : ∀ {l : List Rg}, NormK l → NormK (woK l lo hi) ∧ (∀ g ∈ woK l lo hi, ∃ p ∈ l, p.1 ≤ g.1 ∧ g.2 ≤ p.2) ∧ ∀ d, Cov (woK l lo hi) d ↔ Cov l d ∧ ¬ (lo ≤ d ∧ d < hi)
  | [], _ => ⟨trivial, by simp [woK], fun d => by simp [Cov, woK]⟩
  | x :: l, h => by
    obtain ⟨s1, s2, s3⟩ := pieceK_ok (lo := lo) (hi := hi) h.1
    obtain ⟨t1, t2, t3⟩ := woK_ok (lo := lo) (hi := hi) h.2.2
    unfold woK at *
    rw [List.flatMap_cons]
    refine ⟨normK_append s1 t1 (fun g hg y hy => ?_), fun g hg => ?_, fun d => ?_⟩
    · obtain ⟨p, hp, q⟩ := t2 y hy
      have := h.2.1 p hp; have := s2 g hg; omega
    · rcases List.mem_append.1 hg with e | e
      · exact ⟨x, by simp, s2 g e⟩
      · obtain ⟨p, hp, q⟩ := t2 g e; exact ⟨p, by simp [hp], q⟩
    · have h3 := s3 d; have h4 := t3 d
      constructor
      · rintro ⟨g, hg, q⟩
        rcases List.mem_append.1 hg with e | e
        · have := h3.1 ⟨g, e, q⟩; exact ⟨⟨x, by simp, this.1⟩, this.2⟩
        · obtain ⟨⟨y, hy, r⟩, q2⟩ := h4.1 ⟨g, e, q⟩; exact ⟨⟨y, by simp [hy], r⟩, q2⟩
      · rintro ⟨⟨y, hy, r⟩, q2⟩
        rcases List.mem_cons.1 hy with e | e
        · subst e; obtain ⟨g, hg, q⟩ := h3.2 ⟨r, q2⟩; exact ⟨g, List.mem_append.2 (.inl hg), q⟩
        · obtain ⟨g, hg, q⟩ := h4.2 ⟨⟨y, e, r⟩, q2⟩; exact ⟨g, List.mem_append.2 (.inr hg), q⟩
theorem pieceK_len (lo hi : Int) (x : Rg) : (pieceK lo hi x).length ≤ 2 := by unfold pieceK; (repeat' split) <;> simp
/-- one range removed makes at most one piece more -/
theorem woK_len {lo hi : Int} : ∀ {l : List Rg}, NormK l → (woK l lo hi).length ≤ l.length + 1 ∧ ((∀ x ∈ l, hi ≤ x.2) → (∀ x ∈ l, hi < x.1) → (woK l lo hi).length ≤ l.length)
  | [], _ => by simp [woK]
  | x :: l, h => by
    obtain ⟨t1, t2⟩ := woK_len (lo := lo) (hi := hi) h.2.2
    have hx := h.1
    have hl := fun y hy => normK_mem h.2.2 y hy
    have hp : (pieceK lo hi x).length ≤ 2 := pieceK_len lo hi x
    unfold woK at *
    rw [List.flatMap_cons, List.length_append, List.length_cons]
    constructor
    · by_cases c : (pieceK lo hi x).length ≤ 1
      · omega
      · have hh : hi < x.2 := by
          rcases Int.lt_or_le hi x.2 with q | q
          · exact q
          · exact absurd (by unfold pieceK; split; · simp
                             · rw [if_neg (show ¬ hi < x.2 by omega), List.append_nil]; split <;> simp) c
        have := t2 (fun y hy => by have := h.2.1 y hy; have := hl y hy; omega) (fun y hy => by have := h.2.1 y hy; omega)
        omega
    · intro c1 c2
      have hh := c2 x (by simp)
      have e : pieceK lo hi x = [x] := by unfold pieceK; rw [if_pos (by omega)]
      have := t2 (fun y hy => c1 y (by simp [hy])) (fun y hy => c2 y (by simp [hy]))
      rw [e, List.length_singleton]; omega
/-- a row's part of the keys asked for -/
def partK (lo hi : Int) (x : TRow) : Rg := (if lo < x.2.1 then x.2.1 else lo, if x.2.2.1 < hi then x.2.2.1 else hi)
def onK (date lo hi : Int) (x : TRow) : Bool := contR x.1 date && decide ((partK lo hi x).1 < (partK lo hi x).2)
def covL (date lo hi : Int) (l : List TRow) : List Rg := (l.filter (onK date lo hi)).map (partK lo hi)
def rStepK (date : Int) (o : List Rg) (x : TRow) : List Rg := if contR x.1 date = true then woK o x.2.1 x.2.2.1 else o
def uncR (date lo hi : Int) (l : List TRow) : List Rg := if lo ≥ hi then [] else l.foldl (rStepK date) [(lo, hi)]
def Mat (date : Int) (l : List TRow) (d : Int) : Prop := ∃ x ∈ l, matchR date d x = true
theorem matchR_iff {date d : Int} {x : TRow} : matchR date d x = true ↔ contR x.1 date = true ∧ x.2.1 ≤ d ∧ d < x.2.2.1 := by simp [matchR, and_assoc]
theorem rStepK_ok {date : Int} : ∀ (l : List TRow) (o : List Rg), NormK o → NormK (l.foldl (rStepK date) o) ∧ (l.foldl (rStepK date) o).length ≤ o.length + l.length ∧ ∀ d, Cov (l.foldl (rStepK date) o) d ↔ Cov o d ∧ ¬ Mat date l d
  | [], o, h => ⟨h, by simp, fun d => by simp [Mat]⟩
  | x :: l, o, h => by
    rw [List.foldl_cons]
    have key : NormK (rStepK date o x) ∧ (rStepK date o x).length ≤ o.length + 1 ∧ ∀ d, Cov (rStepK date o x) d ↔ Cov o d ∧ ¬ matchR date d x = true := by
      unfold rStepK
      by_cases c : contR x.1 date = true
      · rw [if_pos c]
        obtain ⟨s1, _, s3⟩ := woK_ok (lo := x.2.1) (hi := x.2.2.1) h
        refine ⟨s1, (woK_len h).1, fun d => ?_⟩
        rw [s3, matchR_iff]; simp [c]
      · rw [if_neg c]
        refine ⟨h, by omega, fun d => ?_⟩
        rw [matchR_iff]; simp [c]
    obtain ⟨k1, k2, k3⟩ := key
    obtain ⟨a1, a2, a3⟩ := rStepK_ok l (rStepK date o x) k1
    refine ⟨a1, by simp only [List.length_cons]; omega, fun d => ?_⟩
    rw [a3, k3]
    constructor
    · rintro ⟨⟨q1, q2⟩, q3⟩
      refine ⟨q1, ?_⟩
      rintro ⟨y, hy, r⟩
      rcases List.mem_cons.1 hy with e | e
      · subst e; exact q2 r
      · exact q3 ⟨y, e, r⟩
    · rintro ⟨q1, q2⟩
      exact ⟨⟨q1, fun r => q2 ⟨x, by simp, r⟩⟩, fun ⟨y, hy, r⟩ => q2 ⟨y, by simp [hy], r⟩⟩
theorem covL_cov {date lo hi d : Int} {l : List TRow} : Cov (covL date lo hi l) d ↔ (lo ≤ d ∧ d < hi) ∧ Mat date l d := by
  unfold covL Cov Mat
  constructor
  · rintro ⟨r, hr, q1, q2⟩
    obtain ⟨x, hx, rfl⟩ := List.mem_map.1 hr
    obtain ⟨hx, h2⟩ := List.mem_filter.1 hx
    simp only [onK, Bool.and_eq_true, decide_eq_true_eq] at h2
    unfold partK at q1 q2
    simp only at q1 q2
    refine ⟨by omega, x, hx, matchR_iff.2 ⟨h2.1, by omega⟩⟩
  · rintro ⟨q, x, hx, h⟩
    have h := matchR_iff.1 h
    have hp : (partK lo hi x).1 ≤ d ∧ d < (partK lo hi x).2 := by unfold partK; simp only; omega
    refine ⟨partK lo hi x, List.mem_map.2 ⟨x, List.mem_filter.2 ⟨hx, ?_⟩, rfl⟩, hp⟩
    simp only [onK, Bool.and_eq_true, decide_eq_true_eq]
    exact ⟨h.1, by omega⟩
theorem cov_perm {a b : List Rg} (h : a.Perm b) (d : Int) : Cov a d ↔ Cov b d := by
  constructor
  · rintro ⟨r, hr, q⟩; exact ⟨r, h.mem_iff.1 hr, q⟩
  · rintro ⟨r, hr, q⟩; exact ⟨r, h.mem_iff.2 hr, q⟩
theorem unc_ok {date lo hi : Int} {l : List TRow} {s : List Rg} (hlt : lo < hi) (h : s.Perm (covL date lo hi l)) (hs : s.Pairwise (fun a b => a.1 ≤ b.1)) :
    gapK s lo hi = uncR date lo hi l ∧ ∀ g ∈ gapK s lo hi, lo ≤ g.1 ∧ g.1 < g.2 ∧ g.2 ≤ hi ∧ ¬ Mat date l g.1 := by
  have hp : ∀ p ∈ s, p.1 < p.2 ∧ p.2 ≤ hi := by
    intro p hp
    obtain ⟨x, hx, rfl⟩ := List.mem_map.1 (h.mem_iff.1 hp)
    obtain ⟨_, h2⟩ := List.mem_filter.1 hx
    simp only [onK, Bool.and_eq_true, decide_eq_true_eq] at h2
    refine ⟨h2.2, ?_⟩
    unfold partK; simp only; omega
  obtain ⟨a1, a2, a3⟩ := gapK_ok s lo hi (by omega) hp hs
  have a4 : ∀ d, Cov (gapK s lo hi) d ↔ (lo ≤ d ∧ d < hi) ∧ ¬ Mat date l d := by
    intro d
    rw [a3, cov_perm h, covL_cov]
    constructor
    · rintro ⟨q1, q2⟩; exact ⟨q1, fun q => q2 ⟨q1, q⟩⟩
    · rintro ⟨q1, q2⟩; exact ⟨q1, fun q => q2 q.2⟩
  refine ⟨?_, fun g hg => ?_⟩
  · unfold uncR
    rw [if_neg (by omega)]
    obtain ⟨b1, _, b3⟩ := rStepK_ok (date := date) l [(lo, hi)] ⟨hlt, by simp, trivial⟩
    refine normK_uniq a1 b1 fun d => ?_
    rw [a4, b3]
    simp [Cov]
  · have g1 := a2 g hg
    have g2 := normK_mem a1 g hg
    exact ⟨g1.1, g2, g1.2, ((a4 g.1).1 ⟨g, hg, by omega, g2⟩).2⟩
end Go.Proofs.Ytcdkmhmlpjnfeaa
