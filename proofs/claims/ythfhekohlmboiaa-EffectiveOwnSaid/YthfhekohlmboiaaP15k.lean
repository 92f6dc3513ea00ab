import Derived.Test.YthfhekohlmboiaaP15j
namespace Go.Proofs.Ythfhekohlmboiaa
open Go.Eng
set_option maxRecDepth 100000
set_option maxHeartbeats 1000000
set_option linter.unusedVariables false
set_option linter.unusedSimpArgs false
/-! plain laws of rules in force -/
theorem idxs_pos {f : TRule → Bool} {l : List TRule} : ∀ {N i : Nat} (h : i < (idxs f l N).length), (idxs f l (idxs f l N)[i]).length = i
  | 0, i, h => by simp [idxs] at h
  | N + 1, i, h => by
    have e := idxs_succ f l N
    by_cases q : i < (idxs f l N).length
    · have e2 : (idxs f l (N + 1))[i] = (idxs f l N)[i] := by simp only [e]; rw [List.getElem_append_left q]
      rw [e2]; exact idxs_pos q
    · by_cases g : keepAt f l N = true
      · rw [if_pos g] at e
        have hl : (idxs f l (N + 1)).length = (idxs f l N).length + 1 := by rw [e]; simp
        have hi : i = (idxs f l N).length := by omega
        subst hi
        have e2 : (idxs f l (N + 1))[(idxs f l N).length] = N := by simp only [e]; simp
        rw [e2]
      · rw [if_neg g, List.append_nil] at e
        rw [e] at h; exact absurd h q
theorem parI_ok {f : TRule → Bool} {l : List TRule} {N i : Nat} (h : i < (parI f l N).length) : -1 ≤ (parI f l N)[i] ∧ (parI f l N)[i] < (i : Int) := by
  have h' : i < (idxs f l N).length := by rw [← parI_len]; exact h
  rw [parI_at h']
  have h1 := anc_range f l (idxs f l N)[i]
  rw [idxs_pos h'] at h1; exact h1
theorem idxs_congr {f g : TRule → Bool} {l : List TRule} (h : ∀ r ∈ l, f r = g r) (k : Nat) : idxs f l k = idxs g l k ∧ nearL f l k = nearL g l k := by
  have hk : ∀ i, keepAt f l i = keepAt g l i := fun i => by
    unfold keepAt; split
    · rename_i e; exact h _ (List.mem_of_getElem? e)
    · rfl
  have hi : ∀ k, idxs f l k = idxs g l k := fun k => by unfold idxs; exact List.filter_congr (fun i _ => hk i)
  refine ⟨hi k, ?_⟩
  induction k with
  | zero => rfl
  | succ k ih => rw [nearL, nearL, ih, hk, hi]
theorem anc_congr {f g : TRule → Bool} {l : List TRule} (h : ∀ r ∈ l, f r = g r) : anc f l = anc g l := by
  funext k; unfold anc; rw [(idxs_congr h k).2]
theorem ruleAt_congr {f g : TRule → Bool} {l : List TRule} (h : ∀ r ∈ l, f r = g r) : ruleAt f l = ruleAt g l := by
  funext k; unfold ruleAt; rw [anc_congr h]
theorem idxI_congr {f g : TRule → Bool} {l : List TRule} (h : ∀ r ∈ l, f r = g r) (k : Nat) : idxI f l k = idxI g l k := by unfold idxI; rw [(idxs_congr h k).1]
theorem parI_congr {f g : TRule → Bool} {l : List TRule} (h : ∀ r ∈ l, f r = g r) (k : Nat) : parI f l k = parI g l k := by unfold parI; rw [(idxs_congr h k).1, anc_congr h]
theorem priI_congr {f g : TRule → Bool} {l : List TRule} (h : ∀ r ∈ l, f r = g r) (k : Nat) : priI f l k = priI g l k := by unfold priI; rw [(idxs_congr h k).1]
theorem rulOn_congr {f g : TRule → Bool} {l : List TRule} (h : ∀ r ∈ l, f r = g r) : rulOn f l = rulOn g l := by unfold rulOn; rw [(idxs_congr h _).1, ruleAt_congr h]
/-- between two dates without a change -/
theorem lawOn_same {l : TLaw} {a b : Int} (h : ∀ r ∈ rngL l, contR r a = contR r b) : lawOn a l = lawOn b l := by
  have ht : ∀ t ∈ l.2.1, ∀ r ∈ t.2.2.2, contR r.1 a = contR r.1 b := fun t ht r hr => h _ (List.mem_append_left _ (List.mem_flatMap.2 ⟨t, ht, List.mem_map_of_mem hr⟩))
  have hs : ∀ s ∈ l.2.2, ∀ r ∈ s.2.2.2.2, fA a r = fA b r := fun s hs r hr => h _ (List.mem_append_right _ (List.mem_flatMap.2 ⟨s, hs, List.mem_map_of_mem hr⟩))
  unfold lawOn
  rw [List.map_congr_left (f := tabOn a) (g := tabOn b), List.map_congr_left (f := scpOn a) (g := scpOn b)]
  · intro s q; unfold scpOn; rw [rulOn_congr (hs s q)]
  · intro t q; unfold tabOn rowsOn; rw [List.filter_congr (fun r hr => ht t q r hr)]
theorem fD_same {l : TLaw} {a b d : Int} (h : ∀ r ∈ rngL l, contR r a = contR r b) {s : TScope} (hs : s ∈ l.2.2) : ∀ r ∈ s.2.2.2.2, fD d a r = fD d b r := fun r hr => by
  unfold fD; rw [h _ (List.mem_append_right _ (List.mem_flatMap.2 ⟨s, hs, List.mem_map_of_mem hr⟩))]
theorem kept_mem {l : List Rg} {x : Int} : x ∈ chgR l ↔ (∃ r ∈ l, hasD r = true ∧ (x = r.1 ∨ x = r.2)) ∧ 1 ≤ x ∧ x ≤ 109572 := by
  unfold chgR kept
  rw [List.mem_filter, (uniqS_ok _).2, bnd_mem]
  simp only [outD, Bool.not_eq_true', Bool.or_eq_false_iff, decide_eq_false_iff_not]
  constructor
  · rintro ⟨h, h1, h2⟩; exact ⟨h, by omega, by omega⟩
  · rintro ⟨h, h1, h2⟩; exact ⟨h, by omega, by omega⟩
theorem cont_same {l : List Rg} {a b : Int} (ha : 0 ≤ a) (hab : a ≤ b) (hb : b ≤ 109572) (hn : ∀ x ∈ chgR l, ¬ (a < x ∧ x ≤ b)) : ∀ r ∈ l, contR r a = contR r b := by
  intro r hr
  rw [Bool.eq_iff_iff, contR_iff, contR_iff]
  have h1 : hasD r = true → 1 ≤ r.1 → r.1 ≤ 109572 → ¬ (a < r.1 ∧ r.1 ≤ b) := fun q q1 q2 => hn r.1 (kept_mem.2 ⟨⟨r, hr, q, .inl rfl⟩, q1, q2⟩)
  have h2 : hasD r = true → 1 ≤ r.2 → r.2 ≤ 109572 → ¬ (a < r.2 ∧ r.2 ≤ b) := fun q q1 q2 => hn r.2 (kept_mem.2 ⟨⟨r, hr, q, .inr rfl⟩, q1, q2⟩)
  rw [hasD_iff] at h1 h2
  constructor
  · rintro ⟨p1, p2, p3, p4⟩
    refine ⟨p1, p2, by omega, ?_⟩
    rcases Int.lt_or_le b r.2 with q | q
    · exact q
    · exact absurd ⟨p4, q⟩ (h2 ⟨by omega, by omega, by omega⟩ (by omega) (by omega))
  · rintro ⟨p1, p2, p3, p4⟩
    refine ⟨p1, p2, ?_, by omega⟩
    rcases Int.lt_or_le a r.1 with q | q
    · exact absurd ⟨q, p3⟩ (h1 ⟨by omega, by omega, by omega⟩ (by omega) (by omega))
    · exact q
/-- a law restricted -/
theorem rowsOn_all {d : Int} {l : List TRow} : ∀ r ∈ rowsOn d l, r.1 = allD := by
  intro r hr; unfold rowsOn at hr; rw [List.mem_map] at hr; obtain ⟨x, _, rfl⟩ := hr; rfl
theorem rulOn_all {f : TRule → Bool} {l : List TRule} : ∀ r ∈ rulOn f l, r.2.2.2.2.1 = allD := by
  intro r hr; unfold rulOn at hr; rw [List.mem_map] at hr
  obtain ⟨i, hi, rfl⟩ := hr
  have := keepAt_lt (idxs_mem.1 hi).2
  simp [ruleAt, this]
theorem rngL_all {d : Int} {l : TLaw} : ∀ r ∈ rngL (lawOn d l), r = allD := by
  intro r hr
  rcases List.mem_append.1 hr with h | h
  · obtain ⟨t, ht, hr⟩ := List.mem_flatMap.1 h
    obtain ⟨t0, _, rfl⟩ := List.mem_map.1 ht
    obtain ⟨x, hx, rfl⟩ := List.mem_map.1 hr
    exact rowsOn_all x hx
  · obtain ⟨s, hs, hr⟩ := List.mem_flatMap.1 h
    obtain ⟨s0, _, rfl⟩ := List.mem_map.1 hs
    obtain ⟨x, hx, rfl⟩ := List.mem_map.1 hr
    exact rulOn_all x hx
theorem chg_on {d : Int} {l : TLaw} : chgR (rngL (lawOn d l)) = [] := by
  rw [List.eq_nil_iff_forall_not_mem]
  intro x hx
  obtain ⟨⟨r, hr, _, h⟩, h1, h2⟩ := kept_mem.1 hx
  rw [rngL_all r hr] at h
  simp only [allD] at h; omega
theorem cont_all {b : Int} (h0 : 0 ≤ b) (h1 : b ≤ 109572) : contR allD b = true := by rw [contR_iff]; simp only [allD]; omega
theorem rowsOn_fix {b : Int} (h0 : 0 ≤ b) (h1 : b ≤ 109572) {l : List TRow} (h : ∀ r ∈ l, r.1 = allD) : rowsOn b l = l := by
  unfold rowsOn
  rw [List.filter_eq_self.2 (fun r hr => by rw [h r hr]; exact cont_all h0 h1)]
  conv => rhs; rw [← List.map_id l]
  exact List.map_congr_left (fun r hr => by rw [← h r hr]; rfl)
theorem idxs_full {f : TRule → Bool} {l : List TRule} (h : ∀ r ∈ l, f r = true) : ∀ {k : Nat}, k ≤ l.length → idxs f l k = List.range k := fun {k} hk => by
  unfold idxs; rw [List.filter_eq_self]
  intro i hi; rw [keepAt_get (by simp at hi; omega)]; exact h _ (List.getElem_mem _)
theorem anc_full {f : TRule → Bool} {l : List TRule} (h : ∀ r ∈ l, f r = true) {k : Nat} (hk : k < l.length) (hp : -1 ≤ l[k].2.2.1 ∧ l[k].2.2.1 < (k : Int)) : anc f l k = l[k].2.2.1 := by
  have e := parAt_get hk
  by_cases q : 0 ≤ l[k].2.2.1
  · rw [anc_t (by rw [e]; exact ⟨q, hp.2⟩), e]
    unfold nr; rw [keepAt_get (by omega), if_pos (h _ (List.getElem_mem _)), idxs_full h (by omega)]
    simp; omega
  · rw [anc_f (by rw [e]; omega)]; omega
theorem rulOn_fix {f : TRule → Bool} {l : List TRule} (h : ∀ r ∈ l, f r = true) (hv : ∀ r ∈ l, r.2.2.2.2.1 = allD) (hp : ∀ (k : Nat) (hk : k < l.length), -1 ≤ l[k].2.2.1 ∧ l[k].2.2.1 < (k : Int)) : rulOn f l = l := by
  unfold rulOn; rw [idxs_full h (Nat.le_refl _)]
  refine List.ext_getElem (by simp) fun i h1 h2 => ?_
  rw [List.getElem_map, List.getElem_range]
  simp only [ruleAt, List.getElem?_eq_getElem h2]
  rw [anc_full h h2 (hp i h2), ← hv _ (List.getElem_mem h2)]
theorem rulOn_par {f : TRule → Bool} {l : List TRule} : ∀ (k : Nat) (hk : k < (rulOn f l).length), -1 ≤ (rulOn f l)[k].2.2.1 ∧ (rulOn f l)[k].2.2.1 < (k : Int) := by
  intro k hk
  have hk2 : k < (idxs f l l.length).length := by unfold rulOn at hk; simpa using hk
  have g := idxs_get_lt hk2
  have e0 : (rulOn f l)[k]? = some (ruleAt f l (idxs f l l.length)[k]) := by unfold rulOn; rw [List.getElem?_map, List.getElem?_eq_getElem hk2]; rfl
  rw [List.getElem?_eq_getElem hk] at e0
  injection e0 with e0
  have e : (rulOn f l)[k].2.2.1 = anc f l (idxs f l l.length)[k] := by rw [e0]; simp [ruleAt, g]
  rw [e]
  have h1 := anc_range f l (idxs f l l.length)[k]
  rw [idxs_pos hk2] at h1; exact h1
theorem lawOn_fix {a b : Int} (h0 : 0 ≤ b) (h1 : b ≤ 109572) (l : TLaw) : lawOn b (lawOn a l) = lawOn a l := by
  unfold lawOn
  simp only [List.map_map]
  congr 2
  · refine List.map_congr_left fun t _ => ?_
    show tabOn b (tabOn a t) = tabOn a t
    unfold tabOn; simp only; rw [rowsOn_fix h0 h1 rowsOn_all]
  · refine List.map_congr_left fun s _ => ?_
    show scpOn b (scpOn a s) = scpOn a s
    unfold scpOn; simp only
    rw [rulOn_fix (fun r hr => by unfold fA; rw [rulOn_all r hr]; exact cont_all h0 h1) rulOn_all rulOn_par]
theorem rulOn_len (f : TRule → Bool) (l : List TRule) : (rulOn f l).length ≤ l.length := by unfold rulOn; rw [List.length_map]; exact idxs_len f l _
theorem rulOn_mem {f : TRule → Bool} {l : List TRule} {r : TRule} (h : r ∈ rulOn f l) : ∃ r0 ∈ l, r.2.2.2.2.2 = r0.2.2.2.2.2 := by
  unfold rulOn at h; obtain ⟨i, hi, rfl⟩ := List.mem_map.1 h
  have g := keepAt_lt (idxs_mem.1 hi).2
  exact ⟨l[i], List.getElem_mem g, by simp [ruleAt, g]⟩
theorem scpOn_lim {d : Int} {s : TScope} (h : SLim s) : SLim (scpOn d s) := by
  obtain ⟨h1, h2, h3, h4⟩ := h
  refine ⟨h1, h2, Nat.le_trans (rulOn_len _ _) h3, fun r hr => ?_⟩
  obtain ⟨r0, hr0, e⟩ := rulOn_mem hr
  have := h4 r0 hr0
  rw [← e] at this; exact this
theorem lawOn_lim {d : Int} {l : TLaw} (h : LLim l) : LLim (lawOn d l) := by
  obtain ⟨hE, ⟨hT1, hT2⟩, hS1, hS2⟩ := h
  refine ⟨hE, ⟨by simpa [lawOn] using hT1, fun t ht => ?_⟩, by simpa [lawOn] using hS1, fun s hs => ?_⟩
  · obtain ⟨t0, h0, rfl⟩ := List.mem_map.1 ht
    exact Nat.le_trans (rowsOn_len _ _) (hT2 t0 h0)
  · obtain ⟨s0, h0, rfl⟩ := List.mem_map.1 hs
    exact scpOn_lim (hS2 s0 h0)
theorem flat_le {α : Type} {g h : α → List Rg} : ∀ {xs : List α}, (∀ x ∈ xs, (g x).length ≤ (h x).length) → (xs.flatMap g).length ≤ (xs.flatMap h).length
  | [], _ => Nat.le_refl _
  | x :: xs, q => by
    have h1 := q x (by simp)
    have h2 := flat_le (xs := xs) (fun y hy => q y (by simp [hy]))
    simp only [List.flatMap_cons, List.length_append]; omega
theorem rngL_on (d : Int) (l : TLaw) : (rngL (lawOn d l)).length ≤ (rngL l).length := by
  unfold rngL lawOn
  simp only [List.length_append, List.flatMap_map]
  have h1 := flat_le (g := fun t => tvR (tabOn d t)) (h := tvR) (xs := l.2.1) (fun t _ => by simp only [tvR, List.length_map, tabOn]; exact rowsOn_len _ _)
  have h2 := flat_le (g := fun s => svR (scpOn d s)) (h := svR) (xs := l.2.2) (fun s _ => by simp only [svR, List.length_map, scpOn]; exact rulOn_len _ _)
  exact Nat.add_le_add h1 h2
/-- the rules of a definition, before and behind the restriction -/
theorem pick_eq (P : Nat → Bool) : ∀ (L : List Nat), ((List.range L.length).filter (fun j => P (L.getD j 0))).map (fun j => L.getD j 0) = L.filter P := by
  intro L
  have h : ∀ k, k ≤ L.length → ((List.range k).filter (fun j => P (L.getD j 0))).map (fun j => L.getD j 0) = (L.take k).filter P := by
    intro k
    induction k with
    | zero => intro _; simp
    | succ k ih =>
      intro hk
      have e : L.getD k 0 = L[k] := by rw [List.getD_eq_getElem?_getD, List.getElem?_eq_getElem (by omega)]; rfl
      rw [List.range_succ, List.filter_append, List.map_append, ih (by omega), List.take_succ_eq_append_getElem (by omega), List.filter_append]
      congr 1
      have e' : L[k]?.getD 0 = L[k] := e
      by_cases q : P L[k] = true
      · simp [List.filter_cons, e', q]
      · simp [List.filter_cons, e', q]
  have := h L.length (Nat.le_refl _)
  rwa [List.take_length] at this
theorem restr {l : List TRule} {d date : Int} (h0 : 0 ≤ date) (h1 : date ≤ 109572) :
    (idxs (fD d date) (rulOn (fA date) l) (rulOn (fA date) l).length).map (fun j => (idxs (fA date) l l.length).getD j 0) = idxs (fD d date) l l.length := by
  have hlen : (rulOn (fA date) l).length = (idxs (fA date) l l.length).length := by unfold rulOn; simp
  have e1 : idxs (fD d date) l l.length = (idxs (fA date) l l.length).filter (keepAt (fD d date) l) := by
    unfold idxs; rw [List.filter_filter]
    refine List.filter_congr fun i hi => ?_
    have hi : i < l.length := by simpa using hi
    rw [keepAt_get hi, keepAt_get hi]; unfold fD fA
    cases contR l[i].2.2.2.2.1 date <;> simp
  rw [e1, ← pick_eq, hlen]
  congr 1
  unfold idxs
  refine List.filter_congr fun j hj => ?_
  have hj : j < (idxs (fA date) l l.length).length := by simpa [idxs] using hj
  have g := idxs_get_lt hj
  have hk := idxs_get_keep hj
  rw [keepAt_get g] at hk
  have e2 : ((List.range l.length).filter (keepAt (fA date) l)).getD j 0 = (idxs (fA date) l l.length)[j] := by
    show (idxs (fA date) l l.length).getD j 0 = _
    rw [List.getD_eq_getElem?_getD, List.getElem?_eq_getElem hj]; rfl
  rw [e2, keepAt_get g, keepAt_get (by rw [hlen]; exact hj)]
  have e3 : (rulOn (fA date) l)[j]'(by rw [hlen]; exact hj) = ruleAt (fA date) l (idxs (fA date) l l.length)[j] := by unfold rulOn; rw [List.getElem_map]
  rw [e3]
  simp only [ruleAt, List.getElem?_eq_getElem g, fD]
  rw [cont_all h0 h1]
  have hk : contR l[(idxs (fA date) l l.length)[j]].2.2.2.2.1 date = true := hk
  rw [hk]
end Go.Proofs.Ythfhekohlmboiaa
