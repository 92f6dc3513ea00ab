import Derived.Test.YtfamnoalgjkjhaaP34t
namespace Go.Proofs.Ytfamnoalgjkjhaa
open Go.Eng
set_option maxHeartbeats 2000000
set_option linter.unusedSimpArgs false
set_option linter.unusedVariables false
/-! ### plain: merged runs of a function of dates -/
abbrev TVP := TValuePeriod
def Has (R : List TVP) (d : Int) (x : TValue) : Prop := ∃ p ∈ R, p.1.1 ≤ d ∧ d < p.1.2 ∧ p.2 = x
def Can (R : List TVP) : Prop := R.Pairwise (fun p q => p.1.2 ≤ q.1.1 ∧ (p.1.2 = q.1.1 → p.2 ≠ q.2)) ∧ ∀ p ∈ R, p.1.1 < p.1.2
theorem has_cons {p : TVP} {R : List TVP} {d : Int} {x : TValue} : Has (p :: R) d x ↔ (p.1.1 ≤ d ∧ d < p.1.2 ∧ p.2 = x) ∨ Has R d x := by
  unfold Has; simp only [List.mem_cons, exists_eq_or_imp]
theorem can_tail {p : TVP} {R : List TVP} (h : Can (p :: R)) : Can R := ⟨(List.pairwise_cons.1 h.1).2, fun q hq => h.2 q (List.mem_cons_of_mem _ hq)⟩
theorem can_head {p : TVP} {R : List TVP} (h : Can (p :: R)) : (∀ q ∈ R, p.1.2 ≤ q.1.1 ∧ (p.1.2 = q.1.1 → p.2 ≠ q.2)) ∧ p.1.1 < p.1.2 := ⟨(List.pairwise_cons.1 h.1).1, h.2 p (List.mem_cons_self ..)⟩
theorem has_tail {p : TVP} {R : List TVP} (h : Can (p :: R)) (d : Int) (x : TValue) : Has R d x ↔ Has (p :: R) d x ∧ p.1.2 ≤ d := by
  rw [has_cons]
  constructor
  · rintro ⟨q, hq, h1, h2, h3⟩
    exact ⟨.inr ⟨q, hq, h1, h2, h3⟩, Int.le_trans ((can_head h).1 q hq).1 h1⟩
  · rintro ⟨h1 | h1, h2⟩
    · omega
    · exact h1
/-- the head of one list begins no later than a date that the other holds -/
theorem can_first {q : TVP} {S : List TVP} (hS : Can (q :: S)) {d : Int} {x : TValue} (h : Has (q :: S) d x) : q.1.1 ≤ d := by
  rcases has_cons.1 h with h | ⟨r, hr, h1, h2, h3⟩
  · exact h.1
  · have := (can_head hS).1 r hr
    have := (can_head hS).2
    omega
theorem can_end {p q : TVP} {R S : List TVP} (hR : Can (p :: R)) (hS : Can (q :: S)) (h : ∀ d x, Has (p :: R) d x ↔ Has (q :: S) d x) (e1 : p.1.1 = q.1.1) (e2 : p.2 = q.2) : ¬ p.1.2 < q.1.2 := by
  intro hlt
  have h1 : Has (q :: S) p.1.2 q.2 := has_cons.2 (.inl ⟨by have := (can_head hR).2; omega, hlt, rfl⟩)
  rcases has_cons.1 ((h _ _).2 h1) with h2 | ⟨r, hr, h2, h3, h4⟩
  · omega
  · have := (can_head hR).1 r hr
    exact this.2 (by omega) (by rw [h4, e2])
theorem can_uniq : ∀ {R S : List TVP}, Can R → Can S → (∀ d x, Has R d x ↔ Has S d x) → R = S
  | [], [], _, _, _ => rfl
  | [], q :: S, _, hS, h => by
    obtain ⟨_, hq, _⟩ := (h q.1.1 q.2).2 (has_cons.2 (.inl ⟨Int.le_refl _, (can_head hS).2, rfl⟩))
    cases hq
  | p :: R, [], hR, _, h => by
    obtain ⟨_, hq, _⟩ := (h p.1.1 p.2).1 (has_cons.2 (.inl ⟨Int.le_refl _, (can_head hR).2, rfl⟩))
    cases hq
  | p :: R, q :: S, hR, hS, h => by
    have hp : Has (p :: R) p.1.1 p.2 := has_cons.2 (.inl ⟨Int.le_refl _, (can_head hR).2, rfl⟩)
    have hq : Has (q :: S) q.1.1 q.2 := has_cons.2 (.inl ⟨Int.le_refl _, (can_head hS).2, rfl⟩)
    have e1 : p.1.1 = q.1.1 := Int.le_antisymm (can_first hR ((h _ _).2 hq)) (can_first hS ((h _ _).1 hp))
    have e2 : p.2 = q.2 := by
      rcases has_cons.1 ((h _ _).1 hp) with h1 | ⟨r, hr, h1, h2, h3⟩
      · exact h1.2.2.symm
      · have := (can_head hS).1 r hr
        have := (can_head hS).2
        omega
    have e3 : p.1.2 = q.1.2 := Int.le_antisymm (Int.not_lt.1 (can_end hS hR (fun d x => (h d x).symm) e1.symm e2.symm)) (Int.not_lt.1 (can_end hR hS h e1 e2))
    have e : p = q := Prod.ext (Prod.ext e1 e3) e2
    subst e
    rw [can_uniq (can_tail hR) (can_tail hS) fun d x => by rw [has_tail hR, has_tail hS, h]]
theorem has_append {R S : List TVP} {d : Int} {x : TValue} : Has (R ++ S) d x ↔ Has R d x ∨ Has S d x := by
  unfold Has; simp only [List.mem_append, or_and_right, exists_or]
/-- the periods of the first n segments: what they hold -/
theorem perF_can {pt : Nat → Int} {v : Nat → Option TValue} : ∀ {n : Nat}, (∀ k, k < n → pt k < pt (k + 1)) → Can (perF pt v n) ∧ (∀ p ∈ perF pt v n, p.1.2 ≤ pt n) ∧ ∀ d x, Has (perF pt v n) d x ↔ ∃ k, k < n ∧ pt k ≤ d ∧ d < pt (k + 1) ∧ v k = some x
  | 0, _ => ⟨⟨by simp [perF], by simp [perF]⟩, by simp [perF], fun d x => ⟨fun ⟨p, hp, _⟩ => by simp [perF] at hp, fun ⟨k, hk, _⟩ => by omega⟩⟩
  | n + 1, hs => by
    obtain ⟨⟨c1, c2⟩, h2, h3⟩ := perF_can (pt := pt) (v := v) (n := n) (fun k hk => hs k (by omega))
    have hn := hs n (by omega)
    have hsplit : ∀ d x, (∃ k, k < n + 1 ∧ pt k ≤ d ∧ d < pt (k + 1) ∧ v k = some x) ↔ Has (perF pt v n) d x ∨ (pt n ≤ d ∧ d < pt (n + 1) ∧ v n = some x) := fun d x => by
      rw [h3]
      constructor
      · rintro ⟨k, hk, q⟩
        by_cases e : k = n
        · subst e; exact .inr q
        · exact .inl ⟨k, by omega, q⟩
      · rintro (⟨k, hk, q⟩ | q)
        · exact ⟨k, by omega, q⟩
        · exact ⟨n, by omega, q⟩
    rw [perF_succ]
    obtain ⟨O, hO⟩ : ∃ O, perF pt v n = O := ⟨_, rfl⟩
    rw [hO] at c1 c2 h2 h3 hsplit ⊢
    cases hv : v n with
    | none =>
      refine ⟨⟨c1, c2⟩, fun p hp => Int.le_of_lt (Int.lt_of_le_of_lt (h2 p hp) hn), fun d x => ?_⟩
      rw [hsplit, hv]; simp [addP]
    | some y =>
      simp only [addP]
      split
      · rename_i hc
        obtain ⟨hl, hb, hy⟩ := hc
        obtain ⟨O', L, rfl⟩ : ∃ O' L, O = O' ++ [L] := ⟨O.dropLast, O.getLast (List.length_pos_iff.1 hl), (List.dropLast_concat_getLast _).symm⟩
        have hg : (O' ++ [L]).getD ((O' ++ [L]).length - 1) ((0, 0), (0, (0, 0))) = L := by simp [List.getD_eq_getElem?_getD]
        rw [hg] at hb hy ⊢
        have hset : (O' ++ [L]).set ((O' ++ [L]).length - 1) ((L.1.1, pt (n + 1)), L.2) = O' ++ [((L.1.1, pt (n + 1)), L.2)] := by
          rw [show (O' ++ [L]).length - 1 = O'.length by simp, List.set_append]; simp
        rw [hset]
        rw [List.pairwise_append] at c1
        have hL := c2 L (by simp)
        refine ⟨⟨List.pairwise_append.2 ⟨c1.1, by simp, fun a ha b hb' => ?_⟩, fun p hp => ?_⟩, fun p hp => ?_, fun d x => ?_⟩
        · obtain rfl := List.mem_singleton.1 hb'
          exact c1.2.2 a ha L (by simp)
        · rcases List.mem_append.1 hp with hp | hp
          · exact c2 p (List.mem_append_left _ hp)
          · obtain rfl := List.mem_singleton.1 hp
            show L.1.1 < pt (n + 1)
            omega
        · rcases List.mem_append.1 hp with hp | hp
          · exact Int.le_of_lt (Int.lt_of_le_of_lt (h2 p (List.mem_append_left _ hp)) hn)
          · obtain rfl := List.mem_singleton.1 hp
            exact Int.le_refl _
        · rw [hsplit, has_append, has_append, hv]
          have e1 : Has [((L.1.1, pt (n + 1)), L.2)] d x ↔ L.1.1 ≤ d ∧ d < pt (n + 1) ∧ L.2 = x := by unfold Has; simp
          have e2 : Has [L] d x ↔ L.1.1 ≤ d ∧ d < L.1.2 ∧ L.2 = x := by unfold Has; simp
          rw [e1, e2]
          constructor
          · rintro (q | ⟨q1, q2, q3⟩)
            · exact .inl (.inl q)
            · by_cases hd : d < pt n
              · exact .inl (.inr ⟨q1, by omega, q3⟩)
              · exact .inr ⟨by omega, q2, by rw [← q3, hy]⟩
          · rintro ((q | ⟨q1, q2, q3⟩) | ⟨q1, q2, q3⟩)
            · exact .inl q
            · exact .inr ⟨q1, by omega, q3⟩
            · injection q3 with q3
              exact .inr ⟨by omega, q2, by rw [hy, q3]⟩
      · rename_i hc
        refine ⟨⟨List.pairwise_append.2 ⟨c1, by simp, fun a ha b hb' => ?_⟩, fun p hp => ?_⟩, fun p hp => ?_, fun d x => ?_⟩
        · obtain rfl := List.mem_singleton.1 hb'
          refine ⟨h2 a ha, fun he hne => hc ?_⟩
          obtain ⟨O', L, rfl⟩ : ∃ O' L, O = O' ++ [L] := ⟨O.dropLast, O.getLast (List.ne_nil_of_mem ha), (List.dropLast_concat_getLast _).symm⟩
          have hg : (O' ++ [L]).getD ((O' ++ [L]).length - 1) ((0, 0), (0, (0, 0))) = L := by simp [List.getD_eq_getElem?_getD]
          rw [hg]
          have haL : a = L := by
            rcases List.mem_append.1 ha with ha | ha
            · rw [List.pairwise_append] at c1
              have w1 := (c1.2.2 a ha L (by simp)).1
              have w2 := c2 L (by simp)
              have w3 := h2 L (by simp)
              have he : a.1.2 = pt n := he
              omega
            · exact List.mem_singleton.1 ha
          subst haL
          exact ⟨by simp, he, hne⟩
        · rcases List.mem_append.1 hp with hp | hp
          · exact c2 p hp
          · obtain rfl := List.mem_singleton.1 hp; exact hn
        · rcases List.mem_append.1 hp with hp | hp
          · exact Int.le_of_lt (Int.lt_of_le_of_lt (h2 p hp) hn)
          · obtain rfl := List.mem_singleton.1 hp; exact Int.le_refl _
        · rw [hsplit, has_append, hv]
          have e1 : Has [((pt n, pt (n + 1)), y)] d x ↔ pt n ≤ d ∧ d < pt (n + 1) ∧ y = x := by unfold Has; simp
          rw [e1]; simp
/-- the points lie in order, the function is constant between them and nothing beyond them: the periods hold the function -/
theorem perF_fun {pt : Nat → Int} {n : Nat} {u : Int → Option TValue} (hs : ∀ k, k < n → pt k < pt (k + 1)) (hc : ∀ k, k < n → ∀ d, pt k ≤ d → d < pt (k + 1) → u d = u (pt k)) (ho : ∀ d x, u d = some x → 0 < n ∧ pt 0 ≤ d ∧ d < pt n) :
    Can (perF pt (fun k => u (pt k)) n) ∧ ∀ d x, Has (perF pt (fun k => u (pt k)) n) d x ↔ u d = some x := by
  obtain ⟨h1, _, h3⟩ := perF_can (pt := pt) (v := fun k => u (pt k)) hs
  refine ⟨h1, fun d x => ?_⟩
  rw [h3]
  constructor
  · rintro ⟨k, hk, q1, q2, q3⟩
    rw [hc k hk d q1 q2]; exact q3
  · intro q
    obtain ⟨_, h4, h5⟩ := ho d x q
    have : ∀ m, m ≤ n → d < pt m → ∃ k, k < m ∧ pt k ≤ d ∧ d < pt (k + 1) := fun m => by
      induction m with
      | zero => intro _ q; omega
      | succ m ih =>
        intro hm hd
        by_cases e : d < pt m
        · obtain ⟨k, hk, z⟩ := ih (by omega) e; exact ⟨k, by omega, z⟩
        · exact ⟨m, by omega, by omega, hd⟩
    obtain ⟨k, hk, q1, q2⟩ := this n (Nat.le_refl _) h5
    exact ⟨k, hk, q1, q2, by rw [← hc k hk d q1 q2]; exact q⟩
/-! ### plain: the best fact -/
theorem bstF_snoc (p : TFact → Bool) (l : List TFact) (f : TFact) : bstF p (l ++ [f]) = stepB p (bstF p l) f := by unfold bstF; rw [List.foldl_append]; rfl
theorem bstF_congr {p q : TFact → Bool} {l : List TFact} (h : ∀ f ∈ l, p f = q f) : bstF p l = bstF q l := by
  induction l using snoc_ind with
  | h0 => rfl
  | h1 l f ih =>
    rw [bstF_snoc, bstF_snoc, ih fun g hg => h g (by simp [hg])]
    unfold stepB; rw [h f (by simp)]
theorem bstF_filter (p q : TFact → Bool) (l : List TFact) : bstF q (l.filter p) = bstF (fun f => p f && q f) l := by
  induction l using snoc_ind with
  | h0 => rfl
  | h1 l f ih =>
    rw [List.filter_append, bstF_snoc, ← ih]
    cases e : p f
    · simp [stepB, e]
    · rw [show [f].filter p = [f] by simp [e], bstF_snoc]; simp [stepB, e]
theorem bstF_max (p : TFact → Bool) (l : List TFact) : (match bstF p l with | none => ∀ f ∈ l, p f = false | some f => f ∈ l ∧ p f = true ∧ ∀ g ∈ l, p g = true → winB g f = false) := by
  induction l using snoc_ind with
  | h0 => simp [bstF]
  | h1 l f ih =>
    rw [bstF_snoc]
    unfold stepB
    have irr : ∀ g, winB g g = false := fun g => by unfold winB; simp
    have tr : ∀ a b c, winB a b = false → winB b c = false → winB a c = false := fun a b c h1 h2 => by
      have := cmpW_ok.1 c b a (by rw [leW, h2]; rfl) (by rw [leW, h1]; rfl)
      rw [leW] at this; simpa using this
    have asy : ∀ a b, winB a b = true → winB b a = false := fun a b h => by
      have := cmpW_ok.2 a b
      rw [leW, leW, h] at this; simpa using this
    cases e : bstF p l with
    | none =>
      rw [e] at ih
      simp only at ih ⊢
      cases ep : p f
      · simp only [Bool.false_eq_true, if_false]
        intro g hg
        rcases List.mem_append.1 hg with hg | hg
        · exact ih g hg
        · obtain rfl := List.mem_singleton.1 hg; exact ep
      · simp only [if_true]
        refine ⟨by simp, ep, fun g hg hp => ?_⟩
        rcases List.mem_append.1 hg with hg | hg
        · rw [ih g hg] at hp; cases hp
        · obtain rfl := List.mem_singleton.1 hg; exact irr _
    | some c =>
      rw [e] at ih
      simp only at ih ⊢
      obtain ⟨i1, i2, i3⟩ := ih
      cases ep : p f
      · simp only [Bool.false_eq_true, if_false]
        refine ⟨by simp [i1], i2, fun g hg hp => ?_⟩
        rcases List.mem_append.1 hg with hg | hg
        · exact i3 g hg hp
        · obtain rfl := List.mem_singleton.1 hg; rw [ep] at hp; cases hp
      · simp only [if_true]
        cases ew : winB f c
        · simp only [Bool.false_eq_true, if_false]
          refine ⟨by simp [i1], i2, fun g hg hp => ?_⟩
          rcases List.mem_append.1 hg with hg | hg
          · exact i3 g hg hp
          · obtain rfl := List.mem_singleton.1 hg; exact ew
        · simp only [if_true]
          refine ⟨by simp, ep, fun g hg hp => ?_⟩
          rcases List.mem_append.1 hg with hg | hg
          · exact tr _ _ _ (i3 g hg hp) (asy _ _ ew)
          · obtain rfl := List.mem_singleton.1 hg; exact irr _
/-- the first fact in the order of precedence that counts is the best -/
theorem find_ssort (q : TFact → Bool) (l : List TFact) : (ssort (leF cmpW) l).find? q = bstF q l := by
  induction l using snoc_ind with
  | h0 => rfl
  | h1 l x ih =>
    rw [ssort_snoc, bstF_snoc, ← ih]
    have tr := cmpW_ok.1
    have hs := ssort_sorted (le := leF cmpW) tr cmpW_ok.2 l
    obtain ⟨S, hS⟩ : ∃ S, ssort (leF cmpW) l = S := ⟨_, rfl⟩
    rw [hS] at hs ⊢
    clear ih hS
    -- the elements that stand before x
    have hsp : ∃ S1 S2, S = S1 ++ S2 ∧ (∀ s ∈ S1, leF cmpW s x = true) ∧ ∀ s ∈ S2, leF cmpW s x = false := by
      induction S with
      | nil => exact ⟨[], [], rfl, by simp, by simp⟩
      | cons y S ih =>
        rw [List.pairwise_cons] at hs
        cases e : leF cmpW y x
        · refine ⟨[], y :: S, rfl, by simp, fun s hs' => ?_⟩
          rcases List.mem_cons.1 hs' with rfl | hs'
          · exact e
          · cases e2 : leF cmpW s x
            · rfl
            · rw [tr _ _ _ (hs.1 s hs') e2] at e; cases e
        · obtain ⟨S1, S2, h1, h2, h3⟩ := ih hs.2
          exact ⟨y :: S1, S2, by rw [h1]; rfl, fun s hs' => by rcases List.mem_cons.1 hs' with rfl | hs'; exact e; exact h2 s hs', h3⟩
    obtain ⟨S1, S2, rfl, h1, h2⟩ := hsp
    rw [merge_one S1 S2 x h1 h2, List.find?_append, List.find?_append, List.find?_cons]
    unfold stepB
    cases e1 : S1.find? q with
    | some y =>
      have hy := h1 y (List.mem_of_find?_eq_some e1)
      rw [leW] at hy
      have hy : winB x y = false := by simpa using hy
      simp only [Option.some_or]
      cases q x <;> simp [hy]
    | none =>
      simp only [Option.none_or]
      cases eq : q x
      · simp
      · simp only [if_true]
        cases e2 : S2.find? q with
        | none => rfl
        | some y =>
          have hy := h2 y (List.mem_of_find?_eq_some e2)
          rw [leW] at hy
          have hy : winB x y = true := by simpa using hy
          simp [hy]
/-- if the Ids differ, only what the list holds matters -/
theorem bstF_same {p : TFact → Bool} {l l' : List TFact} (hd : ∀ a ∈ l, ∀ b ∈ l, a.1 = b.1 → a = b) (h : ∀ f, p f = true → (f ∈ l ↔ f ∈ l')) : bstF p l = bstF p l' := by
  have h1 := bstF_max p l
  have h2 := bstF_max p l'
  cases e1 : bstF p l with
  | none =>
    rw [e1] at h1
    cases e2 : bstF p l' with
    | none => rfl
    | some g =>
      rw [e2] at h2
      simp only at h1 h2
      have := h1 g ((h g h2.2.1).2 h2.1)
      rw [h2.2.1] at this; cases this
  | some f =>
    rw [e1] at h1
    cases e2 : bstF p l' with
    | none =>
      rw [e2] at h2
      simp only at h1 h2
      have := h2 f ((h f h1.2.1).1 h1.1)
      rw [h1.2.1] at this; cases this
    | some g =>
      rw [e2] at h2
      simp only at h1 h2
      have a1 := h1.2.2 g ((h g h2.2.1).2 h2.1) h2.2.1
      have a2 := h2.2.2 f ((h f h1.2.1).1 h1.1) h1.2.1
      rw [hd f h1.1 g ((h g h2.2.1).2 h2.1)]
      unfold winB at a1 a2
      split at a1 <;> split at a2 <;> simp at a1 a2 <;> omega
theorem dist_inj {l : List TFact} (h : distF l l.length = true) : ∀ a ∈ l, ∀ b ∈ l, a.1 = b.1 → a = b := by
  have key : ∀ i j (hi : i < l.length) (hj : j < l.length), i < j → l[i].1 = l[j].1 → False := fun i j hi hj hij e => by
    unfold distF at h
    rw [List.all_eq_true] at h
    have := h j (by simpa using hj)
    rw [getF hj] at this
    have hd : dupB l j l[j].1 = true := by
      unfold dupB
      rw [List.any_eq_true]
      exact ⟨l[i], List.mem_iff_getElem.2 ⟨i, by simp; omega, by simp⟩, by simpa using e⟩
    rw [hd] at this; simp at this
  intro a ha b hb e
  obtain ⟨i, hi, rfl⟩ := List.mem_iff_getElem.1 ha
  obtain ⟨j, hj, rfl⟩ := List.mem_iff_getElem.1 hb
  rcases Nat.lt_trichotomy i j with q | q | q
  · exact (key i j hi hj q e).elim
  · subst q; rfl
  · exact (key j i hj hi q e.symm).elim
theorem relF_rec {m i d r : Int} {f : TFact} (h : relF m i d r f = true) : f.2.2.2.2.2 ≤ r := by unfold relF at h; simp at h; exact h.1.2
theorem best_rev {l : List TFact} (h : distF l l.length = true) (p : TFact → Bool) : bstF p l.reverse = bstF p l := (bstF_same (dist_inj h) fun f _ => by simp).symm
theorem best_known {l : List TFact} (h : distF l l.length = true) (m i d r : Int) : bstF (relF m i d r) (l.reverse.filter fun f => decide (f.2.2.2.2.2 ≤ r)) = bstF (relF m i d r) l := (bstF_same (dist_inj h) fun f hf => by simp [relF_rec hf]).symm
end Go.Proofs.Ytfamnoalgjkjhaa
