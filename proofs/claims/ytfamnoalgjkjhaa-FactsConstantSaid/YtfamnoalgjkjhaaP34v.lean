import Derived.Test.YtfamnoalgjkjhaaP34u
namespace Go.Proofs.Ytfamnoalgjkjhaa
open Go.Eng
set_option maxHeartbeats 2000000
set_option linter.unusedSimpArgs false
set_option linter.unusedVariables false
/-! ### plain: both Timelines are the merged runs of what is known -/
theorem relF_relB (m i d r : Int) (f : TFact) : relF m i d r f = (relB m i r f && contR f.2.2.2.2.1 d) := by
  unfold relF relB
  have : contR f.2.2.2.2.1 d = (hasD f.2.2.2.2.1 && contR f.2.2.2.2.1 d) := by
    cases h : contR f.2.2.2.2.1 d
    · simp
    · have h1 := contR_iff.1 h
      rw [hasD_iff.2 ⟨h1.1, by omega, h1.2.1⟩]; rfl
  rw [this]
  simp only [Bool.and_assoc, Bool.and_self_left]
theorem q_get {Q : List Int} {k : Nat} (h : k < Q.length) : Q.getD k 0 = Q[k] := by rw [List.getD_eq_getElem?_getD, List.getElem?_eq_getElem h]; rfl
theorem q_lt {Q : List Int} (hQ : Q.Pairwise (· < ·)) {i j : Nat} (h : i < j) (hj : j < Q.length) : Q.getD i 0 < Q.getD j 0 := by
  rw [q_get hj, q_get (by omega)]; exact List.pairwise_iff_getElem.1 hQ i j (by omega) hj h
theorem q_le {Q : List Int} (hQ : Q.Pairwise (· < ·)) {i j : Nat} (h : i ≤ j) (hj : j < Q.length) : Q.getD i 0 ≤ Q.getD j 0 := by
  rcases Nat.lt_or_eq_of_le h with h | rfl
  · exact Int.le_of_lt (q_lt hQ h hj)
  · exact Int.le_refl _
theorem q_side {Q : List Int} (hQ : Q.Pairwise (· < ·)) {k : Nat} {d x : Int} (hk : k + 1 < Q.length) (h1 : Q.getD k 0 ≤ d) (h2 : d < Q.getD (k + 1) 0) (hx : x ∈ Q) : x ≤ d ↔ x ≤ Q.getD k 0 := by
  obtain ⟨j, hj, rfl⟩ := List.mem_iff_getElem.1 hx
  rw [← q_get hj]
  by_cases e : j ≤ k
  · have := q_le hQ e (by omega); exact ⟨fun _ => this, fun _ => by omega⟩
  · have := q_le hQ (show k + 1 ≤ j by omega) hj
    have := q_lt hQ (show k < k + 1 by omega) hk
    omega
def InQ (Q : List Int) (l : List TFact) (m i r : Int) : Prop := ∀ f ∈ l, relB m i r f = true → f.2.2.2.2.1.1 ∈ Q ∧ f.2.2.2.2.1.2 ∈ Q
theorem rel_seg {Q : List Int} (hQ : Q.Pairwise (· < ·)) {l : List TFact} {m i r : Int} (hin : InQ Q l m i r) {k : Nat} {d : Int} (hk : k + 1 < Q.length) (h1 : Q.getD k 0 ≤ d) (h2 : d < Q.getD (k + 1) 0) : ∀ f ∈ l, relF m i d r f = relF m i (Q.getD k 0) r f := fun f hf => by
  rw [relF_relB, relF_relB]
  cases e : relB m i r f
  · rfl
  · obtain ⟨q1, q2⟩ := hin f hf e
    have a1 := q_side hQ hk h1 h2 q1
    have a2 := q_side hQ hk h1 h2 q2
    simp only [Bool.true_and, contR]
    rw [show decide (f.2.2.2.2.1.1 ≤ d) = decide (f.2.2.2.2.1.1 ≤ Q.getD k 0) from decide_eq_decide.2 a1, show decide (d < f.2.2.2.2.1.2) = decide (Q.getD k 0 < f.2.2.2.2.1.2) from decide_eq_decide.2 (by omega)]
theorem asV_rel {l : List TFact} {m i r d : Int} {x : TValue} (h : asV l m i r d = some x) : ∃ f ∈ l, relF m i d r f = true := by
  unfold asV at h
  have := bstF_max (relF m i d r) l
  cases e : bstF (relF m i d r) l with
  | none => rw [e] at h; cases h
  | some f => rw [e] at this; exact ⟨f, this.1, this.2.1⟩
theorem perQ {Q : List Int} (hQ : Q.Pairwise (· < ·)) {l : List TFact} {m i r : Int} (hin : InQ Q l m i r) :
    Can (perF (fun k => Q.getD k 0) (fun k => asV l m i r (Q.getD k 0)) (Q.length - 1)) ∧ ∀ d x, Has (perF (fun k => Q.getD k 0) (fun k => asV l m i r (Q.getD k 0)) (Q.length - 1)) d x ↔ asV l m i r d = some x := by
  refine perF_fun (pt := fun k => Q.getD k 0) (u := asV l m i r) (fun k hk => q_lt hQ (by omega) (by omega)) (fun k hk d h1 h2 => ?_) fun d x h => ?_
  · unfold asV; rw [bstF_congr (rel_seg hQ hin (by omega) h1 h2)]
  · obtain ⟨f, hf, hr⟩ := asV_rel h
    rw [relF_relB, Bool.and_eq_true] at hr
    obtain ⟨q1, q2⟩ := hin f hf hr.1
    have h3 := contR_iff.1 hr.2
    obtain ⟨a, ha, e1⟩ := List.mem_iff_getElem.1 q1
    obtain ⟨b, hb, e2⟩ := List.mem_iff_getElem.1 q2
    rw [← q_get ha] at e1
    rw [← q_get hb] at e2
    have w1 := q_le hQ (Nat.zero_le a) ha
    have w2 := q_le hQ (show b ≤ Q.length - 1 by omega) (by omega)
    have w3 : a < b := by
      rcases Nat.lt_or_ge a b with z | z
      · exact z
      · have := q_le hQ z ha; omega
    exact ⟨by omega, by show Q.getD 0 0 ≤ d; omega, by show d < Q.getD (Q.length - 1) 0; omega⟩
theorem perF_congr {pt pt' : Nat → Int} {v v' : Nat → Option TValue} : ∀ {n : Nat}, (∀ k, k ≤ n → pt k = pt' k) → (∀ k, k < n → v k = v' k) → perF pt v n = perF pt' v' n
  | 0, _, _ => rfl
  | n + 1, h1, h2 => by rw [perF_succ, perF_succ, perF_congr (n := n) (fun k hk => h1 k (by omega)) (fun k hk => h2 k (by omega)), h1 n (by omega), h1 (n + 1) (by omega), h2 n (by omega)]
/-! the reference's points -/
theorem pts_mem {r : Int} {l : List TFact} {x : Int} : x ∈ chgF r l ↔ ∃ f ∈ l, f.2.2.2.2.2 ≤ r ∧ hasD f.2.2.2.2.1 = true ∧ ((x = f.2.2.2.2.1.1 ∧ 1 ≤ x) ∨ (x = f.2.2.2.2.1.2 ∧ x ≤ 109572)) := by
  unfold chgF
  rw [(uniqS_ok _).2]
  unfold ptsL
  rw [List.mem_flatMap]
  constructor
  · rintro ⟨f, hf, hx⟩
    unfold ptsF at hx
    split at hx
    · rename_i hq
      refine ⟨f, hf, hq.1, hq.2, ?_⟩
      rcases List.mem_append.1 hx with hx | hx
      · split at hx
        · rename_i h1; obtain rfl := List.mem_singleton.1 hx; exact .inl ⟨rfl, h1⟩
        · cases hx
      · split at hx
        · rename_i h1; obtain rfl := List.mem_singleton.1 hx; exact .inr ⟨rfl, h1⟩
        · cases hx
    · cases hx
  · rintro ⟨f, hf, h1, h2, h3⟩
    refine ⟨f, hf, ?_⟩
    unfold ptsF
    rw [if_pos ⟨h1, h2⟩]
    rcases h3 with ⟨rfl, h3⟩ | ⟨rfl, h3⟩
    · rw [if_pos h3]; simp
    · rw [if_pos h3]; simp
theorem chg_range {r : Int} {l : List TFact} {x : Int} (h : x ∈ chgF r l) : 1 ≤ x ∧ x ≤ 109572 := by
  obtain ⟨f, _, _, h2, h3⟩ := pts_mem.1 h
  have := hasD_iff.1 h2
  rcases h3 with ⟨rfl, h3⟩ | ⟨rfl, h3⟩ <;> omega
def qR (r : Int) (l : List TFact) : List Int := 0 :: (chgF r l ++ [109573])
theorem qR_sorted (r : Int) (l : List TFact) : (qR r l).Pairwise (· < ·) := by
  refine List.pairwise_cons.2 ⟨fun x hx => ?_, List.pairwise_append.2 ⟨(uniqS_ok _).1, by simp, fun a ha b hb => ?_⟩⟩
  · rcases List.mem_append.1 hx with hx | hx
    · have := chg_range hx; omega
    · simp at hx; omega
  · have := chg_range ha; simp at hb; omega
theorem qR_in (r : Int) (l : List TFact) (m i : Int) : InQ (qR r l) l m i r := fun f hf hr => by
  unfold relB at hr
  simp only [Bool.and_eq_true, decide_eq_true_eq] at hr
  have hd := hasD_iff.1 hr.2
  constructor
  · by_cases e : 1 ≤ f.2.2.2.2.1.1
    · exact List.mem_cons_of_mem _ (List.mem_append_left _ (pts_mem.2 ⟨f, hf, hr.1.2, hr.2, .inl ⟨rfl, e⟩⟩))
    · rw [show f.2.2.2.2.1.1 = 0 by omega]; exact List.mem_cons_self ..
  · by_cases e : f.2.2.2.2.1.2 ≤ 109572
    · exact List.mem_cons_of_mem _ (List.mem_append_left _ (pts_mem.2 ⟨f, hf, hr.1.2, hr.2, .inr ⟨rfl, e⟩⟩))
    · rw [show f.2.2.2.2.1.2 = 109573 by omega]; simp [qR]
theorem qR_len (r : Int) (l : List TFact) : (qR r l).length = (chgF r l).length + 2 := by unfold qR; simp
theorem ptR_q {r : Int} {l : List TFact} {k : Nat} (h : k ≤ 1 + (chgF r l).length) : ptR r l k = (qR r l).getD k 0 := by
  unfold ptR qR
  cases k with
  | zero => rfl
  | succ k =>
    simp only [List.getD_eq_getElem?_getD, List.getElem?_cons_succ, List.getElem?_append]
    split
    · rename_i h1; rw [List.getElem?_eq_getElem h1]; rfl
    · rename_i h1
      rw [show k = (chgF r l).length by omega, List.getElem?_eq_none (Nat.le_refl _)]; simp
theorem timR_ok (l : List TFact) (m i r : Int) : Can (timR l m i r) ∧ ∀ d x, Has (timR l m i r) d x ↔ asV l m i r d = some x := by
  have h := perQ (qR_sorted r l) (qR_in r l m i)
  rw [qR_len] at h
  unfold timR
  rw [perF_congr (n := 1 + (chgF r l).length) (pt' := fun k => (qR r l).getD k 0) (v' := fun k => asV l m i r ((qR r l).getD k 0)) (fun k hk => ptR_q hk) (fun k hk => by rw [ptR_q (by omega)]), show 1 + (chgF r l).length = (chgF r l).length + 2 - 1 by omega]
  exact h
/-! the program's points -/
theorem low_iff {B : List Int} (hB : B.Pairwise (· < ·)) {s : Nat} (hs : s < B.length) (t : Int) : s < lowB B t ↔ B.getD s 0 < t := by
  have hle : SortI B := hB.imp Int.le_of_lt
  rw [q_get hs]
  unfold lowB
  constructor
  · intro h
    apply Decidable.byContradiction
    intro hc
    have : B.countP (fun x => decide (x < t)) ≤ s := by
      rw [← List.take_append_drop s B, List.countP_append]
      have e2 : (B.drop s).countP (fun x => decide (x < t)) = 0 := by
        rw [List.countP_eq_zero]
        intro x hx
        obtain ⟨j, hj, rfl⟩ := List.mem_iff_getElem.1 hx
        simp at hj
        have := sortI_le hle (show s ≤ s + j by omega) hs (by omega)
        simp; omega
      have e1 := List.countP_le_length (p := fun x => decide (x < t)) (l := B.take s)
      simp at e1
      rw [e2]; omega
    omega
  · intro h
    have : s + 1 ≤ B.countP (fun x => decide (x < t)) := by
      rw [← List.take_append_drop (s + 1) B, List.countP_append]
      have e1 : (B.take (s + 1)).countP (fun x => decide (x < t)) = s + 1 := by
        rw [List.countP_eq_length.2 (fun x hx => ?_)]
        · simp; omega
        · obtain ⟨j, hj, rfl⟩ := List.mem_iff_getElem.1 hx
          simp at hj
          have := sortI_le hle (show j ≤ s by omega) (by omega) hs
          simp; omega
      omega
    omega
theorem covF_eq {B : List Int} (hB : B.Pairwise (· < ·)) {f : TFact} {s : Nat} (hs : s < B.length) (hf : hasD f.2.2.2.2.1 = true) : covF B f s = contR f.2.2.2.2.1 (B.getD s 0) := by
  have h1 := low_iff hB hs f.2.2.2.2.1.1
  have h2 := low_iff hB hs f.2.2.2.2.1.2
  have h3 := hasD_iff.1 hf
  rw [Bool.eq_iff_iff, contR_iff]
  unfold covF
  rw [Bool.and_eq_true, decide_eq_true_eq, decide_eq_true_eq]
  omega
theorem srt_rel {m i r : Int} {l : List TFact} {f : TFact} (h : f ∈ srtF m i r l) : hasD f.2.2.2.2.1 = true := by
  have := (List.mem_filter.1 (ssort_mem.1 h)).2
  unfold relB at this; simp at this; exact this.2
theorem segV_find {B : List Int} {S : List TFact} {s : Nat} : segV S (fstW B S s) = (S.find? fun f => covF B f s).map fun f => f.2.2.2.1 := by
  unfold fstW segV
  cases e : S.findIdx? fun f => covF B f s with
  | none =>
    rw [List.findIdx?_eq_none_iff] at e
    rw [List.find?_eq_none.2 (fun f hf => by rw [e f hf]; simp)]
    rfl
  | some j =>
    obtain ⟨h1, h2, h3⟩ := List.findIdx?_eq_some_iff_getElem.1 e
    simp only
    rw [if_neg (by omega)]
    have : S.find? (fun f => covF B f s) = some S[j] := by
      rw [List.find?_eq_some_iff_getElem]
      exact ⟨h2, j, h1, rfl, fun k hk => by have := h3 k hk; simpa using this⟩
    rw [this, Int.toNat_natCast, List.getD_eq_getElem?_getD, List.getElem?_eq_getElem h1]; rfl
theorem find_congr {S : List TFact} {p q : TFact → Bool} (h : ∀ f ∈ S, p f = q f) : S.find? p = S.find? q := by
  induction S with
  | nil => rfl
  | cons x S ih => rw [List.find?_cons, List.find?_cons, h x (by simp), ih fun f hf => h f (by simp [hf])]
theorem bndF_in (m i r : Int) (l : List TFact) : InQ (bndF m i r l) l m i r := fun f hf hr => by
  have hd : hasD f.2.2.2.2.1 = true := by unfold relB at hr; simp at hr; exact hr.2
  have hm : f.2.2.2.2.1 ∈ rngB (relB m i r) l := List.mem_map.2 ⟨f, List.mem_filter.2 ⟨hf, hr⟩, rfl⟩
  unfold bndF
  rw [(uniqS_ok _).2, (uniqS_ok _).2, bnd_mem, bnd_mem]
  exact ⟨⟨_, hm, hd, .inl rfl⟩, ⟨_, hm, hd, .inr rfl⟩⟩
theorem seg_as {m i r : Int} {l : List TFact} {k : Nat} (hk : k < (winL (bndF m i r l) (srtF m i r l)).length) : segV (srtF m i r l) ((winL (bndF m i r l) (srtF m i r l)).getD k 0) = asV l m i r ((bndF m i r l).getD k 0) := by
  rw [q_get hk]
  rw [win_len] at hk
  have hB : (bndF m i r l).Pairwise (· < ·) := (uniqS_ok _).1
  rw [show (winL (bndF m i r l) (srtF m i r l))[k]'(by rw [win_len]; exact hk) = fstW (bndF m i r l) (srtF m i r l) k from by unfold winL; simp]
  rw [segV_find, find_congr (q := fun f => contR f.2.2.2.2.1 ((bndF m i r l).getD k 0)) (fun f hf => covF_eq hB (by omega) (srt_rel hf))]
  unfold srtF asV
  rw [find_ssort, bstF_filter]
  exact congrArg (Option.map _) (bstF_congr fun f _ => (relF_relB m i _ r f).symm)
theorem timF_ok (l : List TFact) (m i r : Int) : Can (timF l m i r) ∧ ∀ d x, Has (timF l m i r) d x ↔ asV l m i r d = some x := by
  unfold timF
  split
  · rename_i h0
    refine ⟨⟨by simp, by simp⟩, fun d x => ⟨fun ⟨p, hp, _⟩ => (by cases hp), fun h => ?_⟩⟩
    obtain ⟨f, hf, hr⟩ := asV_rel h
    rw [relF_relB, Bool.and_eq_true] at hr
    have := List.mem_filter.2 ⟨hf, hr.1⟩
    rw [List.length_eq_zero_iff.1 h0] at this
    cases this
  · have h := perQ (uniqS_ok (bnd (rngB (relB m i r) l))).1 (bndF_in m i r l)
    rw [perF_congr (pt' := fun k => (bndF m i r l).getD k 0) (v' := fun k => asV l m i r ((bndF m i r l).getD k 0)) (fun k _ => rfl) (fun k hk => seg_as hk), win_len]
    exact h
/-- the two Timelines agree -/
theorem tim_eq (l : List TFact) (m i r : Int) : timF l m i r = timR l m i r :=
  can_uniq (timF_ok l m i r).1 (timR_ok l m i r).1 fun d x => by rw [(timF_ok l m i r).2, (timR_ok l m i r).2]
/-! what FactsConstant asks -/
theorem seg_same {l : List TFact} {m i r d : Int} {k : Nat} (hk : k < 1 + (chgF r l).length) (h1 : ptR r l k ≤ d) (h2 : d < ptR r l (k + 1)) : bstF (relF m i (ptR r l k) r) l = bstF (relF m i d r) l := by
  rw [ptR_q (by omega)] at h1 h2 ⊢
  exact (bstF_congr (rel_seg (qR_sorted r l) (qR_in r l m i) (by rw [qR_len]; omega) h1 h2)).symm
/-- the periods before p do not hold the date if p does -/
theorem can_one {R : List TVP} (hc : Can R) {j k : Nat} {d : Int} (hk : k < R.length) (hj : j < k) (h1 : R[j].1.1 ≤ d) (h2 : d < R[j].1.2) (h3 : R[k].1.1 ≤ d) : False := by
  have := (List.pairwise_iff_getElem.1 hc.1 j k (by omega) hk hj).1
  omega
theorem has_at {l : List TFact} {m i r d : Int} {k : Nat} (hk : k < (timF l m i r).length) (h1 : (timF l m i r)[k].1.1 ≤ d) (h2 : d < (timF l m i r)[k].1.2) : asV l m i r d = some (timF l m i r)[k].2 :=
  ((timF_ok l m i r).2 _ _).1 ⟨_, List.getElem_mem hk, h1, h2, rfl⟩
theorem as_val {l : List TFact} {m i r d : Int} {x : TValue} (h : asV l m i r d = some x) : (bstF (relF m i d r) l).isSome = true ∧ valO (bstF (relF m i d r) l) = x := by
  unfold asV at h
  cases e : bstF (relF m i d r) l with
  | none => rw [e] at h; cases h
  | some f => rw [e] at h; simp at h; exact ⟨rfl, h⟩
end Go.Proofs.Ytfamnoalgjkjhaa
