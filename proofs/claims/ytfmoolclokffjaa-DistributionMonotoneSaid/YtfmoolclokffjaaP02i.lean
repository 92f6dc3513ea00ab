import Derived.Test.YtfmoolclokffjaaP02f
namespace Go.Proofs.Ytfmoolclokffjaa
open Go.Eng
set_option maxRecDepth 100000
set_option maxHeartbeats 4000000
set_option linter.unusedVariables false
set_option linter.unusedSimpArgs false

open Go.Proofs (ltOf)
open Go.Sort (SWO)
/-- the order: the greater remainder first, of equal ones the earlier -/
def ltA (R : List Int) (x y : Int) : Prop := R.getD y.toNat 0 < R.getD x.toNat 0 ∨ (R.getD x.toNat 0 = R.getD y.toNat 0 ∧ x < y)
theorem ordA_ok (R : List Int) : (ordA R).Perm (iota R.length) ∧ (ordA R).Pairwise (fun x y => ¬ ltA R y x) := by
  unfold ordA
  split
  · rename_i h
    have hp := @pdqL_ok (Fin R.length) ⟨⟨0, h⟩⟩ _ (cmpA_swo R) (Lib.bitLen R.length) (List.finRange R.length)
    refine ⟨?_, ?_⟩
    · have e : iota R.length = (List.finRange R.length).map (fun i => (i.val : Int)) := by rw [← iotaF_n]; simp [iotaF]
      rw [e]; exact hp.1.map _
    · rw [List.pairwise_map]
      refine hp.2.1.imp (fun {i j} h1 h2 => ?_)
      unfold ltOf cmpA at h1
      have h1 := of_decide_eq_false h1
      unfold ltA at h2
      simp only [Int.toNat_natCast] at h1 h2
      split at h1
      · split at h1 <;> omega
      · omega
  · rename_i h
    have : R.length = 0 := by omega
    rw [this]; exact ⟨by simp [iota], by simp⟩
theorem mem_iota {n : Nat} {x : Int} : x ∈ iota n ↔ 0 ≤ x ∧ x < n := by
  unfold iota
  rw [List.mem_map]
  constructor
  · rintro ⟨i, hi, rfl⟩; rw [List.mem_range] at hi; omega
  · intro h; exact ⟨x.toNat, by rw [List.mem_range]; omega, by omega⟩
theorem iota_nodup (n : Nat) : (iota n).Nodup := by
  unfold iota
  rw [List.Nodup, List.pairwise_map]
  exact List.nodup_range.imp (fun h e => h (by omega))
theorem ordA_nodup (R : List Int) : (ordA R).Nodup := (ordA_ok R).1.nodup_iff.2 (iota_nodup _)
/-- who comes ahead of one of the first m is one of them -/
theorem ord_down {R : List Int} {m : Nat} {x y : Int} (hx : x ∈ (ordA R).take m) (hy : 0 ≤ y ∧ y < R.length) (h : ltA R y x) : y ∈ (ordA R).take m := by
  have hp := (ordA_ok R).2
  have hm : y ∈ ordA R := (ordA_ok R).1.mem_iff.2 (mem_iota.2 hy)
  rw [← List.take_append_drop m (ordA R)] at hp hm
  rcases List.mem_append.1 hm with hm | hm
  · exact hm
  · exact absurd h ((List.pairwise_append.1 hp).2.2 x hx y hm)
theorem sumI_append (a b : List Int) : sumI (a ++ b) = sumI a + sumI b := by
  induction a with
  | nil => simp [sumI]
  | cons x a ih => simp only [List.cons_append, sumI, ih]; omega
theorem sumI_perm {a b : List Int} (h : a.Perm b) : sumI a = sumI b := by
  induction h with
  | nil => rfl
  | cons x _ ih => simp only [sumI, ih]
  | swap x y l => simp only [sumI]; omega
  | trans _ _ h1 h2 => rw [h1, h2]
theorem sumI_le {l : List Int} {M : Int} (h : ∀ x ∈ l, x ≤ M) : sumI l ≤ l.length * M := by
  induction l with
  | nil => simp [sumI]
  | cons x l ih =>
    have := ih (fun w hw => h w (by simp [hw])); have := h x (by simp)
    simp only [sumI, List.length_cons, Int.natCast_add, Int.add_mul]; omega
theorem sumI_zero {l : List Int} (h : ∀ x ∈ l, x = 0) : sumI l = 0 := by
  induction l with
  | nil => rfl
  | cons x l ih => simp only [sumI, ih (fun w hw => h w (by simp [hw])), h x (by simp)]; rfl
theorem sumI_iota (R : List Int) : sumI ((iota R.length).map (fun x => R.getD x.toNat 0)) = sumI R := by
  congr 1
  unfold iota
  rw [List.map_map]
  apply List.ext_getElem
  · simp
  · intro i h1 h2; simp [h2]
theorem rA_bd (a S : Nat) (W : List Int) (hS : 0 < S) (j : Nat) : 0 ≤ (W.map (rA a S)).getD j 0 ∧ (W.map (rA a S)).getD j 0 ≤ (S : Int) - 1 := by
  by_cases hj : j < W.length
  · rw [getD_at (by simpa using hj), List.getElem_map]
    unfold rA
    have := Nat.mod_lt (a * W[j].toNat) hS
    omega
  · rw [List.getD_eq_getElem?_getD, List.getElem?_eq_none (by simpa using hj)]; simp; omega
/-- who gets a cent has a remainder -/
theorem bump_pos {c : Int} {W : List Int} (hS : 0 < sumN W) {x : Int} (hx : x ∈ (ordA (W.map (rA c.natAbs (sumN W)))).take (restA c.natAbs (sumN W) W).toNat) : 0 < (W.map (rA c.natAbs (sumN W))).getD x.toNat 0 := by
  obtain ⟨R, hR⟩ : ∃ R, W.map (rA c.natAbs (sumN W)) = R := ⟨_, rfl⟩
  obtain ⟨m, hm⟩ : ∃ m, (restA c.natAbs (sumN W) W).toNat = m := ⟨_, rfl⟩
  have hk := rest_bounds c.natAbs W hS
  have hbd := rA_bd c.natAbs (sumN W) W hS
  rw [hR] at hx hk hbd ⊢
  rw [hm] at hx
  have h3 := hk.2.2
  rw [show restA c.natAbs (sumN W) W = (m : Int) by omega] at h3
  rcases Int.lt_or_le 0 (R.getD x.toNat 0) with h | h
  · exact h
  exfalso
  have h0 : R.getD x.toNat 0 = 0 := by have := hbd x.toNat; omega
  have hm1 : 1 ≤ m := by
    rcases Nat.eq_zero_or_pos m with e | e
    · subst e; simp at hx
    · exact e
  have hp := ordA_ok R
  have hsum : sumI ((ordA R).map (fun x => R.getD x.toNat 0)) = m * (sumN W : Int) := by
    rw [sumI_perm (hp.1.map _), sumI_iota, h3]
  rw [← List.take_append_drop m (ordA R), List.map_append, sumI_append] at hsum
  have hd : sumI (((ordA R).drop m).map (fun x => R.getD x.toNat 0)) = 0 := by
    apply sumI_zero
    intro z hz
    obtain ⟨y, hy, rfl⟩ := List.mem_map.1 hz
    have hpw := hp.2
    rw [← List.take_append_drop m (ordA R)] at hpw
    have := (List.pairwise_append.1 hpw).2.2 x hx y hy
    unfold ltA at this
    have := hbd y.toNat
    omega
  have ht := sumI_le (l := ((ordA R).take m).map (fun x => R.getD x.toNat 0)) (M := (sumN W : Int) - 1) (fun z hz => by
    obtain ⟨y, hy, rfl⟩ := List.mem_map.1 hz
    exact (hbd y.toNat).2)
  rw [hd] at hsum
  have hl : ((((ordA R).take m).map (fun x => R.getD x.toNat 0)).length : Int) ≤ m := by simp; omega
  have h5 : ((((ordA R).take m).map (fun x => R.getD x.toNat 0)).length : Int) * ((sumN W : Int) - 1) ≤ m * ((sumN W : Int) - 1) := Int.mul_le_mul_of_nonneg_right hl (by omega)
  have h6 : (m : Int) * ((sumN W : Int) - 1) = m * (sumN W : Int) - m := by rw [Int.mul_sub]; omega
  omega
theorem bump_val {l is : List Int} (hn : is.Nodup) (h0 : ∀ x ∈ is, 0 ≤ x) (hl : ∀ x ∈ is, x < l.length) (j : Nat) : (bump l is).getD j 0 = l.getD j 0 + (if (j : Int) ∈ is then 1 else 0) := by
  unfold bump
  induction is generalizing l with
  | nil => simp
  | cons i is ih =>
    rw [List.foldl_cons, ih (List.nodup_cons.1 hn).2 (fun x hx => h0 x (by simp [hx])) (fun x hx => by rw [List.length_set]; exact hl x (by simp [hx]))]
    have hi0 := h0 i (by simp)
    have hil := hl i (by simp)
    have hni := (List.nodup_cons.1 hn).1
    simp only [List.getD_eq_getElem?_getD, List.getElem?_set]
    by_cases e : i.toNat = j
    · subst e
      have e2 : ((i.toNat : Nat) : Int) = i := by omega
      rw [if_pos rfl, if_pos (by omega), e2, if_neg hni, if_pos (by simp)]; simp
    · rw [if_neg e]
      have : ((j : Int) ∈ i :: is) ↔ ((j : Int) ∈ is) := by
        rw [List.mem_cons]
        constructor
        · rintro (q | q)
          · omega
          · exact q
        · exact .inr
      simp only [this]
theorem sumI_set {l : List Int} {j : Nat} (h : j < l.length) (v : Int) : sumI (l.set j v) = sumI l - l.getD j 0 + v := by
  induction l generalizing j with
  | nil => simp at h
  | cons x l ih =>
    cases j with
    | zero => simp [sumI]; omega
    | succ j => simp only [List.set_cons_succ, sumI, List.getD_cons_succ]; rw [ih (by simpa using h)]; omega
theorem bump_sum {l is : List Int} (h0 : ∀ x ∈ is, 0 ≤ x ∧ x < l.length) : sumI (bump l is) = sumI l + is.length := by
  unfold bump
  induction is generalizing l with
  | nil => simp
  | cons i is ih =>
    have := h0 i (by simp)
    rw [List.foldl_cons, ih (fun x hx => by rw [List.length_set]; exact h0 x (by simp [hx])), sumI_set (by omega)]
    simp only [List.length_cons]; omega
theorem sumI_neg (l : List Int) : sumI (l.map (fun x => -x)) = -sumI l := by
  induction l with
  | nil => rfl
  | cons x l ih => simp only [List.map_cons, sumI, ih]; omega
theorem sumI_at {l : List Int} (h : ∀ x ∈ l, 0 ≤ x) {j : Nat} (hj : j < l.length) : l[j] ≤ sumI l := by
  induction l generalizing j with
  | nil => simp at hj
  | cons x l ih =>
    have hx := h x (by simp)
    have hl : 0 ≤ sumI l := by
      clear ih hj
      induction l with
      | nil => exact Int.le_refl _
      | cons y l ih2 =>
        have := h y (by simp)
        have := ih2 (fun z hz => by
          rcases List.mem_cons.1 hz with q | q
          · exact h z (by simp [q])
          · exact h z (by simp [q]))
        simp only [sumI]; omega
    cases j with
    | zero => simp only [List.getElem_cons_zero, sumI]; omega
    | succ j => have := ih (fun w hw => h w (by simp [hw])) (j := j) (by simpa using hj); simp only [List.getElem_cons_succ, sumI]; omega
/-- the shares -/
def shA (c : Int) (W : List Int) : List Int := bump (W.map (qA c.natAbs (sumN W))) ((ordA (W.map (rA c.natAbs (sumN W)))).take (restA c.natAbs (sumN W) W).toNat)
theorem sh_take {c : Int} {W : List Int} {x : Int} (h : x ∈ (ordA (W.map (rA c.natAbs (sumN W)))).take (restA c.natAbs (sumN W) W).toNat) : 0 ≤ x ∧ x < W.length := by
  have := ordA_mem (List.mem_of_mem_take h)
  rw [List.length_map] at this; exact this
theorem sh_len (c : Int) (W : List Int) : (shA c W).length = W.length := by unfold shA; rw [bump_len, List.length_map]
theorem sh_val (c : Int) (W : List Int) {j : Nat} (hj : j < W.length) : (shA c W).getD j 0 = qA c.natAbs (sumN W) W[j] + (if (j : Int) ∈ (ordA (W.map (rA c.natAbs (sumN W)))).take (restA c.natAbs (sumN W) W).toNat then 1 else 0) := by
  unfold shA
  rw [bump_val ((ordA_nodup _).sublist (List.take_sublist _ _)) (fun x hx => (sh_take hx).1) (fun x hx => by rw [List.length_map]; exact (sh_take hx).2), getD_at (by simpa using hj), List.getElem_map]
theorem sh_sum (c : Int) (W : List Int) (hS : 0 < sumN W) : sumI (shA c W) = c.natAbs := by
  have hk := rest_bounds c.natAbs W hS
  unfold shA
  rw [bump_sum (fun x hx => by rw [List.length_map]; exact sh_take hx), List.length_take, ordA_len, List.length_map]
  unfold restA at hk ⊢
  omega
theorem sh_nn (c : Int) (W : List Int) {j : Nat} (hj : j < W.length) : 0 ≤ (shA c W).getD j 0 := by
  rw [sh_val c W hj]
  have : 0 ≤ qA c.natAbs (sumN W) W[j] := Int.natCast_nonneg _
  split <;> omega
theorem sh_le (c : Int) (W : List Int) (hS : 0 < sumN W) {j : Nat} (hj : j < W.length) : (shA c W).getD j 0 ≤ c.natAbs := by
  have hl : j < (shA c W).length := by rw [sh_len]; exact hj
  rw [← sh_sum c W hS, getD_at hl]
  refine sumI_at (fun x hx => ?_) hl
  obtain ⟨i, hi, rfl⟩ := List.getElem_of_mem hx
  rw [← getD_at hi]
  exact sh_nn c W (by rw [← sh_len c W]; exact hi)
theorem sh_zero (c : Int) (W : List Int) (hS : 0 < sumN W) {j : Nat} (hj : j < W.length) (h : W[j] = 0) : (shA c W).getD j 0 = 0 := by
  rw [sh_val c W hj, h, if_neg]
  · simp [qA]
  · intro q
    have := bump_pos hS q
    rw [Int.toNat_natCast, getD_at (by simpa using hj), List.getElem_map, h] at this
    simp [rA] at this
/-- quotient and remainder make the product -/
theorem qr_eq (a S : Nat) (w : Int) : qA a S w * S + rA a S w = (a * w.toNat : Nat) := by
  unfold qA rA
  rw [← Int.natCast_mul, ← Int.natCast_add, Nat.div_add_mod']
theorem sh_mono (c : Int) (W : List Int) (hS : 0 < sumN W) (h0 : ∀ w ∈ W, 0 ≤ w) {k i : Nat} (hk : k < W.length) (hi : i < W.length) (hw : W[i] ≤ W[k]) (hlt : W[i] = W[k] → k < i) : (shA c W).getD i 0 ≤ (shA c W).getD k 0 := by
  rw [sh_val c W hi, sh_val c W hk]
  have hwi := h0 _ (List.getElem_mem hi)
  have hwk := h0 _ (List.getElem_mem hk)
  have hq : qA c.natAbs (sumN W) W[i] ≤ qA c.natAbs (sumN W) W[k] := by
    unfold qA
    exact Int.ofNat_le.2 (Nat.div_le_div_right (Nat.mul_le_mul_left _ (by omega)))
  rcases Int.lt_or_eq_of_le hq with hq | hq
  · split <;> split <;> omega
  · have e1 := qr_eq c.natAbs (sumN W) W[i]
    have e2 := qr_eq c.natAbs (sumN W) W[k]
    rw [hq] at e1
    have hm : c.natAbs * W[i].toNat ≤ c.natAbs * W[k].toNat := Nat.mul_le_mul_left _ (by omega)
    have hr : rA c.natAbs (sumN W) W[i] ≤ rA c.natAbs (sumN W) W[k] := by omega
    by_cases hb : (i : Int) ∈ (ordA (W.map (rA c.natAbs (sumN W)))).take (restA c.natAbs (sumN W) W).toNat
    · have hkb : (k : Int) ∈ (ordA (W.map (rA c.natAbs (sumN W)))).take (restA c.natAbs (sumN W) W).toNat := by
        by_cases hik : i = k
        · subst hik; exact hb
        have hpos := bump_pos hS hb
        refine ord_down hb (by rw [List.length_map]; omega) ?_
        unfold ltA
        rw [Int.toNat_natCast, Int.toNat_natCast] at *
        rw [getD_at (by simpa using hi), List.getElem_map] at *
        rw [getD_at (by simpa using hk), List.getElem_map]
        rcases Int.lt_or_eq_of_le hr with hr | hr
        · exact .inl hr
        · refine .inr ⟨hr.symm, ?_⟩
          have hp : c.natAbs * W[i].toNat = c.natAbs * W[k].toNat := by omega
          have ha : 0 < c.natAbs := by
            rcases Nat.eq_zero_or_pos c.natAbs with e | e
            · rw [e] at hpos; simp [rA] at hpos
            · exact e
          have : W[i].toNat = W[k].toNat := Nat.eq_of_mul_eq_mul_left ha hp
          have := hlt (by omega)
          omega
      rw [if_pos hb, if_pos hkb]; omega
    · rw [if_neg hb]; split <;> omega
theorem sh_near (c : Int) (W : List Int) {k i : Nat} (hk : k < W.length) (hi : i < W.length) (hw : W[i] = W[k]) : (shA c W).getD k 0 - (shA c W).getD i 0 ≤ 1 := by
  rw [sh_val c W hi, sh_val c W hk, hw]
  split <;> split <;> omega
/-- what Allocate hands back -/
theorem alloc_err (c : Int) (W : List Int) (h : (allocR c W).2 ≠ 0) : (allocR c W).1 = [] := by
  unfold allocR at *
  split
  · rfl
  · split
    · rfl
    · split
      · rfl
      · split
        · rfl
        · rename_i h1 h2 h3 h4; rw [if_neg h1, if_neg h2, if_neg h3, if_neg h4] at h; exact absurd rfl h
theorem alloc_fine (c : Int) (W : List Int) (h : (allocR c W).2 = 0) : byd c 1000000000000000 = false ∧ W.any wBad = false ∧ W.length ≤ 64 ∧ 0 < sumN W ∧ (allocR c W).1 = if c < 0 then (shA c W).map (fun x => -x) else shA c W := by
  unfold allocR at *
  by_cases h1 : byd c 1000000000000000 = true
  · rw [if_pos h1] at h; simp at h
  by_cases h2 : W.any wBad = true
  · rw [if_neg h1, if_pos h2] at h; simp at h
  by_cases h3 : 64 < W.length
  · rw [if_neg h1, if_neg h2, if_pos h3] at h; simp at h
  by_cases h4 : sumN W = 0
  · rw [if_neg h1, if_neg h2, if_neg h3, if_pos h4] at h; simp at h
  rw [if_neg h1, if_neg h2, if_neg h3, if_neg h4]
  exact ⟨by simpa using h1, by simpa using h2, by omega, by omega, rfl⟩
theorem alloc_law (c : Int) (W : List Int) (h : (allocR c W).2 = 0) : (allocR c W).1.length = W.length ∧ W.length ≤ 64 ∧ sumI (allocR c W).1 = c ∧ byd c 1000000000000000 = false ∧
    ∀ j (hj : j < W.length), ∃ hj' : j < (allocR c W).1.length, byd ((allocR c W).1[j]) 1000000000000000 = false ∧ ((allocR c W).1[j] ≠ 0 → ((allocR c W).1[j] < 0 ↔ c < 0)) ∧ (W[j] = 0 → (allocR c W).1[j] = 0) ∧
      (((allocR c W).1[j]).natAbs : Int) = (shA c W).getD j 0 := by
  obtain ⟨h1, h2, h3, h4, h5⟩ := alloc_fine c W h
  rw [h5]
  have hc := byd_f h1
  refine ⟨by split <;> simp [sh_len], h3, ?_, h1, fun j hj => ?_⟩
  · split
    · rw [sumI_neg, sh_sum c W h4]; omega
    · rw [sh_sum c W h4]; omega
  · have hl : j < (shA c W).length := by rw [sh_len]; exact hj
    have n1 := sh_nn c W hj
    have n2 := sh_le c W h4 hj
    have n3 : W[j] = 0 → (shA c W).getD j 0 = 0 := sh_zero c W h4 hj
    rw [getD_at hl] at n1 n2 n3 ⊢
    by_cases hn : c < 0
    · simp only [if_pos hn, List.getElem_map, List.length_map]
      refine ⟨hl, ?_, fun q => ?_, fun q => ?_, ?_⟩
      · simp [byd]; omega
      · exact ⟨fun _ => hn, fun _ => by omega⟩
      · rw [n3 q]; rfl
      · omega
    · simp only [if_neg hn]
      refine ⟨hl, ?_, fun q => ?_, fun q => n3 q, ?_⟩
      · simp [byd]; omega
      · exact ⟨fun _ => by omega, fun q2 => absurd q2 hn⟩
      · omega

end Go.Proofs.Ytfmoolclokffjaa
