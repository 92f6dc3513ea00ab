import Derived.Test.YtemcooggkcneiaaEngS
import Derived.Test.YtemcooggkcneiaaEng6
import Derived.Test.YtemcooggkcneiaaEngN
import Derived.Test.YtemcooggkcneiaaEngZ
namespace Go.Proofs.Ytemcooggkcneiaa
open Go.Eng
set_option linter.unusedVariables false
set_option linter.unusedSimpArgs false
/-! ### graphs: row x of dd holds what x leads to -/
def rw (dd : List (List Int)) (x : Int) : List Int := dd.getD x.toNat []
structure WFd (n : Nat) (dd : List (List Int)) : Prop where
  len : dd.length = n
  ent : ∀ x e, e ∈ rw dd x → 0 ≤ e ∧ e < n
  srt : ∀ x, (rw dd x).Pairwise (· < ·)
theorem rw_at {dd : List (List Int)} {x : Int} (h : x.toNat < dd.length) : dd[x.toNat] = rw dd x := by simp [rw, h]
theorem strict_len : ∀ (l : List Int) (a n : Int), l.Pairwise (· < ·) → (∀ e ∈ l, a ≤ e ∧ e < n) → (l.length : Int) ≤ max 0 (n - a)
  | [], a, n, _, _ => by simp; omega
  | x :: l, a, n, hp, hb => by
    rw [List.pairwise_cons] at hp
    have h1 := strict_len l (x + 1) n hp.2 (fun e he => ⟨by have := hp.1 e he; omega, (hb e (by simp [he])).2⟩)
    have h2 := hb x (by simp)
    simp only [List.length_cons]
    omega
theorem WFd.rlen {n : Nat} {dd : List (List Int)} (h : WFd n dd) (x : Int) : (rw dd x).length ≤ n := by
  have := strict_len (rw dd x) 0 n (h.srt x) (fun e he => h.ent x e he)
  omega
/-- reached in one step or more -/
inductive Rp (dd : List (List Int)) : Int → Int → Prop
  | one {x y : Int} (h : y ∈ rw dd x) : Rp dd x y
  | step {x y z : Int} (h : Rp dd x y) (h2 : z ∈ rw dd y) : Rp dd x z
def sn (seen : List Bool) (e : Int) : Bool := seen.getD e.toNat false
def unseen (seen : List Bool) : Nat := seen.countP (fun b => !b)
theorem sn_get {seen : List Bool} {e : Int} (h : e.toNat < seen.length) : seen[0 + e.toNat]? = some (sn seen e) := by simp [sn, h]
theorem sn_set {seen : List Bool} {e z : Int} (he : 0 ≤ e) (hz : 0 ≤ z) (h : e.toNat < seen.length) : sn (seen.set e.toNat true) z = if z = e then true else sn seen z := by
  unfold sn
  by_cases e1 : z = e
  · subst e1; simp [h]
  · rw [if_neg e1, List.getD_eq_getElem?_getD, List.getElem?_set_ne (by omega), ← List.getD_eq_getElem?_getD]
theorem unseen_set {seen : List Bool} {e : Int} (h : e.toNat < seen.length) (hs : sn seen e = false) : unseen (seen.set e.toNat true) + 1 = unseen seen := by
  refine countP_set_true _ _ ?_
  unfold sn at hs
  rw [List.getD_eq_getElem?_getD, List.getElem?_eq_getElem h] at hs
  rw [List.getElem?_eq_getElem h]; simpa using hs
structure RI (n : Nat) (dd : List (List Int)) (d : Int) (seen : List Bool) (Q Y : List Int) : Prop where
  len : seen.length = n
  snd : ∀ e, 0 ≤ e → sn seen e = true → Rp dd d e
  rng : ∀ x ∈ Q, 0 ≤ x ∧ x < n
  src : ∀ x ∈ Q, x = d ∨ sn seen x = true
  cls : ∀ x, 0 ≤ x → (x = d ∨ sn seen x = true) → x ∈ Q ∨ x ∈ Y ∨ ∀ e ∈ rw dd x, sn seen e = true
  mes : Q.length + unseen seen ≤ n + 1
theorem RI.start {n : Nat} {dd : List (List Int)} {d : Int} (h0 : 0 ≤ d) (hn : d < n) : RI n dd d (List.replicate n false) [d] [] := by
  have hf : ∀ e, sn (List.replicate n false) e = false := fun e => by
    unfold sn; rw [List.getD_eq_getElem?_getD, List.getElem?_replicate]; split <;> rfl
  refine ⟨by simp, fun e _ h => ?_, fun x hx => ?_, fun x hx => .inl (by simpa using hx), fun x _ h => ?_, ?_⟩
  · rw [hf] at h; cases h
  · simp at hx; subst hx; exact ⟨h0, hn⟩
  · rcases h with h | h
    · exact .inl (by simp [h])
    · rw [hf] at h; cases h
  · simp [unseen, List.countP_replicate]; omega
theorem RI.pop {n : Nat} {dd : List (List Int)} {d y : Int} {seen : List Bool} {Q : List Int} (h : RI n dd d seen (y :: Q) []) : RI n dd d seen Q [y] := by
  refine ⟨h.len, h.snd, fun x hx => h.rng x (by simp [hx]), fun x hx => h.src x (by simp [hx]), fun x h0 hx => ?_, ?_⟩
  · rcases h.cls x h0 hx with h1 | h1 | h1
    · rcases List.mem_cons.1 h1 with h2 | h2
      · exact .inr (.inl (by simp [h2]))
      · exact .inl h2
    · cases h1
    · exact .inr (.inr h1)
  · have := h.mes; simp at this; omega
theorem RI.push {n : Nat} {dd : List (List Int)} {d y e : Int} {seen : List Bool} {Q : List Int} (w : WFd n dd) (h : RI n dd d seen Q [y]) (hy : y = d ∨ sn seen y = true) (hy0 : 0 ≤ y) (he : e ∈ rw dd y) (hs : sn seen e = false) : RI n dd d (seen.set e.toNat true) (Q ++ [e]) [y] := by
  obtain ⟨e0, en⟩ := w.ent y e he
  have hel : e.toNat < seen.length := by rw [h.len]; omega
  have hset : ∀ z, 0 ≤ z → sn (seen.set e.toNat true) z = if z = e then true else sn seen z := fun z hz => sn_set e0 hz hel
  have hup : ∀ z, 0 ≤ z → sn seen z = true → sn (seen.set e.toNat true) z = true := fun z hz hzs => by rw [hset z hz]; split <;> simp [hzs]
  refine ⟨by simp [h.len], fun z hz hzs => ?_, fun x hx => ?_, fun x hx => ?_, fun x h0 hx => ?_, ?_⟩
  · rw [hset z hz] at hzs
    split at hzs
    · rename_i e1; subst e1
      rcases hy with rfl | hy
      · exact .one he
      · exact .step (h.snd y hy0 hy) he
    · exact h.snd z hz hzs
  · rcases List.mem_append.1 hx with hx | hx
    · exact h.rng x hx
    · simp at hx; subst hx; exact ⟨e0, en⟩
  · rcases List.mem_append.1 hx with hx | hx
    · rcases h.src x hx with h1 | h1
      · exact .inl h1
      · exact .inr (hup x (h.rng x hx).1 h1)
    · simp at hx; subst hx; exact .inr (by rw [hset x e0, if_pos rfl])
  · by_cases e1 : x = e
    · subst e1; exact .inl (by simp)
    · have hx' : x = d ∨ sn seen x = true := by
        rcases hx with hx | hx
        · exact .inl hx
        · rw [hset x h0, if_neg e1] at hx; exact .inr hx
      rcases h.cls x h0 hx' with h1 | h1 | h1
      · exact .inl (by simp [h1])
      · exact .inr (.inl h1)
      · exact .inr (.inr fun z hz => hup z (w.ent x z hz).1 (h1 z hz))
  · have h1 := h.mes; have h2 := unseen_set hel hs; simp; omega
theorem RI.close {n : Nat} {dd : List (List Int)} {d y : Int} {seen : List Bool} {Q : List Int} (h : RI n dd d seen Q [y]) (hc : ∀ e ∈ rw dd y, sn seen e = true) : RI n dd d seen Q [] := by
  refine ⟨h.len, h.snd, h.rng, h.src, fun x h0 hx => ?_, h.mes⟩
  rcases h.cls x h0 hx with h1 | h1 | h1
  · exact .inl h1
  · simp at h1; subst h1; exact .inr (.inr hc)
  · exact .inr (.inr h1)
theorem RI.done {n : Nat} {dd : List (List Int)} {d : Int} {seen : List Bool} (w : WFd n dd) (hd : 0 ≤ d) (h : RI n dd d seen [] []) (e : Int) (he : 0 ≤ e) : sn seen e = true ↔ Rp dd d e := by
  refine ⟨h.snd e he, fun hr => ?_⟩
  induction hr with
  | one h1 =>
    rcases h.cls d hd (.inl rfl) with h2 | h2 | h2
    · cases h2
    · cases h2
    · exact h2 _ h1
  | @step y z h1 h2 ih =>
    have hy : 0 ≤ y := by
      cases h1 with
      | one q => exact (w.ent _ _ q).1
      | step _ q => exact (w.ent _ _ q).1
    rcases h.cls y hy (.inr (ih hy)) with h3 | h3 | h3
    · cases h3
    · cases h3
    · exact h3 _ h2
open Classical in
/-- what is reached, in increasing order -/
noncomputable def reachL (n : Nat) (dd : List (List Int)) (d : Int) : List Int := ((List.range n).filter (fun k => decide (Rp dd d ((k : Nat) : Int)))).map (fun (k : Nat) => (k : Int))
def seenL (seen : List Bool) (k : Nat) : List Int := ((List.range k).filter (fun j => sn seen ((j : Nat) : Int))).map (fun (j : Nat) => (j : Int))
theorem seenL_t {seen : List Bool} {k : Nat} (h : sn seen ((k : Nat) : Int) = true) : seenL seen (k + 1) = seenL seen k ++ [(k : Int)] := by unfold seenL; rw [List.range_succ, List.filter_append, List.map_append]; simp [h]
theorem seenL_f {seen : List Bool} {k : Nat} (h : sn seen ((k : Nat) : Int) = false) : seenL seen (k + 1) = seenL seen k := by unfold seenL; rw [List.range_succ, List.filter_append, List.map_append]; simp [h]
theorem seenL_len (seen : List Bool) (k : Nat) : (seenL seen k).length ≤ k := by unfold seenL; rw [List.length_map]; exact Nat.le_trans (List.length_filter_le _ _) (by simp)
theorem RI.list {n : Nat} {dd : List (List Int)} {d : Int} {seen : List Bool} (w : WFd n dd) (hd : 0 ≤ d) (h : RI n dd d seen [] []) : seenL seen n = reachL n dd d := by
  unfold seenL reachL
  congr 1
  refine List.filter_congr fun k _ => ?_
  have := h.done w hd (k : Int) (by omega)
  by_cases e : sn seen ((k : Nat) : Int) = true
  · rw [e]; simp [this.1 e]
  · have e2 : sn seen ((k : Nat) : Int) = false := by simpa using e
    rw [e2]; simp; exact fun q => e (this.2 q)
theorem strict_range : ∀ (n : Nat), (List.range n).Pairwise (· < ·) := fun n => List.pairwise_lt_range
theorem reachL_mem {n : Nat} {dd : List (List Int)} (w : WFd n dd) {d e : Int} : e ∈ reachL n dd d ↔ Rp dd d e := by
  unfold reachL
  rw [List.mem_map]
  constructor
  · rintro ⟨k, hk, rfl⟩
    simpa using (List.mem_filter.1 hk).2
  · intro h
    have hb : 0 ≤ e ∧ e < n := by cases h with
      | one q => exact w.ent _ _ q
      | step _ q => exact w.ent _ _ q
    exact ⟨e.toNat, List.mem_filter.2 ⟨List.mem_range.2 (by omega), by rw [show ((e.toNat : Nat) : Int) = e by omega]; simpa using h⟩, by omega⟩
theorem map_cast_strict : ∀ {l : List Nat}, l.Pairwise (· < ·) → (l.map (fun (k : Nat) => (k : Int))).Pairwise (· < ·) := fun h => List.pairwise_map.2 (h.imp (by intro a b h; exact Int.ofNat_lt.2 h))
theorem reachL_strict (n : Nat) (dd : List (List Int)) (d : Int) : (reachL n dd d).Pairwise (· < ·) := map_cast_strict ((strict_range n).sublist List.filter_sublist)
end Go.Proofs.Ytemcooggkcneiaa
namespace Go.Proofs.Ytemcooggkcneiaa
open Go.Eng
set_option linter.unusedVariables false
set_option linter.unusedSimpArgs false
/-! ### distances -/
def st (steps : List Int) (x : Int) : Int := steps.getD x.toNat (-1)
def Wr (rr : List (List Int)) (t : Int) : Nat → Int → Prop
  | 0, x => x = t
  | k + 1, x => ∃ y, Wr rr t k y ∧ x ∈ rw rr y
def unf (steps : List Int) : Nat := steps.countP (fun v => decide (v < 0))
theorem st_get {steps : List Int} {e : Int} (h : e.toNat < steps.length) : steps[0 + e.toNat]? = some (st steps e) := by simp [st, h]
theorem st_get' {steps : List Int} {e : Int} (h : e.toNat < steps.length) : steps[e.toNat]? = some (st steps e) := by simp [st, h]
theorem st_set {steps : List Int} {e z v : Int} (he : 0 ≤ e) (hz : 0 ≤ z) (h : e.toNat < steps.length) : st (steps.set e.toNat v) z = if z = e then v else st steps z := by
  unfold st
  by_cases e1 : z = e
  · subst e1; simp [h]
  · rw [if_neg e1, List.getD_eq_getElem?_getD, List.getElem?_set_ne (by omega), ← List.getD_eq_getElem?_getD]
theorem countP_set_neg : ∀ (l : List Int) (i : Nat) (v u : Int), l[i]? = some u → u < 0 → 0 ≤ v → (l.set i v).countP (fun b => decide (b < 0)) + 1 = l.countP (fun b => decide (b < 0))
  | [], i, v, u, h, _, _ => by simp at h
  | b :: r, 0, v, u, h, h1, h2 => by
    simp at h; subst h
    have : ¬ v < 0 := by omega
    simp [h1, this]
  | b :: r, i + 1, v, u, h, h1, h2 => by
    have := countP_set_neg r i v u (by simpa using h) h1 h2
    simp only [List.set_cons_succ, List.countP_cons]
    omega
theorem unf_set {steps : List Int} {e v : Int} (h : e.toNat < steps.length) (hs : st steps e < 0) (hv : 0 ≤ v) : unf (steps.set e.toNat v) + 1 = unf steps :=
  countP_set_neg _ _ _ _ (st_get' h) hs hv
structure DI (n : Nat) (rr : List (List Int)) (t : Int) (steps : List Int) (Q Y : List Int) : Prop where
  len : steps.length = n
  snd : ∀ x, 0 ≤ x → 0 ≤ st steps x → Wr rr t (st steps x).toNat x
  tgt : st steps t = 0
  rng : ∀ x ∈ Y ++ Q, 0 ≤ x ∧ x < n ∧ 0 ≤ st steps x
  mono : (Y ++ Q).Pairwise (fun a b => st steps a ≤ st steps b)
  top : ∀ x, 0 ≤ x → 0 ≤ st steps x → ∀ y ∈ Y ++ Q, st steps x ≤ st steps y + 1
  neg : ∀ x, 0 ≤ x → st steps x < 0 → st steps x = -1
  cls : ∀ x, 0 ≤ x → 0 ≤ st steps x → x ∈ Q ∨ x ∈ Y ∨ ∀ e ∈ rw rr x, 0 ≤ st steps e ∧ st steps e ≤ st steps x + 1
  mes : Q.length + unf steps ≤ n + 1
  bnd : ∀ x, 0 ≤ x → st steps x ≤ n - 1 - unf steps
theorem DI.start {n : Nat} {rr : List (List Int)} {t : Int} (h0 : 0 ≤ t) (hn : t < n) : DI n rr t ((List.replicate n (-1)).set t.toNat 0) [t] [] := by
  have hf : ∀ e, st (List.replicate n (-1)) e = -1 := fun e => by
    unfold st; rw [List.getD_eq_getElem?_getD, List.getElem?_replicate]; split <;> rfl
  have hl : t.toNat < (List.replicate n (-1 : Int)).length := by simp; omega
  have hs : ∀ z, 0 ≤ z → st ((List.replicate n (-1)).set t.toNat 0) z = if z = t then 0 else -1 := fun z hz => by rw [st_set h0 hz hl, hf]
  have hu : unf ((List.replicate n (-1)).set t.toNat 0) + 1 = n := by
    rw [unf_set hl (by rw [hf]; decide) (by decide)]; unfold unf; rw [List.countP_replicate]; simp
  refine ⟨by simp, fun x hx h => ?_, by rw [hs t h0, if_pos rfl], fun x hx => ?_, by simp, fun x hx h y hy => ?_, fun x hx h => ?_, fun x hx h => ?_, by simp; omega, fun x hx => ?_⟩
  · rw [hs x hx] at h ⊢
    split at h
    · rename_i e; subst e; simp [Wr]
    · simp at h
  · simp at hx; subst hx; rw [hs x h0, if_pos rfl]; omega
  · simp at hy; subst hy
    rw [hs x hx, hs y h0, if_pos rfl]; split <;> omega
  · rw [hs x hx] at h ⊢; split <;> simp_all
  · rw [hs x hx] at h
    split at h
    · rename_i e; exact .inl (by simp [e])
    · simp at h
  · rw [hs x hx]; split <;> omega
theorem DI.pop {n : Nat} {rr : List (List Int)} {t y : Int} {steps Q : List Int} (h : DI n rr t steps (y :: Q) []) : DI n rr t steps Q [y] := by
  refine ⟨h.len, h.snd, h.tgt, h.rng, h.mono, h.top, h.neg, fun x hx h1 => ?_, by have := h.mes; simp at this; omega, h.bnd⟩
  rcases h.cls x hx h1 with h2 | h2 | h2
  · rcases List.mem_cons.1 h2 with h3 | h3
    · exact .inr (.inl (by simp [h3]))
    · exact .inl h3
  · cases h2
  · exact .inr (.inr h2)
theorem DI.push {n : Nat} {rr : List (List Int)} {t y e : Int} {steps Q : List Int} (w : WFd n rr) (h : DI n rr t steps Q [y]) (he : e ∈ rw rr y) (hs : st steps e < 0) (ht : 0 ≤ t) : DI n rr t (steps.set e.toNat (st steps y + 1)) (Q ++ [e]) [y] := by
  obtain ⟨e0, en⟩ := w.ent y e he
  have hel : e.toNat < steps.length := by rw [h.len]; omega
  obtain ⟨y0, yn, ys⟩ := h.rng y (by simp)
  have hset : ∀ z, 0 ≤ z → st (steps.set e.toNat (st steps y + 1)) z = if z = e then st steps y + 1 else st steps z := fun z hz => st_set e0 hz hel
  have hne : ∀ z, 0 ≤ st steps z → z ≠ e := fun z hz e1 => by subst e1; omega
  have hup : ∀ z, 0 ≤ z → 0 ≤ st steps z → st (steps.set e.toNat (st steps y + 1)) z = st steps z := fun z hz hzs => by rw [hset z hz, if_neg (hne z hzs)]
  have hu := unf_set (v := st steps y + 1) hel hs (by omega)
  have hy' := hup y y0 ys
  have hylow : ∀ z ∈ Q, st steps y ≤ st steps z := fun z hz => by
    have := h.mono; simp only [List.singleton_append, List.pairwise_cons] at this; exact this.1 z hz
  have hmem : ∀ z ∈ [y] ++ (Q ++ [e]), z = e ∨ z ∈ [y] ++ Q := fun z hz => by simp at hz ⊢; rcases hz with q | q | q <;> simp [q]
  refine ⟨by simp [h.len], fun z hz hzs => ?_, by rw [hup t ht (by rw [h.tgt]; omega)]; exact h.tgt, fun x hx => ?_, ?_, fun x hx hxs z hz => ?_, fun x hx hxs => ?_, fun x hx hxs => ?_, ?_, fun x hx => ?_⟩
  · rw [hset z hz] at hzs ⊢
    split at hzs
    · rename_i e1; subst e1
      rw [if_pos rfl, show (st steps y + 1).toNat = (st steps y).toNat + 1 by omega]
      exact ⟨y, h.snd y y0 ys, he⟩
    · rename_i e1; rw [if_neg e1]; exact h.snd z hz hzs
  · rcases hmem x hx with e1 | e1
    · subst e1; rw [hset x e0, if_pos rfl]; omega
    · obtain ⟨a, b, c⟩ := h.rng x e1
      rw [hup x a c]; exact ⟨a, b, c⟩
  · rw [← List.append_assoc, List.pairwise_append]
    refine ⟨(h.mono).imp_of_mem (fun {a b} ha hb hab => ?_), by simp, fun a ha b hb => ?_⟩
    · obtain ⟨a1, a2, a3⟩ := h.rng a ha
      obtain ⟨b1, b2, b3⟩ := h.rng b hb
      rw [hup a a1 a3, hup b b1 b3]; exact hab
    · simp at hb; subst hb
      obtain ⟨a1, a2, a3⟩ := h.rng a ha
      rw [hup a a1 a3, hset b e0, if_pos rfl]
      exact h.top a a1 a3 y (by simp)
  · have hz0 : st steps y ≤ st (steps.set e.toNat (st steps y + 1)) z := by
      rcases hmem z hz with e1 | e1
      · subst e1; rw [hset z e0, if_pos rfl]; omega
      · obtain ⟨a, b, c⟩ := h.rng z e1
        rw [hup z a c]
        rcases List.mem_append.1 e1 with q | q
        · simp at q; subst q; omega
        · exact hylow z q
    rw [hset x hx] at hxs ⊢
    split
    · omega
    · rename_i e1; rw [if_neg e1] at hxs
      have h1 := h.top x hx hxs
      rcases hmem z hz with e2 | e2
      · subst e2; rw [hset z e0, if_pos rfl]; have := h1 y (by simp); omega
      · obtain ⟨a, b, c⟩ := h.rng z e2
        rw [hup z a c]; exact h1 z e2
  · rw [hset x hx] at hxs ⊢
    split
    · rename_i e1; rw [if_pos e1] at hxs; omega
    · rename_i e1; rw [if_neg e1] at hxs; exact h.neg x hx hxs
  · rw [hset x hx] at hxs
    by_cases e1 : x = e
    · subst e1; exact .inl (by simp)
    · rw [if_neg e1] at hxs
      rcases h.cls x hx hxs with q | q | q
      · exact .inl (by simp [q])
      · exact .inr (.inl q)
      · refine .inr (.inr fun z hz => ?_)
        obtain ⟨q1, q2⟩ := q z hz
        rw [hup z (w.ent x z hz).1 q1, hup x hx hxs]; exact ⟨q1, q2⟩
  · have := h.mes; simp; omega
  · rw [hset x hx]
    have h1 := h.bnd y y0
    split
    · omega
    · have := h.bnd x hx; omega
theorem DI.close {n : Nat} {rr : List (List Int)} {t y : Int} {steps Q : List Int} (h : DI n rr t steps Q [y]) (hc : ∀ e ∈ rw rr y, 0 ≤ st steps e ∧ st steps e ≤ st steps y + 1) : DI n rr t steps Q [] := by
  refine ⟨h.len, h.snd, h.tgt, fun x hx => h.rng x (by simp at hx ⊢; exact .inr hx), ?_, fun x hx hxs z hz => h.top x hx hxs z (by simp at hz ⊢; exact .inr hz), h.neg, fun x hx hxs => ?_, h.mes, h.bnd⟩
  · have := h.mono; simp only [List.singleton_append, List.pairwise_cons] at this; simpa using this.2
  · rcases h.cls x hx hxs with q | q | q
    · exact .inl q
    · simp at q; subst q; exact .inr (.inr hc)
    · exact .inr (.inr q)
theorem DI.le {n : Nat} {rr : List (List Int)} {t : Int} {steps : List Int} (w : WFd n rr) (ht : 0 ≤ t) (h : DI n rr t steps [] []) : ∀ (k : Nat) (x : Int), Wr rr t k x → 0 ≤ x ∧ 0 ≤ st steps x ∧ st steps x ≤ k
  | 0, x, hx => by
    have hx : x = t := hx
    subst hx; rw [h.tgt]; omega
  | k + 1, x, ⟨y, h1, h2⟩ => by
    obtain ⟨a, b, c⟩ := h.le w ht k y h1
    rcases h.cls y a b with q | q | q
    · cases q
    · cases q
    · have := q x h2
      have := (w.ent y x h2).1
      omega
def IsD (rr : List (List Int)) (t x v : Int) : Prop := (v = -1 ∧ ∀ k, ¬ Wr rr t k x) ∨ (∃ k : Nat, v = (k : Int) ∧ Wr rr t k x ∧ ∀ j, Wr rr t j x → k ≤ j)
theorem isD_uniq {rr : List (List Int)} {t x v u : Int} (h1 : IsD rr t x v) (h2 : IsD rr t x u) : v = u := by
  rcases h1 with ⟨a1, a2⟩ | ⟨k, a1, a2, a3⟩ <;> rcases h2 with ⟨b1, b2⟩ | ⟨j, b1, b2, b3⟩
  · omega
  · exact absurd b2 (a2 j)
  · exact absurd a2 (b2 k)
  · have := a3 j b2; have := b3 k a2; omega
theorem isD_ex (rr : List (List Int)) (t x : Int) : ∃ v, IsD rr t x v := by
  rcases Classical.em (∃ k, Wr rr t k x) with h | h
  · obtain ⟨k, h1, h2⟩ := exists_least h
    exact ⟨k, .inr ⟨k, rfl, h1, h2⟩⟩
  · exact ⟨-1, .inl ⟨rfl, fun k hk => h ⟨k, hk⟩⟩⟩
noncomputable def distV (rr : List (List Int)) (t x : Int) : Int := Classical.choose (isD_ex rr t x)
theorem distV_is (rr : List (List Int)) (t x : Int) : IsD rr t x (distV rr t x) := Classical.choose_spec (isD_ex rr t x)
noncomputable def distL (n : Nat) (rr : List (List Int)) (t : Int) : List Int := (List.range n).map (fun (k : Nat) => distV rr t (k : Int))
theorem DI.is {n : Nat} {rr : List (List Int)} {t : Int} {steps : List Int} (w : WFd n rr) (ht : 0 ≤ t) (h : DI n rr t steps [] []) {x : Int} (hx : 0 ≤ x) : IsD rr t x (st steps x) := by
  by_cases e : 0 ≤ st steps x
  · refine .inr ⟨(st steps x).toNat, by omega, h.snd x hx e, fun j hj => ?_⟩
    have := h.le w ht j x hj; omega
  · refine .inl ⟨h.neg x hx (by omega), fun k hk => ?_⟩
    have := h.le w ht k x hk; omega
theorem DI.list {n : Nat} {rr : List (List Int)} {t : Int} {steps : List Int} (w : WFd n rr) (ht : 0 ≤ t) (h : DI n rr t steps [] []) : steps = distL n rr t := by
  apply List.ext_getElem?
  intro i
  by_cases hi : i < n
  · have h1 : steps[i]? = some (st steps (i : Int)) := by
      have := st_get' (steps := steps) (e := (i : Int)) (by rw [h.len]; simpa using hi)
      simpa using this
    rw [h1]
    simp only [distL, List.getElem?_map, List.getElem?_range hi, Option.map_some]
    exact congrArg some (isD_uniq (h.is w ht (by omega)) (distV_is rr t i))
  · rw [List.getElem?_eq_none (by rw [h.len]; omega), List.getElem?_eq_none (by simp [distL]; omega)]
theorem distL_len (n : Nat) (rr : List (List Int)) (t : Int) : (distL n rr t).length = n := by simp [distL]
theorem distL_st {n : Nat} {rr : List (List Int)} {t x : Int} (h0 : 0 ≤ x) (hn : x < n) : st (distL n rr t) x = distV rr t x := by
  unfold st distL
  rw [List.getD_eq_getElem?_getD, List.getElem?_map, List.getElem?_range (by omega)]
  simp [show ((x.toNat : Nat) : Int) = x by omega, h0]
/-- the shortest way on through one of a list -/
def shS (steps : List Int) (m e : Int) : Int := if 0 ≤ st steps e ∧ (m = 0 ∨ st steps e + 1 < m) then st steps e + 1 else m
def shT (steps l : List Int) : Int := l.foldl (shS steps) 0
theorem shT_succ {steps l : List Int} {k : Nat} (h : k < l.length) : shT steps (l.take (k + 1)) = shS steps (shT steps (l.take k)) l[k] := by
  unfold shT; rw [List.take_succ_eq_append_getElem h, List.foldl_append]; rfl
theorem shT_bnd {steps : List Int} {B : Int} (hB : 0 ≤ B) (hs : ∀ x, st steps x ≤ B) : ∀ (l : List Int), 0 ≤ shT steps l ∧ shT steps l ≤ B + 1 := by
  intro l
  have : ∀ (l : List Int) (m : Int), 0 ≤ m ∧ m ≤ B + 1 → 0 ≤ l.foldl (shS steps) m ∧ l.foldl (shS steps) m ≤ B + 1 := by
    intro l
    induction l with
    | nil => intro m h; exact h
    | cons e r ih =>
      intro m h
      refine ih _ ?_
      unfold shS
      have := hs e
      split <;> omega
  exact this l 0 (by omega)
end Go.Proofs.Ytemcooggkcneiaa
namespace Go.Proofs.Ytemcooggkcneiaa
open Go.Eng
set_option linter.unusedVariables false
set_option linter.unusedSimpArgs false
/-! ### the least path -/
section
variable (dd : List (List Int)) (dst : List Int) (L start : Int)
def nxE (x v : Int) : Int := ((rw dd x).find? (fun e => decide (st dst e = v))).getD 0
def lst : Nat → Int
  | 0 => start
  | k + 1 => nxE dd dst (lst k) (L - ((k : Int) + 1))
def pth (k : Nat) : List Int := (List.range (k + 1)).map (lst dd dst L start)
end
section
variable {dd : List (List Int)} {dst : List Int} {L start : Int}
theorem pth_len (k : Nat) : (pth dd dst L start k).length = k + 1 := by simp [pth]
theorem pth_at {k i : Nat} (h : i ≤ k) : (pth dd dst L start k)[i]? = some (lst dd dst L start i) := by
  simp [pth, List.getElem?_range (show i < k + 1 by omega)]
theorem pth_succ (k : Nat) : pth dd dst L start (k + 1) = pth dd dst L start k ++ [lst dd dst L start (k + 1)] := by
  unfold pth; rw [List.range_succ (n := k + 1), List.map_append]; rfl
theorem pth_mem {k : Nat} {x : Int} : x ∈ pth dd dst L start k ↔ ∃ i, i ≤ k ∧ x = lst dd dst L start i := by
  unfold pth
  rw [List.mem_map]
  constructor
  · rintro ⟨i, h1, rfl⟩; exact ⟨i, by have := List.mem_range.1 h1; omega, rfl⟩
  · rintro ⟨i, h1, rfl⟩; exact ⟨i, List.mem_range.2 (by omega), rfl⟩
theorem find_at {l : List Int} {p : Int → Bool} {j : Nat} (hj : j < l.length) (hp : p l[j] = true) (hn : ∀ i, (h : i < j) → p (l[i]'(by omega)) = false) : l.find? p = some l[j] := by
  rw [List.find?_eq_some_iff_getElem]
  exact ⟨hp, j, hj, rfl, fun i hi => by rw [hn i hi]; rfl⟩
theorem nxE_at {x v : Int} {j : Nat} (hj : j < (rw dd x).length) (hp : st dst (rw dd x)[j] = v) (hn : ∀ i, (h : i < j) → st dst ((rw dd x)[i]'(by omega)) ≠ v) : nxE dd dst x v = (rw dd x)[j] := by
  unfold nxE
  rw [find_at hj (by simpa using hp) (fun i hi => by simpa using hn i hi)]; rfl
theorem nxE_ok {x v : Int} (h : ∃ e ∈ rw dd x, st dst e = v) : nxE dd dst x v ∈ rw dd x ∧ st dst (nxE dd dst x v) = v := by
  obtain ⟨e, he, hv⟩ := h
  unfold nxE
  cases hf : (rw dd x).find? (fun e => decide (st dst e = v)) with
  | none =>
    rw [List.find?_eq_none] at hf
    exact absurd hv (by simpa using hf e he)
  | some z =>
    have h1 := List.find?_some hf
    exact ⟨List.mem_of_find?_eq_some hf, by simpa using h1⟩
/-- a path can be found -/
structure PH (n : Nat) (dd : List (List Int)) (dst : List Int) (L start : Int) : Prop where
  wf : WFd n dd
  dl : dst.length = n
  s0 : 0 ≤ start
  sn : start < n
  l1 : 1 ≤ L
  ln : L ≤ n
  d0 : st dst start = 0
  ex : ∀ k : Nat, (k : Int) + 1 < L → (∃ e ∈ rw dd (lst dd dst L start k), st dst e = L - ((k : Int) + 1))
theorem PH.next {n : Nat} (h : PH n dd dst L start) {k : Nat} (hk : (k : Int) + 1 < L) : lst dd dst L start (k + 1) ∈ rw dd (lst dd dst L start k) ∧ st dst (lst dd dst L start (k + 1)) = L - ((k : Int) + 1) := nxE_ok (h.ex k hk)
theorem PH.inr {n : Nat} (h : PH n dd dst L start) : ∀ (k : Nat), (k : Int) < L → 0 ≤ lst dd dst L start k ∧ lst dd dst L start k < n
  | 0, _ => ⟨h.s0, h.sn⟩
  | k + 1, hk => h.wf.ent _ _ (h.next (k := k) (by omega)).1
theorem PH.off {n : Nat} (h : PH n dd dst L start) {k : Nat} (hk : (k : Int) + 1 < L) {e : Int} (he : e ∈ pth dd dst L start k) : st dst e ≠ L - ((k : Int) + 1) := by
  obtain ⟨i, hi, rfl⟩ := pth_mem.1 he
  cases i with
  | zero => rw [show lst dd dst L start 0 = start from rfl, h.d0]; omega
  | succ i => rw [(h.next (k := i) (by omega)).2]; omega
open Classical in
noncomputable def onP (dd : List (List Int)) (dst : List Int) (L start : Int) (k : Nat) : Int → Option Bool := fun x => if x ∈ pth dd dst L start k then some true else none
theorem onP_get (k : Nat) (x : Int) : (onP dd dst L start k x).getD false = true ↔ x ∈ pth dd dst L start k := by
  unfold onP; split <;> simp_all
theorem onP_upd [DecidableEq Int] (k : Nat) : updK (onP dd dst L start k) (lst dd dst L start (k + 1)) true = onP dd dst L start (k + 1) := by
  funext x
  unfold updK onP
  rw [pth_succ]
  by_cases e : x = lst dd dst L start (k + 1)
  · subst e; simp
  · rw [if_neg e]; simp [e]
theorem onP_zero [DecidableEq Int] : updK (fun _ => none) start true = onP dd dst L start 0 := by
  funext x
  unfold updK onP
  by_cases e : x = start
  · subst e; simp [pth, lst]
  · rw [if_neg e]; simp [pth, lst, e]
end
end Go.Proofs.Ytemcooggkcneiaa
namespace Go.Proofs.Ytemcooggkcneiaa
open Go.Eng
set_option linter.unusedVariables false
set_option linter.unusedSimpArgs false
/-! ### a search always ends -/
theorem DI.ex {n : Nat} {rr : List (List Int)} {t : Int} (w : WFd n rr) (h0 : 0 ≤ t) (ht : t < n) : ∃ steps, DI n rr t steps [] [] := by
  have inner : ∀ (y : Int) (l : List Int), (∀ e ∈ l, e ∈ rw rr y) → ∀ steps Q, DI n rr t steps Q [y] → ∃ steps' Q', DI n rr t steps' Q' [y] ∧ (∀ e ∈ l, 0 ≤ st steps' e) ∧ (∀ x, 0 ≤ x → 0 ≤ st steps x → st steps' x = st steps x) ∧ 2 * unf steps' + Q'.length ≤ 2 * unf steps + Q.length := by
    intro y l
    induction l with
    | nil => intro _ steps Q h; exact ⟨steps, Q, h, fun e he => (by cases he), fun _ _ _ => rfl, Nat.le_refl _⟩
    | cons e r ih =>
      intro hl steps Q h
      have he : e ∈ rw rr y := hl e (by simp)
      obtain ⟨e0, en⟩ := w.ent y e he
      have hel : e.toNat < steps.length := by rw [h.len]; omega
      by_cases hs : 0 ≤ st steps e
      · obtain ⟨s', Q', h1, h2, h3, h4⟩ := ih (fun z hz => hl z (by simp [hz])) steps Q h
        refine ⟨s', Q', h1, fun z hz => ?_, h3, h4⟩
        rcases List.mem_cons.1 hz with q | q
        · subst q; rw [h3 z e0 hs]; exact hs
        · exact h2 z q
      · have hp := h.push w he (by omega) h0
        obtain ⟨y0, yn, ys⟩ := h.rng y (by simp)
        have hset : ∀ z, 0 ≤ z → st (steps.set e.toNat (st steps y + 1)) z = if z = e then st steps y + 1 else st steps z := fun z hz => st_set e0 hz hel
        have hu := unf_set (v := st steps y + 1) hel (by omega) (by omega)
        obtain ⟨s', Q', h1, h2, h3, h4⟩ := ih (fun z hz => hl z (by simp [hz])) _ _ hp
        refine ⟨s', Q', h1, fun z hz => ?_, fun x hx hxs => ?_, by simp at h4; omega⟩
        · rcases List.mem_cons.1 hz with q | q
          · subst q; rw [h3 z e0 (by rw [hset z e0, if_pos rfl]; omega), hset z e0, if_pos rfl]; omega
          · exact h2 z q
        · have hne : x ≠ e := fun q => by subst q; exact hs hxs
          rw [h3 x hx (by rw [hset x hx, if_neg hne]; exact hxs), hset x hx, if_neg hne]
  have outer : ∀ (m : Nat) steps Q, 2 * unf steps + Q.length ≤ m → DI n rr t steps Q [] → ∃ steps', DI n rr t steps' [] [] := by
    intro m
    induction m with
    | zero =>
      intro steps Q hm h
      cases Q with
      | nil => exact ⟨steps, h⟩
      | cons y Q => simp at hm
    | succ m ih =>
      intro steps Q hm h
      cases Q with
      | nil => exact ⟨steps, h⟩
      | cons y Q =>
        obtain ⟨s', Q', h1, h2, h3, h4⟩ := inner y (rw rr y) (fun _ he => he) steps Q h.pop
        refine ih s' Q' (by simp at hm; omega) (h1.close fun e he => ⟨h2 e he, h1.top e (w.ent y e he).1 (h2 e he) y (by simp)⟩)
  exact outer _ _ _ (Nat.le_refl _) (DI.start h0 ht)
theorem distL_bnd {n : Nat} {rr : List (List Int)} {t : Int} (w : WFd n rr) (h0 : 0 ≤ t) (ht : t < n) (x : Int) : -1 ≤ st (distL n rr t) x ∧ st (distL n rr t) x ≤ (n : Int) - 1 := by
  obtain ⟨steps, h⟩ := DI.ex w h0 ht
  rw [← h.list w h0]
  have key : ∀ x, 0 ≤ x → -1 ≤ st steps x ∧ st steps x ≤ (n : Int) - 1 := fun x hx => by
    have h1 := h.bnd x hx
    by_cases e : 0 ≤ st steps x
    · omega
    · have := h.neg x hx (by omega); omega
  rcases Int.lt_or_le x 0 with g | g
  · have := key ((x.toNat : Nat) : Int) (by omega)
    have e : st steps ((x.toNat : Nat) : Int) = st steps x := by unfold st; rw [Int.toNat_natCast]
    rw [e] at this; exact this
  · exact key x g
theorem distL_self {n : Nat} {rr : List (List Int)} {t : Int} (w : WFd n rr) (h0 : 0 ≤ t) (ht : t < n) : st (distL n rr t) t = 0 := by
  obtain ⟨steps, h⟩ := DI.ex w h0 ht
  rw [← h.list w h0]; exact h.tgt
theorem distL_is {n : Nat} {rr : List (List Int)} {t x : Int} (h0 : 0 ≤ x) (hn : x < n) : IsD rr t x (st (distL n rr t) x) := by rw [distL_st h0 hn]; exact distV_is rr t x
/-! ### the graph turned round -/
def rvK (dd : List (List Int)) (n k : Nat) (l : List Int) : List (List Int) :=
  (List.range n).map (fun (x : Nat) => ((List.range k).filter (fun (d : Nat) => decide ((x : Int) ∈ rw dd (d : Int)))).map (fun (d : Nat) => (d : Int)) ++ (if (x : Int) ∈ l then [(k : Int)] else []))
def rvs (n : Nat) (dd : List (List Int)) : List (List Int) := rvK dd n n []
theorem rvK_len (dd : List (List Int)) (n k : Nat) (l : List Int) : (rvK dd n k l).length = n := by simp [rvK]
theorem rvK_at {dd : List (List Int)} {n k : Nat} {l : List Int} {x : Nat} (h : x < n) : (rvK dd n k l)[x]? = some (((List.range k).filter (fun (d : Nat) => decide ((x : Int) ∈ rw dd (d : Int)))).map (fun (d : Nat) => (d : Int)) ++ (if (x : Int) ∈ l then [(k : Int)] else [])) := by simp [rvK, h]
theorem rvK_zero (dd : List (List Int)) (n : Nat) : rvK dd n 0 [] = List.replicate n [] := by
  apply List.ext_getElem?; intro y
  rw [List.getElem?_replicate]
  by_cases hy : y < n
  · rw [rvK_at hy, if_pos hy]; simp
  · rw [List.getElem?_eq_none (by rw [rvK_len]; omega), if_neg hy]
theorem rvK_step {dd : List (List Int)} {n k : Nat} {l : List Int} {e : Int} (h0 : 0 ≤ e) (hn : e < n) (he : e ∉ l) : rvK dd n k (l ++ [e]) = (rvK dd n k l).set e.toNat ((rvK dd n k l).getD e.toNat [] ++ [(k : Int)]) := by
  have hx : e.toNat < n := by omega
  have hc : ((e.toNat : Nat) : Int) = e := by omega
  rw [List.getD_eq_getElem?_getD, rvK_at hx, Option.getD_some, hc, if_neg he, List.append_nil]
  conv => lhs; unfold rvK
  rw [map_range_set (x := e.toNat) (f := fun (x : Nat) => ((List.range k).filter (fun (d : Nat) => decide ((x : Int) ∈ rw dd (d : Int)))).map (fun (d : Nat) => (d : Int)) ++ (if (x : Int) ∈ l then [(k : Int)] else [])) hx (fun y _ hy => ?_)]
  · rw [hc, if_pos (by simp)]; rfl
  · have hne : (y : Int) ≠ e := fun q => hy (by omega)
    congr 1
    by_cases q : (y : Int) ∈ l
    · rw [if_pos q, if_pos (by simp [q])]
    · rw [if_neg q, if_neg (by simp [q, hne])]
theorem rvK_next (dd : List (List Int)) (n k : Nat) : rvK dd n k (rw dd (k : Int)) = rvK dd n (k + 1) [] := by
  unfold rvK
  refine List.map_congr_left fun x _ => ?_
  rw [List.range_succ, List.filter_append, List.map_append]
  by_cases q : (x : Int) ∈ rw dd (k : Int)
  · simp [q]
  · simp [q]
theorem rvs_rw {n : Nat} {dd : List (List Int)} {x : Int} (h0 : 0 ≤ x) (hn : x < n) : rw (rvs n dd) x = ((List.range n).filter (fun (d : Nat) => decide (x ∈ rw dd (d : Int)))).map (fun (d : Nat) => (d : Int)) := by
  unfold rw rvs
  rw [List.getD_eq_getElem?_getD, rvK_at (by omega), Option.getD_some, show ((x.toNat : Nat) : Int) = x by omega]
  simp [rw]
theorem rvs_mem {n : Nat} {dd : List (List Int)} {x d : Int} (h0 : 0 ≤ x) (hn : x < n) : d ∈ rw (rvs n dd) x ↔ (0 ≤ d ∧ d < n ∧ x ∈ rw dd d) := by
  rw [rvs_rw h0 hn, List.mem_map]
  constructor
  · rintro ⟨k, hk, rfl⟩
    obtain ⟨h1, h2⟩ := List.mem_filter.1 hk
    have := List.mem_range.1 h1
    exact ⟨by omega, by omega, by simpa using h2⟩
  · rintro ⟨h1, h2, h3⟩
    exact ⟨d.toNat, List.mem_filter.2 ⟨List.mem_range.2 (by omega), by rw [show ((d.toNat : Nat) : Int) = d by omega]; simpa using h3⟩, by omega⟩
theorem rw_out {n : Nat} {dd : List (List Int)} (hl : dd.length = n) {x : Int} (h : ¬ x.toNat < n) : rw dd x = [] := by unfold rw; rw [List.getD_eq_getElem?_getD, List.getElem?_eq_none (by omega)]; rfl
theorem rw_nat (dd : List (List Int)) (x : Int) : rw dd x = rw dd ((x.toNat : Nat) : Int) := by unfold rw; rw [Int.toNat_natCast]
theorem rvs_wf {n : Nat} (dd : List (List Int)) : WFd n (rvs n dd) := by
  refine ⟨rvK_len _ _ _ _, fun x e he => ?_, fun x => ?_⟩
  · by_cases hx : x.toNat < n
    · rw [rw_nat, rvs_mem (by omega) (by omega)] at he; exact ⟨he.1, he.2.1⟩
    · rw [rw_out (dd := rvs n dd) (rvK_len _ _ _ _) hx] at he; cases he
  · by_cases hx : x.toNat < n
    · rw [rw_nat, rvs_rw (by omega) (by omega)]
      exact map_cast_strict ((strict_range n).sublist List.filter_sublist)
    · rw [rw_out (dd := rvs n dd) (rvK_len _ _ _ _) hx]; exact .nil
/-! ### the least cycle -/
section
variable (n : Nat) (dd : List (List Int))
noncomputable def cyL (k : Nat) : Int := shT (distL n (rvs n dd) (k : Int)) (rw dd (k : Int))
noncomputable def cyS : Nat → Int × Int × List Int
  | 0 => (0, -1, [])
  | k + 1 => if 0 < cyL n dd k ∧ ((cyS k).2.1 < 0 ∨ cyL n dd k < (cyS k).1) then (cyL n dd k, (k : Int), distL n (rvs n dd) (k : Int)) else cyS k
noncomputable def cycF : List Int := if (cyS n dd n).2.1 < 0 then [] else pth dd (cyS n dd n).2.2 (cyS n dd n).1 (cyS n dd n).2.1 ((cyS n dd n).1 - 1).toNat
end
/-- what the best so far is -/
theorem cyS_is (n : Nat) (dd : List (List Int)) : ∀ k, ((cyS n dd k).2.1 < 0 ∧ cyS n dd k = (0, -1, []) ∧ ∀ j, j < k → ¬ 0 < cyL n dd j) ∨
    (∃ j, j < k ∧ cyS n dd k = (cyL n dd j, (j : Int), distL n (rvs n dd) (j : Int)) ∧ 0 < cyL n dd j ∧ (∀ i, i < j → 0 < cyL n dd i → cyL n dd j < cyL n dd i) ∧ ∀ i, i < k → 0 < cyL n dd i → cyL n dd j ≤ cyL n dd i) := by
  intro k
  induction k with
  | zero => exact .inl ⟨(show (-1 : Int) < 0 by decide), rfl, fun j hj => by omega⟩
  | succ k ih =>
    rw [cyS]
    rcases ih with ⟨h1, h2, h3⟩ | ⟨j, h1, h2, h3, h4, h5⟩
    · by_cases c : 0 < cyL n dd k
      · rw [if_pos ⟨c, .inl h1⟩]
        refine .inr ⟨k, by omega, rfl, c, fun i hi hc => absurd hc (h3 i hi), fun i hi hc => ?_⟩
        by_cases e : i = k
        · subst e; exact Int.le_refl _
        · exact absurd hc (h3 i (by omega))
      · rw [if_neg (fun q => c q.1)]
        refine .inl ⟨h1, h2, fun j hj => ?_⟩
        by_cases e : j = k
        · subst e; exact c
        · exact h3 j (by omega)
    · by_cases c : 0 < cyL n dd k ∧ cyL n dd k < cyL n dd j
      · rw [if_pos ⟨c.1, .inr (by rw [h2]; exact c.2)⟩]
        refine .inr ⟨k, by omega, rfl, c.1, fun i hi hc => ?_, fun i hi hc => ?_⟩
        · have := h5 i hi hc; omega
        · by_cases e : i = k
          · subst e; exact Int.le_refl _
          · have := h5 i (by omega) hc; omega
      · rw [if_neg (by rw [h2]; rintro ⟨q1, q2⟩; rcases q2 with q2 | q2; (simp at q2; omega); exact c ⟨q1, q2⟩)]
        refine .inr ⟨j, by omega, h2, h3, h4, fun i hi hc => ?_⟩
        by_cases e : i = k
        · subst e; rcases Int.lt_or_le (cyL n dd i) (cyL n dd j) with q | q
          · exact absurd ⟨hc, q⟩ c
          · exact q
        · exact h5 i (by omega) hc
theorem shT_ex {steps : List Int} : ∀ (l : List Int), (∀ e ∈ l, -1 ≤ st steps e) → (shT steps l = 0 ∧ ∀ e ∈ l, st steps e < 0) ∨ (0 < shT steps l ∧ (∃ e ∈ l, 0 ≤ st steps e ∧ shT steps l = st steps e + 1) ∧ ∀ e ∈ l, 0 ≤ st steps e → shT steps l ≤ st steps e + 1) := by
  have key : ∀ (l0 : List Int) (k : Nat), k ≤ l0.length → (∀ e ∈ l0.take k, -1 ≤ st steps e) → (shT steps (l0.take k) = 0 ∧ ∀ e ∈ l0.take k, st steps e < 0) ∨ (0 < shT steps (l0.take k) ∧ (∃ e ∈ l0.take k, 0 ≤ st steps e ∧ shT steps (l0.take k) = st steps e + 1) ∧ ∀ e ∈ l0.take k, 0 ≤ st steps e → shT steps (l0.take k) ≤ st steps e + 1) := by
   intro l0 k
   induction k with
   | zero => intro _ _; exact .inl ⟨rfl, fun e he => by simp at he⟩
   | succ k ih0 =>
    intro hk hb
    have ih := ih0 (by omega)
    rw [List.take_succ_eq_append_getElem (show k < l0.length by omega)] at hb ⊢
    generalize l0.take k = l at *
    generalize l0[k] = e at *
    have hs : shT steps (l ++ [e]) = shS steps (shT steps l) e := by unfold shT; rw [List.foldl_append]; rfl
    have hb0 := hb e (by simp)
    rcases ih (fun z hz => hb z (by simp [hz])) with ⟨h1, h2⟩ | ⟨h1, ⟨z, hz, hz1, hz2⟩, h3⟩
    · rw [hs, h1]; unfold shS
      by_cases c : 0 ≤ st steps e
      · rw [if_pos ⟨c, .inl rfl⟩]
        refine .inr ⟨by omega, ⟨e, by simp, c, rfl⟩, fun z hz hz0 => ?_⟩
        rcases List.mem_append.1 hz with q | q
        · have := h2 z q; omega
        · simp at q; subst q; exact Int.le_refl _
      · rw [if_neg (fun q => c q.1)]
        refine .inl ⟨rfl, fun z hz => ?_⟩
        rcases List.mem_append.1 hz with q | q
        · exact h2 z q
        · simp at q; subst q; omega
    · rw [hs]; unfold shS
      by_cases c : 0 ≤ st steps e ∧ st steps e + 1 < shT steps l
      · rw [if_pos ⟨c.1, .inr c.2⟩]
        refine .inr ⟨by omega, ⟨e, by simp, c.1, rfl⟩, fun y hy hy0 => ?_⟩
        rcases List.mem_append.1 hy with q | q
        · have := h3 y q hy0; omega
        · simp at q; subst q; exact Int.le_refl _
      · rw [if_neg (by rintro ⟨q1, q2⟩; rcases q2 with q2 | q2; omega; exact c ⟨q1, q2⟩)]
        refine .inr ⟨h1, ⟨z, by simp [hz], hz1, hz2⟩, fun y hy hy0 => ?_⟩
        rcases List.mem_append.1 hy with q | q
        · exact h3 y q hy0
        · simp at q; subst q
          rcases Int.lt_or_le (st steps y + 1) (shT steps l) with g | g
          · exact absurd ⟨hy0, g⟩ c
          · exact g
  intro l hb
  have := key l l.length (Nat.le_refl _)
  rw [List.take_length] at this
  exact this hb
/-- at a start with a way back, the path can be found -/
theorem PH_of {n : Nat} {dd : List (List Int)} (w : WFd n dd) {j : Nat} (hj : j < n) (hL : 0 < cyL n dd j) : PH n dd (distL n (rvs n dd) (j : Int)) (cyL n dd j) (j : Int) := by
  have wr := rvs_wf (n := n) dd
  have hb := fun x => distL_bnd wr (t := (j : Int)) (by omega) (by omega) x
  rcases shT_ex (steps := distL n (rvs n dd) (j : Int)) (rw dd (j : Int)) (fun e _ => (hb e).1) with ⟨h1, _⟩ | ⟨_, ⟨e, he, he1, he2⟩, hmin⟩
  · unfold cyL at hL; omega
  have he2 : cyL n dd j = st (distL n (rvs n dd) (j : Int)) e + 1 := he2
  refine ⟨w, distL_len _ _ _, by omega, by omega, by omega, by have := (hb e).2; omega, distL_self wr (by omega) (by omega), fun k => ?_⟩
  induction k with
  | zero => intro _; exact ⟨e, he, by simp; omega⟩
  | succ k ih =>
    intro hk
    have hk' : (k : Int) + 1 < cyL n dd j := by omega
    obtain ⟨h1, h2⟩ := nxE_ok (ih hk')
    have hin := w.ent _ _ h1
    have h2 : st (distL n (rvs n dd) (j : Int)) (lst dd (distL n (rvs n dd) (j : Int)) (cyL n dd j) (j : Int) (k + 1)) = cyL n dd j - ((k : Int) + 1) := h2
    have hin : 0 ≤ lst dd (distL n (rvs n dd) (j : Int)) (cyL n dd j) (j : Int) (k + 1) ∧ lst dd (distL n (rvs n dd) (j : Int)) (cyL n dd j) (j : Int) (k + 1) < n := hin
    generalize lst dd (distL n (rvs n dd) (j : Int)) (cyL n dd j) (j : Int) (k + 1) = x at *
    rcases distL_is (rr := rvs n dd) (t := (j : Int)) hin.1 hin.2 with ⟨q, _⟩ | ⟨m, q1, q2, q3⟩
    · omega
    · cases m with
      | zero => omega
      | succ m =>
        obtain ⟨y, hy1, hy2⟩ := q2
        have hy0 : 0 ≤ y ∧ y < n := by
          by_cases hyn : y.toNat < n
          · by_cases g : 0 ≤ y
            · omega
            · exfalso
              cases m with
              | zero => have : y = (j : Int) := hy1; omega
              | succ m => obtain ⟨u, _, hu⟩ := hy1; have := wr.ent _ _ hu; omega
          · rw [rw_out wr.len hyn] at hy2; cases hy2
        have hyd : y ∈ rw dd x := ((rvs_mem hy0.1 hy0.2).1 hy2).2.2
        refine ⟨y, hyd, ?_⟩
        rcases distL_is (rr := rvs n dd) (t := (j : Int)) hy0.1 hy0.2 with ⟨_, r⟩ | ⟨i, r1, r2, r3⟩
        · exact absurd hy1 (r m)
        · have h6 := r3 m hy1
          have h7 := q3 (i + 1) ⟨y, r2, hy2⟩
          rw [r1]; omega
end Go.Proofs.Ytemcooggkcneiaa
namespace Go.Proofs.Ytemcooggkcneiaa
open Go.Eng
set_option linter.unusedVariables false
set_option linter.unusedSimpArgs false
/-! ### the order: each time the least definition whose dependencies are all placed -/
def rdyB (dd : List (List Int)) (out : List Int) (x : Int) : Bool := decide (x ∉ out) && (rw dd x).all (fun e => decide (e ∈ out))
def nxt (n : Nat) (dd : List (List Int)) (out : List Int) : Option Int := ((List.range n).map (fun (k : Nat) => (k : Int))).find? (rdyB dd out)
def ordR (n : Nat) (dd : List (List Int)) : Nat → List Int
  | 0 => []
  | k + 1 => match nxt n dd (ordR n dd k) with | some d => ordR n dd k ++ [d] | none => ordR n dd k
def ordV (n : Nat) (dd : List (List Int)) : List Int × Int := if (ordR n dd n).length < n then ([], 9) else (ordR n dd n, 0)
theorem rdyB_iff {dd : List (List Int)} {out : List Int} {x : Int} : rdyB dd out x = true ↔ x ∉ out ∧ ∀ e ∈ rw dd x, e ∈ out := by
  unfold rdyB; simp
theorem mem_cast {n : Nat} {x : Int} : x ∈ (List.range n).map (fun (k : Nat) => (k : Int)) ↔ 0 ≤ x ∧ x < n := by
  rw [List.mem_map]
  constructor
  · rintro ⟨k, h, rfl⟩; have := List.mem_range.1 h; omega
  · rintro ⟨h1, h2⟩; exact ⟨x.toNat, List.mem_range.2 (by omega), by omega⟩
theorem cast_at {n i : Nat} (h : i < ((List.range n).map (fun (k : Nat) => (k : Int))).length) : ((List.range n).map (fun (k : Nat) => (k : Int)))[i] = (i : Int) := by simp
theorem nxt_some {n : Nat} {dd : List (List Int)} {out : List Int} {d : Int} : nxt n dd out = some d ↔ (0 ≤ d ∧ d < n ∧ rdyB dd out d = true ∧ ∀ x : Int, 0 ≤ x → x < d → rdyB dd out x = false) := by
  unfold nxt
  rw [List.find?_eq_some_iff_getElem]
  constructor
  · rintro ⟨h1, i, hi, h2, h3⟩
    rw [cast_at] at h2
    have hin : i < n := by simpa using hi
    refine ⟨by omega, by omega, h1, fun x hx hxd => ?_⟩
    have := h3 x.toNat (by omega)
    rw [cast_at] at this
    rw [show ((x.toNat : Nat) : Int) = x by omega] at this
    simpa using this
  · rintro ⟨h0, h1, h2, h3⟩
    refine ⟨h2, d.toNat, by simp; omega, by rw [cast_at]; omega, fun j hj => ?_⟩
    rw [cast_at, h3 (j : Int) (by omega) (by omega)]; rfl
theorem nxt_none {n : Nat} {dd : List (List Int)} {out : List Int} : nxt n dd out = none ↔ ∀ x : Int, 0 ≤ x → x < n → rdyB dd out x = false := by
  unfold nxt
  rw [List.find?_eq_none]
  constructor
  · intro h x h0 h1
    have := h x (mem_cast.2 ⟨h0, h1⟩)
    simpa using this
  · intro h x hx
    obtain ⟨h0, h1⟩ := mem_cast.1 hx
    rw [h x h0 h1]; simp
/-- what is placed -/
structure OK (n : Nat) (dd : List (List Int)) (out : List Int) : Prop where
  nd : out.Nodup
  rng : ∀ x ∈ out, 0 ≤ x ∧ x < n
  cls : ∀ x ∈ out, ∀ e ∈ rw dd x, e ∈ out
theorem OK.nil (n : Nat) (dd : List (List Int)) : OK n dd [] := ⟨.nil, fun x h => (by cases h), fun x h => (by cases h)⟩
theorem OK.add {n : Nat} {dd : List (List Int)} {out : List Int} (h : OK n dd out) {d : Int} (hd : nxt n dd out = some d) : OK n dd (out ++ [d]) := by
  obtain ⟨h0, h1, h2, _⟩ := nxt_some.1 hd
  obtain ⟨g1, g2⟩ := rdyB_iff.1 h2
  refine ⟨?_, fun x hx => ?_, fun x hx e he => ?_⟩
  · rw [List.nodup_append]
    exact ⟨h.nd, by simp, fun a ha b hb => by simp at hb; subst hb; intro e; subst e; exact g1 ha⟩
  · rcases List.mem_append.1 hx with q | q
    · exact h.rng x q
    · simp at q; subst q; exact ⟨h0, h1⟩
  · rcases List.mem_append.1 hx with q | q
    · exact List.mem_append_left _ (h.cls x q e he)
    · simp at q; subst q; exact List.mem_append_left _ (g2 e he)
theorem ordR_ok (n : Nat) (dd : List (List Int)) : ∀ k, OK n dd (ordR n dd k)
  | 0 => OK.nil n dd
  | k + 1 => by
    rw [ordR]
    cases h : nxt n dd (ordR n dd k) with
    | none => exact ordR_ok n dd k
    | some d => exact (ordR_ok n dd k).add h
theorem OK.len {n : Nat} {dd : List (List Int)} {out : List Int} (h : OK n dd out) : out.length ≤ n := by
  have := h.nd.length_le_of_subset (l₂ := (List.range n).map (fun (k : Nat) => (k : Int))) (fun x hx => mem_cast.2 (h.rng x hx))
  simpa using this
theorem ordR_stop {n : Nat} {dd : List (List Int)} {k : Nat} (h : nxt n dd (ordR n dd k) = none) : ∀ m, k ≤ m → ordR n dd m = ordR n dd k := by
  intro m hm
  induction m with
  | zero => have : k = 0 := by omega
            subst this; rfl
  | succ m ih =>
    by_cases e : k = m + 1
    · subst e; rfl
    · have h1 := ih (by omega)
      rw [ordR, h1, h]
def cntU (out l : List Int) : Nat := (l.filter (fun e => decide (e ∉ out))).length
theorem cntU_zero {out l : List Int} : cntU out l = 0 ↔ ∀ e ∈ l, e ∈ out := by
  unfold cntU
  rw [List.length_eq_zero_iff, List.filter_eq_nil_iff]
  simp
theorem cntU_nil (l : List Int) : cntU [] l = l.length := by unfold cntU; simp
theorem cntU_le (out l : List Int) : cntU out l ≤ l.length := List.length_filter_le _ _
theorem cntU_add {out : List Int} {d : Int} (hd : d ∉ out) : ∀ {l : List Int}, l.Pairwise (· < ·) → cntU out l = cntU (out ++ [d]) l + (if d ∈ l then 1 else 0) := by
  intro l
  induction l with
  | nil => intro _; rfl
  | cons e r ih =>
    intro hp
    rw [List.pairwise_cons] at hp
    have h1 := ih hp.2
    unfold cntU at h1 ⊢
    by_cases e1 : e = d
    · subst e1
      have hn : e ∉ r := fun q => by have := hp.1 e q; omega
      rw [if_neg hn] at h1
      simp [hd]
      simpa using h1
    · have e2 : ¬ d = e := fun q => e1 q.symm
      by_cases q : e ∈ out
      · simp [q, e2]; simpa using h1
      · simp [q, e1, e2]
        simp at h1
        omega
def wv (W : List Int) (u : Int) : Int := W.getD u.toNat 0
theorem wv_get {W : List Int} {u : Int} (h : u.toNat < W.length) : W[0 + u.toNat]? = some (wv W u) := by simp [wv, h]
theorem wv_set {W : List Int} {e z v : Int} (he : 0 ≤ e) (hz : 0 ≤ z) (h : e.toNat < W.length) : wv (W.set e.toNat v) z = if z = e then v else wv W z := by
  unfold wv
  by_cases e1 : z = e
  · subst e1; simp [h]
  · rw [if_neg e1, List.getD_eq_getElem?_getD, List.getElem?_set_ne (by omega), ← List.getD_eq_getElem?_getD]
/-- the first pass: who waits for how many -/
structure K0 (n : Nat) (dd : List (List Int)) (k : Nat) (W H : List Int) : Prop where
  len : W.length = n
  wt : ∀ u : Int, 0 ≤ u → u < k → wv W u = (((rw dd u).length : Nat) : Int)
  hp : ∀ x, x ∈ H ↔ (0 ≤ x ∧ x < k ∧ rw dd x = [])
  nd : H.Nodup
theorem K0.start (n : Nat) (dd : List (List Int)) : K0 n dd 0 (List.replicate n 0) [] := ⟨by simp, fun u h0 h1 => by omega, fun x => by simp; omega, .nil⟩
theorem K0.hlen {n : Nat} {dd : List (List Int)} {k : Nat} {W H : List Int} (h : K0 n dd k W H) : H.length ≤ k := by
  have := h.nd.length_le_of_subset (l₂ := (List.range k).map (fun (k : Nat) => (k : Int))) (fun x hx => mem_cast.2 ⟨((h.hp x).1 hx).1, ((h.hp x).1 hx).2.1⟩)
  simpa using this
theorem K0.next {n : Nat} {dd : List (List Int)} {k : Nat} {W H : List Int} (h : K0 n dd k W H) (hk : k < n) (hr : rw dd (k : Int) ≠ []) : K0 n dd (k + 1) (W.set k (((rw dd (k : Int)).length : Nat) : Int)) H := by
  have hs : ∀ u : Int, 0 ≤ u → wv (W.set k (((rw dd (k : Int)).length : Nat) : Int)) u = if u = (k : Int) then (((rw dd (k : Int)).length : Nat) : Int) else wv W u := fun u hu => by
    have := wv_set (W := W) (e := (k : Int)) (z := u) (v := (((rw dd (k : Int)).length : Nat) : Int)) (by omega) hu (by rw [Int.toNat_natCast, h.len]; exact hk)
    rwa [Int.toNat_natCast] at this
  refine ⟨by simp [h.len], fun u h0 h1 => ?_, fun x => ?_, h.nd⟩
  · rw [hs u h0]
    split
    · rename_i e; subst e; rfl
    · exact h.wt u h0 (by omega)
  · rw [h.hp]
    constructor
    · rintro ⟨a, b, c⟩; exact ⟨a, by omega, c⟩
    · rintro ⟨a, b, c⟩
      refine ⟨a, ?_, c⟩
      by_cases e : x = (k : Int)
      · subst e; exact absurd c hr
      · omega
theorem K0.push {n : Nat} {dd : List (List Int)} {k : Nat} {W H H2 : List Int} (h : K0 n dd k W H) (hk : k < n) (hr : rw dd (k : Int) = []) (hp : H2.Perm ((k : Int) :: H)) : K0 n dd (k + 1) (W.set k (((rw dd (k : Int)).length : Nat) : Int)) H2 := by
  have hs : ∀ u : Int, 0 ≤ u → wv (W.set k (((rw dd (k : Int)).length : Nat) : Int)) u = if u = (k : Int) then (((rw dd (k : Int)).length : Nat) : Int) else wv W u := fun u hu => by
    have := wv_set (W := W) (e := (k : Int)) (z := u) (v := (((rw dd (k : Int)).length : Nat) : Int)) (by omega) hu (by rw [Int.toNat_natCast, h.len]; exact hk)
    rwa [Int.toNat_natCast] at this
  refine ⟨by simp [h.len], fun u h0 h1 => ?_, fun x => ?_, ?_⟩
  · rw [hs u h0]
    split
    · rename_i e; subst e; rfl
    · exact h.wt u h0 (by omega)
  · rw [hp.mem_iff, List.mem_cons, h.hp]
    constructor
    · rintro (rfl | ⟨a, b, c⟩)
      · exact ⟨by omega, by omega, hr⟩
      · exact ⟨a, by omega, c⟩
    · rintro ⟨a, b, c⟩
      by_cases e : x = (k : Int)
      · exact .inl e
      · exact .inr ⟨a, by omega, c⟩
  · refine hp.symm.nodup (List.nodup_cons.2 ⟨fun q => ?_, h.nd⟩)
    have := ((h.hp _).1 q).2.1; omega
structure KI (n : Nat) (dd : List (List Int)) (out W H : List Int) : Prop where
  ok : OK n dd out
  od : out = ordR n dd out.length
  len : W.length = n
  wt : ∀ u : Int, 0 ≤ u → u < n → wv W u = ((cntU out (rw dd u) : Nat) : Int)
  hp : ∀ x, x ∈ H ↔ (0 ≤ x ∧ x < n ∧ x ∉ out ∧ cntU out (rw dd x) = 0)
  nd : H.Nodup
theorem K0.done {n : Nat} {dd : List (List Int)} {W H : List Int} (h : K0 n dd n W H) : KI n dd [] W H := by
  refine ⟨OK.nil n dd, rfl, h.len, fun u h0 h1 => by rw [h.wt u h0 h1, cntU_nil], fun x => ?_, h.nd⟩
  rw [h.hp, cntU_nil, List.length_eq_zero_iff]
  simp
theorem KI.hlen {n : Nat} {dd : List (List Int)} {out W H : List Int} (h : KI n dd out W H) : H.length + out.length ≤ n := by
  have hnd : (H ++ out).Nodup := by
    rw [List.nodup_append]
    exact ⟨h.nd, h.ok.nd, fun a ha b hb e => by subst e; exact ((h.hp a).1 ha).2.2.1 hb⟩
  have := hnd.length_le_of_subset (l₂ := (List.range n).map (fun (k : Nat) => (k : Int))) (fun x hx => mem_cast.2 (by
    rcases List.mem_append.1 hx with q | q
    · exact ⟨((h.hp x).1 q).1, ((h.hp x).1 q).2.1⟩
    · exact h.ok.rng x q))
  simpa using this
structure KJ (n : Nat) (dd : List (List Int)) (out : List Int) (d : Int) (W H S : List Int) : Prop where
  ok : OK n dd out
  od : out = ordR n dd out.length
  len : W.length = n
  nu : ∀ u : Int, d ∈ rw dd u → u ∉ out
  wt : ∀ u : Int, 0 ≤ u → u < n → wv W u = ((cntU out (rw dd u) : Nat) : Int) + (if d ∈ rw dd u ∧ u ∉ S then 1 else 0)
  hp : ∀ x, x ∈ H ↔ (0 ≤ x ∧ x < n ∧ x ∉ out ∧ cntU out (rw dd x) = 0 ∧ (d ∉ rw dd x ∨ x ∈ S))
  nd : H.Nodup
theorem KI.next {n : Nat} {dd : List (List Int)} {out W H : List Int} (h : KI n dd out W H) {d : Int} (hd : d ∈ H) (hm : ∀ x ∈ H, d ≤ x) : nxt n dd out = some d := by
  obtain ⟨h0, h1, h2, h3⟩ := (h.hp d).1 hd
  refine nxt_some.2 ⟨h0, h1, rdyB_iff.2 ⟨h2, cntU_zero.1 h3⟩, fun x hx hxd => ?_⟩
  cases e : rdyB dd out x with
  | false => rfl
  | true =>
    obtain ⟨q1, q2⟩ := rdyB_iff.1 e
    have := hm x ((h.hp x).2 ⟨hx, by omega, q1, cntU_zero.2 q2⟩)
    omega
theorem KI.stop {n : Nat} {dd : List (List Int)} {out W : List Int} (h : KI n dd out W []) : nxt n dd out = none := by
  refine nxt_none.2 fun x hx hxn => ?_
  cases e : rdyB dd out x with
  | false => rfl
  | true =>
    obtain ⟨q1, q2⟩ := rdyB_iff.1 e
    have := (h.hp x).2 ⟨hx, hxn, q1, cntU_zero.2 q2⟩
    cases this
theorem KI.pop {n : Nat} {dd : List (List Int)} {out W H H' : List Int} {d : Int} (w : WFd n dd) (h : KI n dd out W H) (hp : H.Perm (d :: H')) (hm : ∀ x ∈ H, d ≤ x) : KJ n dd (out ++ [d]) d W H' [] := by
  have hd : d ∈ H := hp.mem_iff.2 (by simp)
  have hnx := h.next hd hm
  obtain ⟨h0, h1, h2, h3⟩ := (h.hp d).1 hd
  have hnd := hp.nodup h.nd
  rw [List.nodup_cons] at hnd
  have hadd : ∀ u, cntU out (rw dd u) = cntU (out ++ [d]) (rw dd u) + (if d ∈ rw dd u then 1 else 0) := fun u => cntU_add h2 (w.srt u)
  refine ⟨h.ok.add hnx, ?_, h.len, fun u hu hm' => ?_, fun u a b => ?_, fun x => ?_, hnd.2⟩
  · rw [List.length_append, List.length_singleton, ordR, ← h.od, hnx]
  · rcases List.mem_append.1 hm' with q | q
    · exact h2 (h.ok.cls u q d hu)
    · simp at q; subst q
      exact h2 ((cntU_zero.1 h3) u hu)
  · rw [h.wt u a b, hadd u]
    by_cases e : d ∈ rw dd u <;> simp [e]
  · have hx : x ∈ H' ↔ x ∈ H ∧ x ≠ d := by
      rw [hp.mem_iff, List.mem_cons]
      constructor
      · intro q; exact ⟨.inr q, fun e => by subst e; exact hnd.1 q⟩
      · rintro ⟨q | q, r⟩
        · exact absurd q r
        · exact q
    rw [hx, h.hp, hadd x]
    constructor
    · rintro ⟨⟨a, b, c, e⟩, f⟩
      refine ⟨a, b, by simp [c, f], by omega, .inl fun q => ?_⟩
      rw [if_pos q] at e; omega
    · rintro ⟨a, b, c, e, f⟩
      simp at c f
      refine ⟨⟨a, b, c.1, ?_⟩, c.2⟩
      rw [if_neg f]; omega
theorem KJ.hlen {n : Nat} {dd : List (List Int)} {out W H S : List Int} {d : Int} (h : KJ n dd out d W H S) : H.length + out.length ≤ n := by
  have hnd : (H ++ out).Nodup := by
    rw [List.nodup_append]
    exact ⟨h.nd, h.ok.nd, fun a ha b hb e => by subst e; exact ((h.hp a).1 ha).2.2.1 hb⟩
  have := hnd.length_le_of_subset (l₂ := (List.range n).map (fun (k : Nat) => (k : Int))) (fun x hx => mem_cast.2 (by
    rcases List.mem_append.1 hx with q | q
    · exact ⟨((h.hp x).1 q).1, ((h.hp x).1 q).2.1⟩
    · exact h.ok.rng x q))
  simpa using this
theorem KJ.step {n : Nat} {dd : List (List Int)} {out W H H2 S : List Int} {d u : Int} (h : KJ n dd out d W H S) (hu0 : 0 ≤ u) (hun : u < n) (hd : d ∈ rw dd u) (hS : u ∉ S) (hp : if wv W u - 1 = 0 then H2.Perm (u :: H) else H2 = H) : KJ n dd out d (W.set u.toNat (wv W u - 1)) H2 (S ++ [u]) := by
  have hw := h.wt u hu0 hun
  rw [if_pos ⟨hd, hS⟩] at hw
  have hs : ∀ z, 0 ≤ z → wv (W.set u.toNat (wv W u - 1)) z = if z = u then wv W u - 1 else wv W z := fun z hz => wv_set hu0 hz (by rw [h.len]; omega)
  have hmem : ∀ x, x ∈ H2 ↔ (x ∈ H ∨ (x = u ∧ cntU out (rw dd u) = 0)) := fun x => by
    split at hp
    · rw [hp.mem_iff, List.mem_cons]
      constructor
      · rintro (q | q)
        · exact .inr ⟨q, by omega⟩
        · exact .inl q
      · rintro (q | q)
        · exact .inr q
        · exact .inl q.1
    · rw [hp]
      constructor
      · exact .inl
      · rintro (q | ⟨_, q⟩)
        · exact q
        · omega
  refine ⟨h.ok, h.od, by simp [h.len], h.nu, fun z a b => ?_, fun x => ?_, ?_⟩
  · rw [hs z a]
    by_cases e : z = u
    · subst e; rw [if_pos rfl, hw, if_neg (by simp)]; omega
    · rw [if_neg e, h.wt z a b]
      have : (d ∈ rw dd z ∧ z ∉ S ++ [u]) ↔ (d ∈ rw dd z ∧ z ∉ S) := by simp [e]
      by_cases q : d ∈ rw dd z ∧ z ∉ S
      · rw [if_pos q, if_pos (this.2 q)]
      · rw [if_neg q, if_neg (fun r => q (this.1 r))]
  · rw [hmem, h.hp]
    by_cases e : x = u
    · subst e
      constructor
      · rintro (⟨a, b, c, f, g⟩ | ⟨_, g⟩)
        · exact ⟨a, b, c, f, .inr (by simp)⟩
        · exact ⟨hu0, hun, h.nu x hd, g, .inr (by simp)⟩
      · rintro ⟨a, b, c, f, g⟩; exact .inr ⟨rfl, f⟩
    · constructor
      · rintro (⟨a, b, c, f, g⟩ | ⟨g, _⟩)
        · exact ⟨a, b, c, f, g.imp id (fun q => List.mem_append_left _ q)⟩
        · exact absurd g e
      · rintro ⟨a, b, c, f, g⟩
        refine .inl ⟨a, b, c, f, g.imp id (fun q => ?_)⟩
        rcases List.mem_append.1 q with r | r
        · exact r
        · simp at r; exact absurd r e
  · split at hp
    · refine hp.symm.nodup (List.nodup_cons.2 ⟨fun q => ?_, h.nd⟩)
      have := ((h.hp u).1 q).2.2.2.2
      exact this.elim (fun r => r hd) hS
    · rw [hp]; exact h.nd
theorem KJ.done {n : Nat} {dd : List (List Int)} {out W H S : List Int} {d : Int} (h : KJ n dd out d W H S) (hS : ∀ u : Int, 0 ≤ u → u < n → d ∈ rw dd u → u ∈ S) : KI n dd out W H := by
  refine ⟨h.ok, h.od, h.len, fun u a b => ?_, fun x => ?_, h.nd⟩
  · rw [h.wt u a b, if_neg (fun q => q.2 (hS u a b q.1))]; omega
  · rw [h.hp]
    constructor
    · rintro ⟨a, b, c, e, _⟩; exact ⟨a, b, c, e⟩
    · rintro ⟨a, b, c, e⟩
      refine ⟨a, b, c, e, ?_⟩
      by_cases q : d ∈ rw dd x
      · exact .inr (hS x a b q)
      · exact .inl q
theorem KI.fin {n : Nat} {dd : List (List Int)} {out W : List Int} (h : KI n dd out W []) : out = ordR n dd n := by
  have h1 := h.stop
  rw [h.od] at h1
  rw [ordR_stop h1 n (h.ok.len)]
  exact h.od
end Go.Proofs.Ytemcooggkcneiaa
namespace Go.Proofs.Ytemcooggkcneiaa
open Go.Eng
set_option linter.unusedVariables false
set_option linter.unusedSimpArgs false
/-! ### a graph by its function, as the reference has it -/
structure Fd (n : Nat) (dd : List (List Int)) (f : Int → List Int) : Prop where
  w : WFd n dd
  inr : ∀ x : Int, 0 ≤ x → x < n → f x = rw dd x
  off : ∀ x : Int, ¬ (0 ≤ x ∧ x < n) → f x = []
section
variable {n : Nat} {dd : List (List Int)} {f : Int → List Int}
theorem Fd.ent (h : Fd n dd f) {x e : Int} (he : e ∈ f x) : 0 ≤ e ∧ e < n := by
  by_cases c : 0 ≤ x ∧ x < n
  · rw [h.inr x c.1 c.2] at he; exact h.w.ent _ _ he
  · rw [h.off x c] at he; cases he
theorem Fd.src (h : Fd n dd f) {x e : Int} (he : e ∈ f x) : 0 ≤ x ∧ x < n := by
  by_cases c : 0 ≤ x ∧ x < n
  · exact c
  · rw [h.off x c] at he; cases he
theorem Fd.srt (h : Fd n dd f) (x : Int) : (f x).Pairwise (· < ·) := by
  by_cases c : 0 ≤ x ∧ x < n
  · rw [h.inr x c.1 c.2]; exact h.w.srt _
  · rw [h.off x c]; exact .nil
theorem Fd.len (h : Fd n dd f) (x : Int) : (f x).length ≤ n := by
  have := strict_len (f x) 0 n (h.srt x) (fun e he => h.ent he)
  omega
theorem strict_nodup {l : List Int} (h : l.Pairwise (· < ·)) : l.Nodup := h.imp (by intro a b q; omega)
theorem strict_sub_len {a b : List Int} (ha : a.Pairwise (· < ·)) (hs : ∀ x ∈ a, x ∈ b) : a.length ≤ b.length := (strict_nodup ha).length_le_of_subset hs
theorem find_cong {l : List Int} {p q : Int → Bool} (h : ∀ e ∈ l, p e = q e) : l.find? p = l.find? q := by
  induction l with
  | nil => rfl
  | cons x l ih => rw [List.find?_cons, List.find?_cons, h x (by simp), ih (fun e he => h e (by simp [he]))]
theorem insU_len {x : Int} : ∀ {l : List Int}, x ∉ l → (insU x l).length = l.length + 1
  | [], _ => rfl
  | y :: r, h => by
    unfold insU; split
    · rfl
    · split
      · rename_i e; exact absurd (by simp [e]) h
      · simp only [List.length_cons]; rw [insU_len (fun q => h (by simp [q]))]
/-! ### the reference's Transitive -/
def trR (f : Int → List Int) (d : Int) : Nat → List Int
  | 0 => f d
  | k + 1 => uniqS (trR f d k ++ (trR f d k).flatMap f)
theorem trR_mem {d : Int} {k : Nat} {x : Int} : x ∈ trR f d (k + 1) ↔ x ∈ trR f d k ∨ ∃ y ∈ trR f d k, x ∈ f y := by rw [trR, (uniqS_ok _).2, List.mem_append, List.mem_flatMap]
theorem trR_srt (h : Fd n dd f) (d : Int) : ∀ k, (trR f d k).Pairwise (· < ·)
  | 0 => h.srt d
  | k + 1 => (uniqS_ok _).1
theorem trR_ent (h : Fd n dd f) {d : Int} : ∀ (k : Nat) (x : Int), x ∈ trR f d k → 0 ≤ x ∧ x < n
  | 0, x, hx => h.ent hx
  | k + 1, x, hx => by
    rcases trR_mem.1 hx with q | ⟨y, _, q⟩
    · exact trR_ent h k x q
    · exact h.ent q
theorem trR_len (h : Fd n dd f) (d : Int) (k : Nat) : (trR f d k).length ≤ n := by
  have := strict_len (trR f d k) 0 n (trR_srt h d k) (fun e he => trR_ent h k e he)
  omega
theorem trR_rp (h : Fd n dd f) {d : Int} (h0 : 0 ≤ d) (h1 : d < n) : ∀ (k : Nat) (x : Int), x ∈ trR f d k → Rp dd d x
  | 0, x, hx => by rw [trR, h.inr d h0 h1] at hx; exact .one hx
  | k + 1, x, hx => by
    rcases trR_mem.1 hx with q | ⟨y, hy, q⟩
    · exact trR_rp h h0 h1 k x q
    · have := h.src q; rw [h.inr y this.1 this.2] at q; exact .step (trR_rp h h0 h1 k y hy) q
theorem trR_grow (h : Fd n dd f) (d : Int) : ∀ k, (∀ y ∈ trR f d k, ∀ e ∈ f y, e ∈ trR f d k) ∨ k ≤ (trR f d k).length := by
  intro k
  induction k with
  | zero => exact .inr (Nat.zero_le _)
  | succ k ih =>
    by_cases c : ∀ y ∈ trR f d k, ∀ e ∈ f y, e ∈ trR f d k
    · have e : trR f d (k + 1) = trR f d k := strict_eq (trR_srt h d _) (trR_srt h d k) (fun x => by
        rw [trR_mem]
        constructor
        · rintro (q | ⟨y, hy, q⟩)
          · exact q
          · exact c y hy x q
        · exact .inl)
      rw [e]; exact .inl c
    · have hk : k ≤ (trR f d k).length := by
        rcases ih with q | q
        · exact absurd q c
        · exact q
      simp only [Classical.not_forall] at c
      obtain ⟨y, hy, e, he, hn⟩ := c
      refine .inr ?_
      have h1 := insU_len hn
      have h2 := strict_sub_len (insU_strict e _ (trR_srt h d k)) (b := trR f d (k + 1)) (fun x hx => by
        rw [trR_mem]
        rcases (insU_mem _ _ _).1 hx with q | q
        · exact .inr ⟨y, hy, by rw [q]; exact he⟩
        · exact .inl q)
      omega
theorem trR_closed (h : Fd n dd f) (d : Int) : ∀ y ∈ trR f d n, ∀ e ∈ f y, e ∈ trR f d n := by
  rcases trR_grow h d n with q | q
  · exact q
  · intro y hy e he
    apply Classical.byContradiction
    intro hn
    have h1 := insU_len hn
    have h2 := strict_len (insU e (trR f d n)) 0 n (insU_strict e _ (trR_srt h d n)) (fun x hx => by
      rcases (insU_mem _ _ _).1 hx with g | g
      · rw [g]; exact h.ent he
      · exact trR_ent h n x g)
    omega
theorem trR_base (h : Fd n dd f) (d : Int) : ∀ (k : Nat) (x : Int), x ∈ f d → x ∈ trR f d k
  | 0, _, hx => hx
  | k + 1, x, hx => trR_mem.2 (.inl (trR_base h d k x hx))
theorem trR_eq (h : Fd n dd f) {d : Int} (h0 : 0 ≤ d) (h1 : d < n) : trR f d n = reachL n dd d := by
  refine strict_eq (trR_srt h d n) (reachL_strict n dd d) (fun x => ?_)
  rw [reachL_mem h.w]
  constructor
  · exact trR_rp h h0 h1 n x
  · intro q
    induction q with
    | one q => exact trR_base h d n _ (by rw [h.inr d h0 h1]; exact q)
    | @step y z q1 q2 ih =>
      have hy := trR_ent h n y ih
      exact trR_closed h d y ih z (by rw [h.inr y hy.1 hy.2]; exact q2)
theorem trR_no (h : Fd n dd f) {d : Int} (hd : ¬ (0 ≤ d ∧ d < n)) : ∀ k, trR f d k = []
  | 0 => h.off d hd
  | k + 1 => by rw [trR, trR_no h hd k]; exact uniqS_nil
/-! ### walks of given length -/
def Wk (f : Int → List Int) (a : Int) : Nat → Int → Prop
  | 0, x => x = a
  | k + 1, x => ∃ y, Wk f a k y ∧ x ∈ f y
def frR (f : Int → List Int) (a : Int) : Nat → List Int
  | 0 => [a]
  | k + 1 => uniqS ((frR f a k).flatMap f)
theorem frR_mem {a : Int} : ∀ {k : Nat} {x : Int}, x ∈ frR f a k ↔ Wk f a k x
  | 0, x => by simp [frR, Wk]
  | k + 1, x => by
    rw [frR, (uniqS_ok _).2, List.mem_flatMap, Wk]
    constructor
    · rintro ⟨y, h1, h2⟩; exact ⟨y, frR_mem.1 h1, h2⟩
    · rintro ⟨y, h1, h2⟩; exact ⟨y, frR_mem.2 h1, h2⟩
theorem frR_srt (a : Int) : ∀ k, (frR f a k).Pairwise (· < ·)
  | 0 => by simp [frR]
  | k + 1 => (uniqS_ok _).1
theorem frR_ent (h : Fd n dd f) {a : Int} {k : Nat} {x : Int} (hx : x ∈ frR f a (k + 1)) : 0 ≤ x ∧ x < n := by
  rw [frR, (uniqS_ok _).2, List.mem_flatMap] at hx
  obtain ⟨y, _, q⟩ := hx
  exact h.ent q
theorem frR_len (h : Fd n dd f) (a : Int) : ∀ k, (frR f a k).length ≤ n + 1
  | 0 => by simp [frR]
  | k + 1 => by
    have := strict_len (frR f a (k + 1)) 0 n (frR_srt a _) (fun e he => frR_ent h he)
    omega
theorem Wk_cons {a : Int} : ∀ {k : Nat} {x : Int}, Wk f a (k + 1) x ↔ ∃ z ∈ f a, Wk f z k x
  | 0, x => by simp [Wk]
  | k + 1, x => by
    rw [Wk]
    constructor
    · rintro ⟨y, h1, h2⟩
      obtain ⟨z, hz, h3⟩ := Wk_cons.1 h1
      exact ⟨z, hz, y, h3, h2⟩
    · rintro ⟨z, hz, y, h3, h2⟩
      exact ⟨y, Wk_cons.2 ⟨z, hz, h3⟩, h2⟩
theorem Wk_add {a b : Int} : ∀ {j i : Nat} {x : Int}, Wk f a i b → Wk f b j x → Wk f a (i + j) x
  | 0, i, x, h1, h2 => by rw [show x = b from h2]; exact h1
  | j + 1, i, x, h1, ⟨y, h2, h3⟩ => ⟨y, Wk_add h1 h2, h3⟩
theorem Wk_rp (h : Fd n dd f) {a : Int} : ∀ {k : Nat} {x : Int}, Wk f a (k + 1) x → Rp dd a x
  | 0, x, ⟨y, h1, h2⟩ => by
    rw [show y = a from h1] at h2
    have := h.src h2; rw [h.inr a this.1 this.2] at h2; exact .one h2
  | k + 1, x, ⟨y, h1, h2⟩ => by
    have := h.src h2; rw [h.inr y this.1 this.2] at h2; exact .step (Wk_rp h h1) h2
theorem rp_wk (h : Fd n dd f) {a x : Int} (h0 : 0 ≤ a) (h1 : a < n) (hr : Rp dd a x) : ∃ k, Wk f a (k + 1) x := by
  induction hr with
  | one q => exact ⟨0, a, rfl, by rw [h.inr a h0 h1]; exact q⟩
  | @step y z q1 q2 ih =>
    obtain ⟨k, hk⟩ := ih
    obtain ⟨u, hu, hv⟩ := hk
    have hy := h.ent hv
    exact ⟨k + 1, y, ⟨u, hu, hv⟩, by rw [h.inr y hy.1 hy.2]; exact q2⟩
theorem Wr_in {rr : List (List Int)} (w : WFd n rr) {t : Int} (h0 : 0 ≤ t) (h1 : t < n) : ∀ {k : Nat} {x : Int}, Wr rr t k x → 0 ≤ x ∧ x < n
  | 0, x, h => by rw [show x = t from h]; exact ⟨h0, h1⟩
  | k + 1, x, ⟨y, _, h⟩ => w.ent _ _ h
theorem Wr_Wk (h : Fd n dd f) {t : Int} (h0 : 0 ≤ t) (h1 : t < n) : ∀ {k : Nat} {a : Int}, 0 ≤ a → a < n → (Wr (rvs n dd) t k a ↔ Wk f a k t)
  | 0, a, _, _ => by simp only [Wr, Wk]; exact eq_comm
  | k + 1, a, ha0, ha1 => by
    rw [Wk_cons, Wr]
    constructor
    · rintro ⟨y, q1, q2⟩
      have hy := Wr_in (rvs_wf dd) h0 h1 q1
      have := (rvs_mem hy.1 hy.2).1 q2
      exact ⟨y, by rw [h.inr a ha0 ha1]; exact this.2.2, (Wr_Wk h h0 h1 hy.1 hy.2).1 q1⟩
    · rintro ⟨y, q1, q2⟩
      have hy := h.ent q1
      rw [h.inr a ha0 ha1] at q1
      exact ⟨y, (Wr_Wk h h0 h1 hy.1 hy.2).2 q2, (rvs_mem hy.1 hy.2).2 ⟨ha0, ha1, q1⟩⟩
theorem dist_wk (h : Fd n dd f) {t x : Int} (h0 : 0 ≤ t) (h1 : t < n) (hx0 : 0 ≤ x) (hx1 : x < n) :
    (st (distL n (rvs n dd) t) x = -1 ∧ ∀ k, ¬ Wk f x k t) ∨ (∃ k : Nat, st (distL n (rvs n dd) t) x = (k : Int) ∧ Wk f x k t ∧ ∀ j, Wk f x j t → k ≤ j) := by
  rcases distL_is (rr := rvs n dd) (t := t) hx0 hx1 with ⟨q1, q2⟩ | ⟨k, q1, q2, q3⟩
  · exact .inl ⟨q1, fun k hk => q2 k ((Wr_Wk h h0 h1 hx0 hx1).2 hk)⟩
  · exact .inr ⟨k, q1, (Wr_Wk h h0 h1 hx0 hx1).1 q2, fun j hj => q3 j ((Wr_Wk h h0 h1 hx0 hx1).2 hj)⟩
theorem cyL_is (h : Fd n dd f) {j : Nat} (hj : j < n) : (cyL n dd j = 0 ∧ ∀ m, ¬ Wk f (j : Int) (m + 1) (j : Int)) ∨
    (∃ m : Nat, cyL n dd j = (m : Int) + 1 ∧ Wk f (j : Int) (m + 1) (j : Int) ∧ ∀ i, Wk f (j : Int) (i + 1) (j : Int) → m ≤ i) := by
  have wr := rvs_wf (n := n) dd
  have hj0 : (0 : Int) ≤ (j : Int) := by omega
  have hj1 : (j : Int) < n := by omega
  have hf := h.inr (j : Int) hj0 hj1
  rcases shT_ex (steps := distL n (rvs n dd) (j : Int)) (rw dd (j : Int)) (fun e _ => (distL_bnd wr hj0 hj1 e).1) with ⟨a1, a2⟩ | ⟨a1, ⟨e, he, he1, he2⟩, hmin⟩
  · refine .inl ⟨a1, fun m hm => ?_⟩
    obtain ⟨z, hz, hw⟩ := Wk_cons.1 hm
    have hzr := h.ent hz
    rw [hf] at hz
    have a3 := a2 z hz
    rcases dist_wk h hj0 hj1 hzr.1 hzr.2 with ⟨_, q⟩ | ⟨k, q, _, _⟩
    · exact q m hw
    · omega
  · have her := h.w.ent _ _ he
    rcases dist_wk h hj0 hj1 her.1 her.2 with ⟨q, _⟩ | ⟨k, q1, q2, q3⟩
    · omega
    · refine .inr ⟨k, by unfold cyL; omega, Wk_cons.2 ⟨e, by rw [hf]; exact he, q2⟩, fun i hi => ?_⟩
      obtain ⟨z, hz, hw⟩ := Wk_cons.1 hi
      have hzr := h.ent hz
      rw [hf] at hz
      rcases dist_wk h hj0 hj1 hzr.1 hzr.2 with ⟨_, r⟩ | ⟨u, r1, _, r3⟩
      · exact absurd hw (r i)
      · have h6 := r3 i hw
        have h7 := hmin z hz (by omega)
        omega
theorem cyL_le (h : Fd n dd f) {j : Nat} (hj : j < n) : cyL n dd j ≤ n := by
  have wr := rvs_wf (n := n) dd
  have hj0 : (0 : Int) ≤ (j : Int) := by omega
  have hj1 : (j : Int) < n := by omega
  have := (shT_bnd (steps := distL n (rvs n dd) (j : Int)) (B := (n : Int) - 1) (by omega) (fun x => (distL_bnd wr hj0 hj1 x).2) (rw dd (j : Int))).2
  unfold cyL; omega
/-! ### the reference's FindCycle -/
def lstR (f : Int → List Int) (L : Nat) (a : Int) : Nat → Int
  | 0 => a
  | k + 1 => ((f (lstR f L a k)).find? (fun e => decide (a ∈ frR f e (L - (k + 1))))).getD 0
def pthR (f : Int → List Int) (L : Nat) (a : Int) (k : Nat) : List Int := (List.range (k + 1)).map (lstR f L a)
theorem pthR_len (L : Nat) (a : Int) (k : Nat) : (pthR f L a k).length = k + 1 := by simp [pthR]
theorem pthR_succ (L : Nat) (a : Int) (k : Nat) : pthR f L a (k + 1) = pthR f L a k ++ [lstR f L a (k + 1)] := by
  unfold pthR; rw [List.range_succ (n := k + 1), List.map_append]; rfl
theorem pthR_last (L : Nat) (a : Int) (k : Nat) : (pthR f L a k)[k]? = some (lstR f L a k) := by simp [pthR]
/-- a start and a length as the reference finds them -/
structure Fnd (n : Nat) (f : Int → List Int) (L a : Nat) : Prop where
  l1 : 1 ≤ L
  ln : L ≤ n
  an : a < n
  cyc : Wk f (a : Int) L (a : Int)
  minL : ∀ L' (a' : Nat), 1 ≤ L' → L' < L → a' < n → ¬ Wk f (a' : Int) L' (a' : Int)
  minA : ∀ a' : Nat, a' < a → ¬ Wk f (a' : Int) L (a' : Int)
theorem Fnd.cyL (h : Fd n dd f) {L a : Nat} (q : Fnd n f L a) : Go.Proofs.Ytemcooggkcneiaa.cyL n dd a = (L : Int) := by
  have hl1 := q.l1
  rcases cyL_is h q.an with ⟨_, g⟩ | ⟨m, g1, g2, g3⟩
  · exact absurd q.cyc (by have := g (L - 1); rw [show L - 1 + 1 = L by omega] at this; exact this)
  · have := g3 (L - 1) (by rw [show L - 1 + 1 = L by omega]; exact q.cyc)
    rcases Nat.lt_or_ge (m + 1) L with c | c
    · exact absurd g2 (q.minL (m + 1) a (by omega) c q.an)
    · omega
theorem Fnd.cyS (h : Fd n dd f) {L a : Nat} (q : Fnd n f L a) : Go.Proofs.Ytemcooggkcneiaa.cyS n dd n = ((L : Int), (a : Int), distL n (rvs n dd) (a : Int)) := by
  have hc := q.cyL h
  have hl1 := q.l1
  rcases cyS_is n dd n with ⟨_, _, g⟩ | ⟨j, g1, g2, g3, g4, g5⟩
  · exact absurd (by omega) (g a q.an)
  · have h1 := g5 a q.an (by omega)
    have h2 : (L : Int) ≤ Go.Proofs.Ytemcooggkcneiaa.cyL n dd j := by
      rcases cyL_is h g1 with ⟨k1, _⟩ | ⟨m, k1, k2, k3⟩
      · omega
      · rcases Nat.lt_or_ge (m + 1) L with c | c
        · exact absurd k2 (q.minL (m + 1) j (by omega) c g1)
        · omega
    have hj : j = a := by
      rcases Nat.lt_trichotomy j a with c | c | c
      · have := q.minA j c
        rcases cyL_is h g1 with ⟨k1, _⟩ | ⟨m, k1, k2, k3⟩
        · omega
        · exact absurd k2 (by rw [show m + 1 = L by omega]; exact this)
      · exact c
      · have := g4 a c (by omega); omega
    subst hj
    rw [g2, hc]
theorem Fnd.ph (h : Fd n dd f) {L a : Nat} (q : Fnd n f L a) : PH n dd (distL n (rvs n dd) (a : Int)) (L : Int) (a : Int) := by
  have := PH_of h.w q.an (by rw [q.cyL h]; have := q.l1; omega)
  rw [q.cyL h] at this; exact this
theorem Fnd.lst (h : Fd n dd f) {L a : Nat} (q : Fnd n f L a) : ∀ k, k < L → Wk f (a : Int) k (lstR f L (a : Int) k) ∧ Go.Proofs.Ytemcooggkcneiaa.lst dd (distL n (rvs n dd) (a : Int)) (L : Int) (a : Int) k = lstR f L (a : Int) k := by
  intro k
  induction k with
  | zero => intro _; exact ⟨rfl, rfl⟩
  | succ k ih =>
    intro hk
    obtain ⟨i1, i2⟩ := ih (by omega)
    have hp := q.ph h
    have hr := hp.inr k (by omega)
    obtain ⟨e1, e2⟩ := hp.next (k := k) (by omega)
    have han := q.an
    have he : Go.Proofs.Ytemcooggkcneiaa.lst dd (distL n (rvs n dd) (a : Int)) (L : Int) (a : Int) (k + 1) = lstR f L (a : Int) (k + 1) := by
      show nxE dd _ (Go.Proofs.Ytemcooggkcneiaa.lst dd (distL n (rvs n dd) (a : Int)) (L : Int) (a : Int) k) _ = _
      rw [i2] at hr ⊢
      unfold nxE
      rw [lstR, h.inr _ hr.1 hr.2]
      congr 1
      apply find_cong
      intro e hem
      have her := h.w.ent _ _ hem
      rw [decide_eq_decide, frR_mem]
      rcases dist_wk h (t := (a : Int)) (by omega) (by omega) her.1 her.2 with ⟨r1, r2⟩ | ⟨m, r1, r2, r3⟩
      · constructor
        · intro c; omega
        · intro c; exact absurd c (r2 _)
      · constructor
        · intro c
          have : m = L - (k + 1) := by omega
          rw [← this]; exact r2
        · intro c
          have := r3 _ c
          rcases Nat.lt_or_ge m (L - (k + 1)) with g | g
          · exfalso
            have w1 : Wk f (a : Int) (k + 1) e := ⟨_, i1, by rw [h.inr _ hr.1 hr.2]; exact hem⟩
            have w2 := Wk_add w1 r2
            exact q.minL (k + 1 + m) a (by omega) (by omega) q.an w2
          · omega
    refine ⟨⟨_, i1, ?_⟩, he⟩
    rw [← he, h.inr _ (by rw [← i2]; exact hr.1) (by rw [← i2]; exact hr.2), ← i2]
    exact e1
theorem Fnd.cycF (h : Fd n dd f) {L a : Nat} (q : Fnd n f L a) : Go.Proofs.Ytemcooggkcneiaa.cycF n dd = pthR f L (a : Int) (L - 1) := by
  have hl1 := q.l1
  unfold Go.Proofs.Ytemcooggkcneiaa.cycF
  rw [q.cyS h]
  rw [if_neg (by show ¬ ((a : Int) < 0); omega)]
  show pth dd _ (L : Int) (a : Int) ((L : Int) - 1).toNat = _
  rw [show ((L : Int) - 1).toNat = L - 1 by omega]
  unfold pth pthR
  refine List.map_congr_left fun k hk => ?_
  have := List.mem_range.1 hk
  exact (q.lst h k (by omega)).2
/-- the reference finds the next one -/
theorem Fnd.nx (h : Fd n dd f) {L a : Nat} (q : Fnd n f L a) {k : Nat} (hk : k + 1 < L) : ∃ e ∈ f (lstR f L (a : Int) k), decide ((a : Int) ∈ frR f e (L - (k + 1))) = true := by
  obtain ⟨_, i2⟩ := q.lst h k (by omega)
  have hp := q.ph h
  have hr := hp.inr k (by omega)
  obtain ⟨e, he, hv⟩ := hp.ex k (by omega)
  rw [i2] at he hr
  refine ⟨e, by rw [h.inr _ hr.1 hr.2]; exact he, ?_⟩
  have her := h.w.ent _ _ he
  have han := q.an
  rw [decide_eq_true_iff, frR_mem]
  rcases dist_wk h (t := (a : Int)) (by omega) (by omega) her.1 her.2 with ⟨r1, _⟩ | ⟨m, r1, r2, _⟩
  · omega
  · have : m = L - (k + 1) := by omega
    rw [← this]; exact r2
theorem lstR_at {L : Nat} {a : Int} {k j : Nat} (hj : j < (f (lstR f L a k)).length) (hp : decide (a ∈ frR f (f (lstR f L a k))[j] (L - (k + 1))) = true) (hn : ∀ i, (g : i < j) → decide (a ∈ frR f ((f (lstR f L a k))[i]'(by omega)) (L - (k + 1))) = false) : lstR f L a (k + 1) = (f (lstR f L a k))[j] := by
  rw [lstR, find_at (p := fun e => decide (a ∈ frR f e (L - (k + 1)))) hj hp hn]; rfl
theorem Fnd.inr (h : Fd n dd f) {L a : Nat} (q : Fnd n f L a) {k : Nat} (hk : k < L) : 0 ≤ lstR f L (a : Int) k ∧ lstR f L (a : Int) k < n := by
  have := (q.ph h).inr k (by omega)
  rw [(q.lst h k hk).2] at this; exact this
theorem cycF_none (h : Fd n dd f) (hn : ∀ L (a : Nat), 1 ≤ L → L ≤ n → a < n → ¬ Wk f (a : Int) L (a : Int)) : cycF n dd = [] := by
  unfold cycF
  rcases cyS_is n dd n with ⟨g, _, _⟩ | ⟨j, g1, g2, g3, _, _⟩
  · rw [if_pos g]
  · rcases cyL_is h g1 with ⟨k1, _⟩ | ⟨m, k1, k2, _⟩
    · omega
    · have := cyL_le h g1
      exact absurd k2 (hn (m + 1) j (by omega) (by omega) g1)
/-- either nothing is found, or a least one -/
theorem fnd_or (n : Nat) (f : Int → List Int) : (∀ L (a : Nat), 1 ≤ L → L ≤ n → a < n → ¬ Wk f (a : Int) L (a : Int)) ∨ ∃ L a, Fnd n f L a := by
  have key : ∀ m, m ≤ n → (∀ L (a : Nat), 1 ≤ L → L ≤ m → a < n → ¬ Wk f (a : Int) L (a : Int)) ∨ ∃ L a, Fnd n f L a := by
    intro m
    induction m with
    | zero => intro _; exact .inl fun L a h1 h2 => by omega
    | succ m ih =>
      intro hm
      rcases ih (by omega) with g | g
      · have k2 : ∀ b, b ≤ n → (∀ a : Nat, a < b → ¬ Wk f (a : Int) (m + 1) (a : Int)) ∨ ∃ L a, Fnd n f L a := by
          intro b
          induction b with
          | zero => intro _; exact .inl fun a h => by omega
          | succ b ih2 =>
            intro hb
            rcases ih2 (by omega) with e | e
            · by_cases c : Wk f (b : Int) (m + 1) (b : Int)
              · exact .inr ⟨m + 1, b, by omega, hm, hb, c, fun L' a' l1 l2 l3 => g L' a' l1 (by omega) l3, e⟩
              · refine .inl fun a ha => ?_
                by_cases x : a = b
                · subst x; exact c
                · exact e a (by omega)
            · exact .inr e
        rcases k2 n (Nat.le_refl _) with e | e
        · refine .inl fun L a l1 l2 l3 => ?_
          by_cases x : L = m + 1
          · subst x; exact e a l3
          · exact g L a l1 (by omega) l3
        · exact .inr e
      · exact .inr g
  exact key n (Nat.le_refl _)
theorem cycF_ne (h : Fd n dd f) : cycF n dd ≠ [] ↔ ∃ d : Int, 0 ≤ d ∧ d < n ∧ Rp dd d d := by
  rcases fnd_or n f with g | ⟨L, a, q⟩
  · rw [cycF_none h g]
    refine ⟨fun x => absurd rfl x, fun ⟨d, h0, h1, hr⟩ => ?_⟩
    obtain ⟨k, hk⟩ := rp_wk h h0 h1 hr
    have e : ((d.toNat : Nat) : Int) = d := by omega
    rcases cyL_is h (j := d.toNat) (by omega) with ⟨_, g2⟩ | ⟨m, k1, k2, _⟩
    · rw [e] at g2; exact absurd hk (g2 k)
    · have := cyL_le h (j := d.toNat) (by omega)
      exact absurd k2 (g (m + 1) d.toNat (by omega) (by omega) (by omega))
  · rw [q.cycF h]
    have hl1 := q.l1
    have han := q.an
    refine ⟨fun _ => ⟨(a : Int), by omega, by omega, Wk_rp h (k := L - 1) (by rw [show L - 1 + 1 = L by omega]; exact q.cyc)⟩, fun _ e => ?_⟩
    have := congrArg List.length e
    rw [pthR_len] at this; cases this
/-- what a found cycle is -/
theorem Fnd.edges (h : Fd n dd f) {L a : Nat} (q : Fnd n f L a) {i : Nat} (hi : i < L) : (if i + 1 < L then lstR f L (a : Int) (i + 1) else (a : Int)) ∈ f (lstR f L (a : Int) i) := by
  have hp := q.ph h
  obtain ⟨w1, e1⟩ := q.lst h i hi
  have hr := hp.inr i (by omega)
  rw [e1] at hr
  split
  · rename_i c
    have := (hp.next (k := i) (by omega)).1
    rw [(q.lst h (i + 1) c).2, e1] at this
    rw [h.inr _ hr.1 hr.2]; exact this
  · rename_i c
    have hl1 := q.l1
    have han := q.an
    cases i with
    | zero =>
      have : L = 1 := by omega
      subst this
      obtain ⟨y, hy, hz⟩ := q.cyc
      rw [show y = (a : Int) from hy] at hz
      exact hz
    | succ i =>
      have h2 := (hp.next (k := i) (by omega)).2
      rw [e1] at h2
      rcases dist_wk h (t := (a : Int)) (by omega) (by omega) hr.1 hr.2 with ⟨r1, _⟩ | ⟨m, r1, r2, _⟩
      · omega
      · have : m = 1 := by omega
        subst this
        obtain ⟨y, hy, hz⟩ := r2
        rw [show y = _ from hy] at hz
        exact hz
theorem Fnd.once (h : Fd n dd f) {L a : Nat} (q : Fnd n f L a) {i : Nat} (hi : i < L) : lstR f L (a : Int) i ∉ (pthR f L (a : Int) (L - 1)).take i := by
  intro hm
  have hp := q.ph h
  have hl1 := q.l1
  have han := q.an
  have e1 := (q.lst h i hi).2
  obtain ⟨k, hk, e⟩ := List.mem_iff_getElem.1 hm
  simp [pthR] at hk e
  have hk2 : k < i := by omega
  have e2 := (q.lst h k (by omega)).2
  rw [← e1, ← e2] at e
  cases i with
  | zero => omega
  | succ i =>
    have d1 := (hp.next (k := i) (by omega)).2
    cases k with
    | zero =>
      have d0 := hp.d0
      rw [show Go.Proofs.Ytemcooggkcneiaa.lst dd (distL n (rvs n dd) (a : Int)) (L : Int) (a : Int) 0 = (a : Int) from rfl] at e
      rw [← e, d0] at d1; omega
    | succ k =>
      have d2 := (hp.next (k := k) (by omega)).2
      rw [e] at d2; omega
/-! ### the order -/
theorem ordR_pre (n : Nat) (dd : List (List Int)) : ∀ (k i : Nat), (hi : i < (ordR n dd k).length) → ∀ e ∈ rw dd (ordR n dd k)[i], e ∈ (ordR n dd k).take i := by
  intro k
  induction k with
  | zero => intro i hi; simp [ordR] at hi
  | succ k ih =>
    intro i hi e he
    cases c : nxt n dd (ordR n dd k) with
    | none =>
      have : ordR n dd (k + 1) = ordR n dd k := by rw [ordR, c]
      simp only [this] at hi he ⊢
      exact ih i hi e he
    | some d =>
      have : ordR n dd (k + 1) = ordR n dd k ++ [d] := by rw [ordR, c]
      simp only [this] at hi he ⊢
      simp at hi
      by_cases x : i < (ordR n dd k).length
      · rw [List.getElem_append_left x] at he
        rw [List.take_append_of_le_length (by omega)]
        exact ih i x e he
      · have xe : i = (ordR n dd k).length := by omega
        subst xe
        rw [List.getElem_append_right (Nat.le_refl _)] at he
        rw [List.take_append_of_le_length (Nat.le_refl _), List.take_length]
        simp at he
        exact (rdyB_iff.1 (nxt_some.1 c).2.2.1).2 e he
theorem mem_take_mono {l : List Int} {i j : Nat} (h : i ≤ j) {x : Int} (hx : x ∈ l.take i) : x ∈ l.take j := by
  have : l.take i = (l.take j).take i := by rw [List.take_take, Nat.min_eq_left h]
  rw [this] at hx
  exact List.mem_of_mem_take hx
theorem ordR_after (n : Nat) (dd : List (List Int)) {k i : Nat} (hi : i < (ordR n dd k).length) {t : Int} (hr : Rp dd (ordR n dd k)[i] t) : t ∈ (ordR n dd k).take i := by
  generalize hx : (ordR n dd k)[i] = x at hr
  induction hr with
  | one q => rw [← hx] at q; exact ordR_pre n dd k i hi _ q
  | @step y z q1 q2 ih =>
    obtain ⟨j, hj, e⟩ := List.mem_iff_getElem.1 ih
    simp at hj e
    rw [← e] at q2
    exact mem_take_mono (by omega) (ordR_pre n dd k j (by omega) _ q2)
theorem nodup_at {l : List Int} (h : l.Nodup) {i : Nat} (hi : i < l.length) : l[i] ∉ l.take i := by
  intro hm
  obtain ⟨j, hj, e⟩ := List.mem_iff_getElem.1 hm
  simp at hj e
  have := (List.nodup_iff_pairwise_ne.1 h)
  exact List.pairwise_iff_getElem.1 this j i (by omega) hi (by omega) e
theorem ordR_nd (n : Nat) (dd : List (List Int)) (k : Nat) : (ordR n dd k).Nodup := (ordR_ok n dd k).nd
/-- each round adds one, or none is ready -/
theorem ordR_full (n : Nat) (dd : List (List Int)) : ∀ k, (ordR n dd k).length = k ∨ nxt n dd (ordR n dd k) = none := by
  intro k
  induction k with
  | zero => exact .inl rfl
  | succ k ih =>
    cases c : nxt n dd (ordR n dd k) with
    | none =>
      have : ordR n dd (k + 1) = ordR n dd k := by rw [ordR, c]
      rw [this]; exact .inr c
    | some d =>
      have : ordR n dd (k + 1) = ordR n dd k ++ [d] := by rw [ordR, c]
      rcases ih with g | g
      · left; rw [this]; simp [g]
      · rw [g] at c; cases c
theorem rp_trans {x y z : Int} (h1 : Rp dd x y) (h2 : Rp dd y z) : Rp dd x z := by
  induction h2 with
  | one q => exact .step h1 q
  | step _ q ih => exact .step ih q
theorem ordR_own (h : Fd n dd f) : (ordR n dd n).length < n ↔ ∃ d : Int, 0 ≤ d ∧ d < n ∧ Rp dd d d := by
  constructor
  · intro hl
    apply Classical.byContradiction
    intro hno
    have hno : ∀ d : Int, 0 ≤ d → d < n → ¬ Rp dd d d := fun d a b c => hno ⟨d, a, b, c⟩
    have hN : nxt n dd (ordR n dd n) = none := by
      rcases ordR_full n dd n with g | g
      · omega
      · exact g
    rw [nxt_none] at hN
    -- from one that is not placed, another with less reach
    have key : ∀ (m : Nat) (x : Int), 0 ≤ x → x < n → x ∉ ordR n dd n → (reachL n dd x).length ≤ m → False := by
      intro m
      induction m with
      | zero =>
        intro x h0 h1 hx hm
        have hr := hN x h0 h1
        have : ¬ (∀ e ∈ rw dd x, e ∈ ordR n dd n) := fun q => by
          have := rdyB_iff.2 ⟨hx, q⟩; rw [hr] at this; cases this
        simp only [Classical.not_forall] at this
        obtain ⟨e, he, _⟩ := this
        have hmm := (reachL_mem h.w).2 (.one he)
        have hml := List.length_pos_of_mem hmm
        omega
      | succ m ih =>
        intro x h0 h1 hx hm
        have hr := hN x h0 h1
        have : ¬ (∀ e ∈ rw dd x, e ∈ ordR n dd n) := fun q => by
          have := rdyB_iff.2 ⟨hx, q⟩; rw [hr] at this; cases this
        simp only [Classical.not_forall] at this
        obtain ⟨e, he, hen⟩ := this
        have her := h.w.ent _ _ he
        refine ih e her.1 her.2 hen ?_
        have hne : e ∉ reachL n dd e := fun q => hno e her.1 her.2 ((reachL_mem h.w).1 q)
        have h2 := strict_sub_len (insU_strict e _ (reachL_strict n dd e)) (b := reachL n dd x) (fun z hz => by
          rw [reachL_mem h.w]
          rcases (insU_mem _ _ _).1 hz with q | q
          · rw [q]; exact .one he
          · exact rp_trans (.one he) ((reachL_mem h.w).1 q))
        have h3 := insU_len hne
        omega
    have : ∃ x : Int, 0 ≤ x ∧ x < n ∧ x ∉ ordR n dd n := by
      apply Classical.byContradiction
      intro hq
      have hall : ∀ x ∈ (List.range n).map (fun (k : Nat) => (k : Int)), x ∈ ordR n dd n := fun x hx => by
        obtain ⟨a, b⟩ := mem_cast.1 hx
        apply Classical.byContradiction
        intro c; exact hq ⟨x, a, b, c⟩
      have := (strict_nodup (map_cast_strict (strict_range n))).length_le_of_subset hall
      simp at this; omega
    obtain ⟨x, a, b, c⟩ := this
    exact key _ x a b c (Nat.le_refl _)
  · rintro ⟨d, h0, h1, hr⟩
    apply Classical.byContradiction
    intro hl
    have ho := ordR_ok n dd n
    have hlen : (ordR n dd n).length = n := by have := ho.len; omega
    have hd : d ∈ ordR n dd n := by
      apply Classical.byContradiction
      intro hq
      have h2 := (List.nodup_cons.2 ⟨hq, ho.nd⟩).length_le_of_subset (l₂ := (List.range n).map (fun (k : Nat) => (k : Int))) (fun x hx => mem_cast.2 (by
        rcases List.mem_cons.1 hx with e | e
        · rw [e]; exact ⟨h0, h1⟩
        · exact ho.rng x e))
      simp at h2; omega
    obtain ⟨i, hi, e⟩ := List.mem_iff_getElem.1 hd
    rw [← e] at hr
    exact nodup_at ho.nd hi (ordR_after n dd hi hr)
end
end Go.Proofs.Ytemcooggkcneiaa
