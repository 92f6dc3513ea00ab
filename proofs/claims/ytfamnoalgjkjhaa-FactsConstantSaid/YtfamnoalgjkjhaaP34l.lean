import Derived.Test.YtfamnoalgjkjhaaP34k
namespace Go.Proofs.Ytfamnoalgjkjhaa
set_option linter.unusedSimpArgs false
set_option linter.unusedVariables false
/-! ### plain: the winners -/
def covF (bs : List Int) (f : TFact) (s : Nat) : Bool := decide (lowB bs f.2.2.2.2.1.1 ≤ s) && decide (s < lowB bs f.2.2.2.2.1.2)
def fstW (bs : List Int) (l : List TFact) (s : Nat) : Int := match l.findIdx? (fun f => covF bs f s) with | some j => (j : Int) | none => -1
def winL (bs : List Int) (l : List TFact) : List Int := (List.range (bs.length - 1)).map (fstW bs l)
def StW (bs : List Int) (l : List TFact) (ws ns : List Int) (s : Nat) : Prop := ws[s]? = some (fstW bs l s) ∧ (Fr ns s ↔ ∀ f ∈ l, covF bs f s = false)
structure WinI (bs : List Int) (l : List TFact) (k n : Nat) (ws ns : List Int) (i : Nat) : Prop where
  wl : ws.length = n
  nl : ns.length = n + 1
  good : GoodN ns
  last : Fr ns n
  st : ∀ s, s < n → StW bs (l.take (if s < i then k + 1 else k)) ws ns s
theorem fstW_snoc_no {bs : List Int} {l : List TFact} {f : TFact} {s : Nat} (h : covF bs f s = false) : fstW bs (l ++ [f]) s = fstW bs l s := by
  unfold fstW; rw [List.findIdx?_append]; simp [h]
theorem fstW_snoc_old {bs : List Int} {l : List TFact} {f : TFact} {s : Nat} (h : ¬ ∀ g ∈ l, covF bs g s = false) : fstW bs (l ++ [f]) s = fstW bs l s := by
  unfold fstW; rw [List.findIdx?_append]
  cases e : List.findIdx? (fun f => covF bs f s) l with
  | none => exact absurd (by simpa [List.findIdx?_eq_none_iff] using e) h
  | some j => simp
theorem fstW_snoc_new {bs : List Int} {l : List TFact} {f : TFact} {s : Nat} (h : ∀ g ∈ l, covF bs g s = false) (hf : covF bs f s = true) : fstW bs (l ++ [f]) s = (l.length : Int) := by
  unfold fstW; rw [List.findIdx?_append]
  have e : List.findIdx? (fun f => covF bs f s) l = none := by simpa [List.findIdx?_eq_none_iff] using h
  rw [e]; simp [List.findIdx?_cons, hf]
theorem take_snoc {l : List TFact} {k : Nat} (h : k < l.length) : l.take (k + 1) = l.take k ++ [l[k]] := List.take_succ_eq_append_getElem h
theorem stW_no {bs : List Int} {l : List TFact} {k s : Nat} {ws ns : List Int} (hk : k < l.length) (h : StW bs (l.take k) ws ns s) (hc : covF bs l[k] s = false) : StW bs (l.take (k + 1)) ws ns s := by
  unfold StW at *
  rw [take_snoc hk, fstW_snoc_no hc]
  refine ⟨h.1, h.2.trans ⟨fun q f hf => ?_, fun q f hf => q f (List.mem_append_left _ hf)⟩⟩
  rcases List.mem_append.1 hf with hf | hf
  · exact q f hf
  · rw [List.mem_singleton.1 hf]; exact hc
theorem stW_old {bs : List Int} {l : List TFact} {k s : Nat} {ws ns : List Int} (hk : k < l.length) (h : StW bs (l.take k) ws ns s) (hn : ¬ Fr ns s) : StW bs (l.take (k + 1)) ws ns s := by
  have hn' : ¬ ∀ f ∈ l.take k, covF bs f s = false := fun q => hn (h.2.2 q)
  unfold StW at *
  rw [take_snoc hk, fstW_snoc_old hn']
  exact ⟨h.1, ⟨fun q => absurd q hn, fun q => absurd (fun f hf => q f (List.mem_append_left _ hf)) hn'⟩⟩
theorem stW_sub {bs : List Int} {l : List TFact} {s : Nat} {ws ns ns' : List Int} (h : StW bs l ws ns s) (hs : SameFr ns ns') : StW bs l ws ns' s := ⟨h.1, (hs.fr s).trans h.2⟩
/-- at the start of a fact's turn -/
theorem win_start {bs : List Int} {l : List TFact} {k n : Nat} {ws ns ns' : List Int} {i : Nat} (hk : k < l.length) (hw : WinI bs l k n ws ns 0) (hs : SameFr ns ns') (hi : IsFF ns (min (lowB bs l[k].2.2.2.2.1.1) n) i) : WinI bs l k n ws ns' i := by
  refine ⟨hw.wl, hs.len.trans hw.nl, hs.good, (hs.fr n).2 hw.last, fun s hsn => ?_⟩
  have h := hw.st s hsn
  rw [if_neg (by omega)] at h
  split
  · rename_i hsi
    by_cases c : s < lowB bs l[k].2.2.2.2.1.1
    · exact stW_sub (stW_no hk h (by unfold covF; simp; omega)) hs
    · exact stW_sub (stW_old hk h (hi.2.2.2 s (by omega) hsi)) hs
  · exact stW_sub h hs
/-- a segment is won -/
theorem win_step {bs : List Int} {l : List TFact} {k n : Nat} {ws ns ns' : List Int} {i i' : Nat} (hk : k < l.length) (hw : WinI bs l k n ws ns i) (hfr : Fr ns i) (h1 : min (lowB bs l[k].2.2.2.2.1.1) n ≤ i) (h2 : i < lowB bs l[k].2.2.2.2.1.2) (h3 : i < n)
    (hs : SameFr (ns.set i ((i + 1 : Nat) : Int)) ns') (hi : IsFF (ns.set i ((i + 1 : Nat) : Int)) i i') : WinI bs l k n (ws.set i (k : Int)) ns' i' ∧ i < i' := by
  have hil : i < ns.length := by rw [hw.nl]; omega
  have hnot : ¬ Fr (ns.set i ((i + 1 : Nat) : Int)) i := by unfold Fr; rw [List.getElem?_set_self hil]; simp; omega
  have hii : i < i' := by
    rcases Nat.lt_or_ge i i' with c | c
    · exact c
    · have : i = i' := by have := hi.1; omega
      subst this; exact absurd hi.2.2.1 hnot
  have hoth : ∀ j, j ≠ i → (Fr (ns.set i ((i + 1 : Nat) : Int)) j ↔ Fr ns j) := fun j hj => by unfold Fr; rw [List.getElem?_set_ne (Ne.symm hj)]
  refine ⟨⟨by simp [hw.wl], by rw [hs.len]; simp [hw.nl], hs.good, (hs.fr n).2 ((hoth n (by omega)).2 hw.last), fun s hsn => ?_⟩, hii⟩
  by_cases c : s = i
  · subst c
    rw [if_pos hii]
    have h := hw.st s hsn
    rw [if_neg (by omega)] at h
    have hall := h.2.1 hfr
    have hc : covF bs l[k] s = true := by unfold covF; simp; omega
    unfold StW
    rw [take_snoc hk, fstW_snoc_new hall hc]
    refine ⟨by rw [List.getElem?_set_self (by rw [hw.wl]; omega)]; simp; omega, ⟨fun q => absurd ((hs.fr s).1 q) hnot, fun q => ?_⟩⟩
    have := q l[k] (List.mem_append_right _ (List.mem_singleton.2 rfl))
    rw [hc] at this; cases this
  · have h := hw.st s hsn
    have h' : StW bs (l.take (if s < i then k + 1 else k)) (ws.set i (k : Int)) ns' s := ⟨by rw [List.getElem?_set_ne (Ne.symm c)]; exact h.1, ((hs.fr s).trans (hoth s c)).trans h.2⟩
    by_cases c1 : s < i
    · rw [if_pos c1] at h'; rw [if_pos (by omega)]; exact h'
    · rw [if_neg c1] at h'
      split
      · rename_i c2
        exact stW_old hk h' (fun q => hi.2.2.2 s (by omega) c2 ((hs.fr s).1 q))
      · exact h'
theorem good_set {ns : List Int} {i : Nat} (hg : GoodN ns) (hfr : Fr ns i) (hi : i + 1 < ns.length) : GoodN (ns.set i ((i + 1 : Nat) : Int)) := by
  intro k hk
  rw [List.length_set] at hk
  have hoth : ∀ j, j ≠ i → (Fr (ns.set i ((i + 1 : Nat) : Int)) j ↔ Fr ns j) := fun j hj => by unfold Fr; rw [List.getElem?_set_ne (Ne.symm hj)]
  by_cases c : i = k
  · subst c
    refine ⟨i + 1, by rw [List.getElem?_set_self hk], by omega, by simpa using hi, fun j h1 h2 => ?_⟩
    have : j = i := by omega
    subst this
    unfold Fr; rw [List.getElem?_set_self hk]; simp; omega
  · obtain ⟨v, g1, g2, g3, g4⟩ := hg k hk
    refine ⟨v, by rw [List.getElem?_set_ne c]; exact g1, g2, by simpa using g3, fun j h1 h2 h => ?_⟩
    by_cases cj : j = i
    · subst cj; exact g4 j h1 h2 hfr
    · exact g4 j h1 h2 ((hoth j cj).1 h)
theorem win_end {bs : List Int} {l : List TFact} {k n : Nat} {ws ns : List Int} {i : Nat} (hk : k < l.length) (hw : WinI bs l k n ws ns i) (h : min (lowB bs l[k].2.2.2.2.1.2) n ≤ i) : WinI bs l (k + 1) n ws ns 0 := by
  refine ⟨hw.wl, hw.nl, hw.good, hw.last, fun s hsn => ?_⟩
  rw [if_neg (by omega)]
  have h' := hw.st s hsn
  split at h'
  · exact h'
  · exact stW_no hk h' (by unfold covF; simp; omega)
theorem win_init {bs : List Int} {l : List TFact} {n : Nat} {ws ns : List Int} (hw : ws.length = n) (hn : ns.length = n + 1) (h1 : ∀ s, s < n → ws[s]? = some (-1)) (h2 : ∀ s, s < n + 1 → ns[s]? = some (s : Int)) : WinI bs l 0 n ws ns 0 := by
  refine ⟨hw, hn, fun k hk => ⟨k, h2 k (by omega), Nat.le_refl _, hk, fun j _ _ => by omega⟩, h2 n (by omega), fun s hs => ?_⟩
  rw [if_neg (by omega)]
  exact ⟨by rw [h1 s hs]; simp [fstW], ⟨fun _ f hf => by simp at hf, fun _ => h2 s (by omega)⟩⟩
theorem win_done {bs : List Int} {l : List TFact} {k n : Nat} {ws ns : List Int} (hw : WinI bs l k n ws ns 0) (hk : k = l.length) (hn : n = bs.length - 1) : ws = winL bs l := by
  subst hk hn
  refine List.ext_getElem? fun s => ?_
  unfold winL
  rw [List.getElem?_map]
  by_cases c : s < bs.length - 1
  · have := (hw.st s c).1
    rw [if_neg (by omega), List.take_length] at this
    rw [this, List.getElem?_range c]; rfl
  · rw [List.getElem?_eq_none (by rw [hw.wl]; omega), List.getElem?_eq_none (by simp; omega)]; rfl
theorem ff_ex {ns : List Int} {n i : Nat} (hl : ns.length = n + 1) (hf : Fr ns n) (hi : i ≤ n) : IsFF ns i (ffree ns i) := by
  have hex : ∃ r, i ≤ r ∧ r < ns.length ∧ Fr ns r := ⟨n, hi, by omega, hf⟩
  obtain ⟨r, ⟨h1, h2, h3⟩, hmin⟩ := exists_least hex
  have : IsFF ns i r := ⟨h1, h2, h3, fun j hj1 hj2 hfj => by have := hmin j ⟨hj1, by omega, hfj⟩; omega⟩
  rw [ffree_eq this]; exact this
end Go.Proofs.Ytfamnoalgjkjhaa
