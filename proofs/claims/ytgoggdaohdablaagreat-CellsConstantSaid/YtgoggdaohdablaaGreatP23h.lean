import Derived.Test.YtgoggdaohdablaaGreatP23g
namespace Go.Proofs.YtgoggdaohdablaaGreat
open Go.Eng
set_option maxRecDepth 100000
set_option maxHeartbeats 1000000
set_option linter.unusedVariables false
set_option linter.unusedSimpArgs false
/-! chapter 23: a flat guard is constant on cells -/
theorem loc_sep {l : List Int} {a b c : Int} (hs : l.Pairwise (· < ·)) (h : locateF l a = locateF l b) (hc : c ∈ l) : c ≤ a ↔ c ≤ b := by
  obtain ⟨j, hj, rfl⟩ := List.getElem_of_mem hc
  unfold locateF at h
  have hle : ∀ K (hK : K < l.length), j ≤ K → l[j] ≤ l[K] := fun K hK q => by
    rcases Nat.lt_or_ge j K with r | r
    · exact Int.le_of_lt (List.pairwise_iff_getElem.1 hs j K hj hK r)
    · obtain rfl : j = K := by omega
      exact Int.le_refl _
  rcases locK_spec (l := l) (n := a) l.length (Nat.le_refl _) with ⟨h1, h2⟩ | ⟨K, hK, _, h1, h2, h3⟩ <;>
  rcases locK_spec (l := l) (n := b) l.length (Nat.le_refl _) with ⟨g1, g2⟩ | ⟨M, hM, _, g1, g2, g3⟩
  · have := h2 j hj hj; have := g2 j hj hj; omega
  · rw [h1, g1] at h; omega
  · rw [h1, g1] at h; omega
  · rw [h1, g1] at h
    obtain rfl : K = M := by omega
    by_cases q : j ≤ K
    · have := hle K hK q; omega
    · have := h3 j hj (by omega) hj; have := g3 j hj (by omega) hj; omega
theorem rng_sorted (lo : Int) (k : Nat) : (rng lo k).Pairwise (· < ·) := by
  unfold rng; rw [List.pairwise_map]
  exact List.Pairwise.imp (fun h => by omega) (List.pairwise_lt_range)
theorem rng_mem {lo z : Int} {k : Nat} (h0 : lo ≤ z) (h1 : z < lo + k) : z ∈ rng lo k := by
  unfold rng; rw [List.mem_map]; exact ⟨(z - lo).toNat, by simp; omega, by omega⟩
theorem reps_sorted (t : TType) (en : List TEnum) (cuts : List Int) : (repsF t en cuts).Pairwise (· < ·) := by
  unfold repsF; split
  · exact List.Pairwise.nil
  · split
    · exact rng_sorted _ _
    · exact (uniqS_ok _).1
theorem cell_all {t : TType} {en : List TEnum} {cuts : List Int} {a b : Int} (hv : validType t en = true) (hk : t.1 = 1 ∨ t.1 = 6) (ha : (bounds t en).1 ≤ a ∧ a ≤ (bounds t en).2) (hb : (bounds t en).1 ≤ b ∧ b ≤ (bounds t en).2)
    (h : locateF (repsF t en cuts) a = locateF (repsF t en cuts) b) : a = b := by
  have e : repsF t en cuts = rng (bounds t en).1 ((bounds t en).2 - (bounds t en).1 + 1).toNat := by unfold repsF; rw [if_neg (by rw [hv]; simp), if_pos hk]
  have h1 := loc_sep (reps_sorted t en cuts) h (c := a) (by rw [e]; exact rng_mem ha.1 (by omega))
  have h2 := loc_sep (reps_sorted t en cuts) h (c := b) (by rw [e]; exact rng_mem hb.1 (by omega))
  omega
theorem cell_cut {t : TType} {en : List TEnum} {cuts : List Int} {a b c : Int} (hv : validType t en = true) (hk : ¬ (t.1 = 1 ∨ t.1 = 6)) (ha : (bounds t en).1 ≤ a ∧ a ≤ (bounds t en).2) (hb : (bounds t en).1 ≤ b ∧ b ≤ (bounds t en).2)
    (h : locateF (repsF t en cuts) a = locateF (repsF t en cuts) b) (hc : c ∈ cuts) : c ≤ a ↔ c ≤ b := by
  have e : repsF t en cuts = uniqS ([(bounds t en).1] ++ cuts.filter (inR (bounds t en).1 (bounds t en).2)) := by unfold repsF; rw [if_neg (by rw [hv]; simp), if_neg hk]
  by_cases q : (bounds t en).1 ≤ c ∧ c ≤ (bounds t en).2
  · refine loc_sep (reps_sorted t en cuts) h ?_
    rw [e, (uniqS_ok _).2]
    exact List.mem_append_right _ (List.mem_filter.2 ⟨hc, by simp [inR, q.1, q.2]⟩)
  · omega
theorem cutsK_mem {e : List TNode} {inp z : Int} {i : Nat} : ∀ {k : Nat}, i < k → z ∈ cutAt e inp i → z ∈ cutsK e inp k
  | k + 1, h, hz => by
    rw [cutsK, List.mem_append]
    by_cases q : i < k
    · exact .inl (cutsK_mem q hz)
    · obtain rfl : i = k := by omega
      exact .inr hz
variable {e : List TNode} {s : TSignature} {ty : Nat → TType} {x y : List TValue}
theorem nd_nat {i : Nat} (h : i < e.length) : nd e (i : Int) = e[i] := by unfold nd; rw [Int.toNat_natCast, List.getD_eq_getElem?_getD, List.getElem?_eq_getElem h]; rfl
theorem ev_and {n i a b : Nat} (h : i < e.length) (ho : e[i].1 = 23 ∨ e[i].1 = 24) (hops : opsF e i = [(a : Int), (b : Int)]) : evV e x (n + 1) i = lazyF e[i].1 (evV e x n a) (evV e x n b) := by
  rw [evV, nd_nat h, if_pos ho, hops]; rfl
theorem ev_app {n i : Nat} (h : i < e.length) (ho : ¬ (e[i].1 = 23 ∨ e[i].1 = 24)) : evV e x (n + 1) i = applyF e[i] ((opsF e i).map (evV e x n)) x := by
  rw [evV, nd_nat h, if_neg ho]
theorem ev_leaf {n i : Nat} (h : i < e.length) (ho : 1 ≤ e[i].1 ∧ e[i].1 ≤ 7) (hops : opsF e i = []) (hn : i < n) : evV e x n i = leafV e[i] x := by
  obtain ⟨m, rfl⟩ : ∃ m, n = m + 1 := ⟨n - 1, by omega⟩
  rw [ev_app h (by omega), hops]; rfl
theorem Flat.val (F : Flat e s ty x) : ∀ (n i : Nat), i < n → ∀ (h : i < e.length), (evV e x n i).1 = (ty i).1 ∧ (evV e x n i).2.1 = (ty i).2 ∧ plaus (evV e x n i) = true
  | n + 1, i, hi, h => by
    rcases flat_ops h (F.flat i h) with ho | ho | ho | ho | ⟨ho, _⟩
    · obtain ⟨hops, _, v1, v2, v3, _⟩ := F.sh_leaf h ho
      rw [ev_leaf h ho hops hi]; exact ⟨v1, v2, v3⟩
    · obtain ⟨a, b, hops, ha, hb, _, ta, tb, ti⟩ := F.sh_and h (.inl ho)
      rw [ev_and h (.inl ho) hops, ti]
      have h1 := F.val n a (by omega) (by omega); have h2 := F.val n b (by omega) (by omega)
      rw [ta] at h1; rw [tb] at h2
      unfold lazyF; split
      · exact h1
      · exact h2
    · obtain ⟨a, b, hops, ha, hb, _, ta, tb, ti⟩ := F.sh_and h (.inr ho)
      rw [ev_and h (.inr ho) hops, ti]
      have h1 := F.val n a (by omega) (by omega); have h2 := F.val n b (by omega) (by omega)
      rw [ta] at h1; rw [tb] at h2
      unfold lazyF; split
      · exact h1
      · exact h2
    · obtain ⟨a, hops, ha, _, ta, ti⟩ := F.sh_not h ho
      rw [ev_app h (by omega), hops, ti]
      exact ⟨rfl, rfl, plaus_truth _⟩
    · obtain ⟨a, b, hops, ha, hb, _, _, _, ti⟩ := F.sh_cmp h ho
      rw [ev_app h (by omega), hops, ti]
      exact ⟨rfl, rfl, plaus_truth _⟩
theorem leaf_no {d : TNode} (h : ¬ d.1 = 7) : leafV d y = leafV d x := by unfold leafV; rw [if_neg h, if_neg h]
theorem leaf_in {d : TNode} (h : d.1 = 7) (hx : d.2.toNat < x.length) : leafV d x = x[d.2.toNat] := by
  unfold leafV; rw [if_pos h, List.getD_eq_getElem?_getD, List.getElem?_eq_getElem hx]; rfl
/-- the inputs lie in the same cells -/
def Cells (e : List TNode) (s : TSignature) (x y : List TValue) : Prop :=
  ∀ i (h1 : i < x.length) (h2 : i < y.length) (h3 : i < s.2.2.1.length), locateF (repsF s.2.2.1[i] s.1 (uniqS (gK [e] (i : Int) 1))) x[i].2.2 = locateF (repsF s.2.2.1[i] s.1 (uniqS (gK [e] (i : Int) 1))) y[i].2.2
theorem Flat.inpv (F : Flat e s ty x) {i : Nat} (h : i < x.length) (h2 : i < s.2.2.1.length) : (bounds s.2.2.1[i] s.1).1 ≤ x[i].2.2 ∧ x[i].2.2 ≤ (bounds s.2.2.1[i] s.1).2 := (F.xv i h h2).2.2.2
theorem Flat.same (F : Flat e s ty x) (G : Flat e s ty y) (C : Cells e s x y) {j : Nat} (h1 : j < x.length) (h2 : j < y.length) (h3 : j < s.2.2.1.length) (hv : validType s.2.2.1[j] s.1 = true) (hk : (s.2.2.1[j]).1 = 1 ∨ (s.2.2.1[j]).1 = 6) : x[j] = y[j] := by
  obtain ⟨a1, a2, _⟩ := F.xv j h1 h3
  obtain ⟨b1, b2, _⟩ := G.xv j h2 h3
  have := cell_all hv hk (F.inpv h1 h3) (G.inpv h2 h3) (C j h1 h2 h3)
  exact Prod.ext (by rw [a1, b1]) (Prod.ext (by rw [a2, b2]) this)
theorem Flat.cut (F : Flat e s ty x) (G : Flat e s ty y) (C : Cells e s x y) {j i : Nat} {c : Int} (h1 : j < x.length) (h2 : j < y.length) (h3 : j < s.2.2.1.length) (hv : validType s.2.2.1[j] s.1 = true) (hk : ¬ ((s.2.2.1[j]).1 = 1 ∨ (s.2.2.1[j]).1 = 6)) (hi : i < e.length) (hc : c ∈ cutAt e (j : Int) i) :
    c ≤ x[j].2.2 ↔ c ≤ y[j].2.2 := by
  refine cell_cut hv hk (F.inpv h1 h3) (G.inpv h2 h3) (C j h1 h2 h3) ?_
  rw [(uniqS_ok _).2, gK_step (k := 0) (by simp)]
  exact List.mem_append_right _ (cutsK_mem hi hc)
theorem cmp_left {op : Int} (ho : 19 ≤ op ∧ op ≤ 22) {a b l : TValue} (h1 : l.2.2 ≤ a.2.2 ↔ l.2.2 ≤ b.2.2) (h2 : l.2.2 + 1 ≤ a.2.2 ↔ l.2.2 + 1 ≤ b.2.2) : cmpV op a l = cmpV op b l ∧ cmpV op l a = cmpV op l b := by
  unfold cmpV
  constructor <;> (congr 1; (repeat' split) <;> (rw [decide_eq_decide]; omega))
theorem Flat.const (F : Flat e s ty x) (G : Flat e s ty y) (C : Cells e s x y) : ∀ (n i : Nat), i < n → ∀ (h : i < e.length), ty i = (1, 0) → evV e x n i = evV e y n i
  | n + 1, i, hi, h, ht => by
    have hxy : x.length = y.length := by rw [F.xl, G.xl]
    rcases flat_ops h (F.flat i h) with ho | ho | ho | ho | ⟨ho, hsm⟩
    · obtain ⟨hops, h7, v1, v2, v3, v4, v5⟩ := F.sh_leaf h ho
      rw [ev_leaf h ho hops hi, ev_leaf h ho hops hi]
      by_cases q : e[i].1 = 7
      · obtain ⟨z0, z1, z2, z3⟩ := h7 q
        have hx : e[i].2.toNat < x.length := by omega
        have hvt := (F.typ i h).2.2.2.2
        rw [leaf_in q hx, leaf_in q (by omega)]
        exact F.same G C hx (by omega) z2 (by rw [← z3]; exact hvt) (.inl (by rw [← z3, ht]))
      · unfold leafV; rw [if_neg q, if_neg q]
    · obtain ⟨a, b, hops, ha, hb, _, ta, tb, ti⟩ := F.sh_and h (.inl ho)
      rw [ev_and h (.inl ho) hops, ev_and h (.inl ho) hops, F.const G C n a (by omega) (by omega) ta, F.const G C n b (by omega) (by omega) tb]
    · obtain ⟨a, b, hops, ha, hb, _, ta, tb, ti⟩ := F.sh_and h (.inr ho)
      rw [ev_and h (.inr ho) hops, ev_and h (.inr ho) hops, F.const G C n a (by omega) (by omega) ta, F.const G C n b (by omega) (by omega) tb]
    · obtain ⟨a, hops, ha, _, ta, ti⟩ := F.sh_not h ho
      rw [ev_app h (by omega), ev_app h (by omega), hops]
      simp only [List.map_cons, List.map_nil, applyF]
      rw [F.const G C n a (by omega) (by omega) ta]
    · obtain ⟨a, b, hops, ha, hb, _, tab, _, ti⟩ := F.sh_cmp h ho
      rw [ev_app h (by omega), ev_app h (by omega), hops]
      simp only [List.map_cons, List.map_nil, applyF]
      have hla : a < e.length := by omega
      have hlb : b < e.length := by omega
      have eA : opA e i = e[a] := by unfold opA; rw [hops]; simp [hla]
      have eB : opB e i = e[b] := by unfold opB; rw [hops]; simp [hlb]
      have hcmp : isCmp (e[i]?.getD (0, 0)).1 = true := by rw [List.getElem?_eq_getElem h]; simp [isCmp]; omega
      have hlen : ¬ (opsF e i).length ≠ 2 := by rw [hops]; simp
      by_cases q1 : e[a].1 = 7 ∧ isLit e[b].1 = true
      · have hS : simpleF e i = (e[a].2, e[b], true) := by unfold simpleF; rw [if_neg hlen, eA, eB, if_pos q1]
        have hlit : 2 ≤ e[b].1 ∧ e[b].1 ≤ 6 := by simpa [isLit] using q1.2
        obtain ⟨opa, a7, _⟩ := F.sh_leaf hla (by omega)
        obtain ⟨opb, _, b1, b2, b3, b4, b5⟩ := F.sh_leaf hlb (by omega)
        obtain ⟨z0, z1, z2, z3⟩ := a7 q1.1
        have hx : e[a].2.toNat < x.length := by omega
        have hvt := (F.typ a hla).2.2.2.2
        rw [z3] at hvt
        have eb : evV e x n b = leafV e[b] x := ev_leaf hlb (by omega) opb (by omega)
        have eb' : evV e y n b = leafV e[b] x := by rw [ev_leaf hlb (by omega) opb (by omega)]; exact leaf_no (by omega)
        rw [ev_leaf hla (by omega) opa (by omega), ev_leaf hla (by omega) opa (by omega), leaf_in q1.1 hx, leaf_in q1.1 (by omega), eb, eb']
        have hkb : (s.2.2.1[e[a].2.toNat]).1 = e[b].1 := by rw [← z3, tab]; exact b5 (by omega)
        by_cases q6 : e[b].1 = 6
        · rw [F.same G C hx (by omega) z2 hvt (.inr (by rw [hkb]; exact q6))]
        · have hl : leafV e[b] x = (e[b].1, 0, e[b].2) := by unfold leafV; rw [if_neg (by omega), if_neg q6]
          rw [hl] at b3 ⊢
          have hmax : e[b].2 < 9223372036854775807 := by
            have : e[b].1 = 2 ∨ e[b].1 = 3 ∨ e[b].1 = 4 ∨ e[b].1 = 5 := by omega
            rcases this with q | q | q | q <;> simp [plaus, bnd13, q] at b3 <;> omega
          have hcut : cutAt e (e[a].2.toNat : Nat) i = [e[b].2, e[b].2 + 1] := by
            unfold cutAt; rw [if_pos ⟨hcmp, by rw [hS], by rw [hS]; simp; omega, by rw [hS]; exact q6⟩, hS]; unfold cutN; rw [if_pos hmax]
          exact (cmp_left ho (F.cut G C hx (by omega) z2 hvt (by rw [hkb]; omega) h (by rw [hcut]; simp)) (F.cut G C hx (by omega) z2 hvt (by rw [hkb]; omega) h (by rw [hcut]; simp))).1
      · have q2 : e[b].1 = 7 ∧ isLit e[a].1 = true := by
          apply Classical.byContradiction; intro q
          have : simpleF e i = (0, (0, 0), false) := by unfold simpleF; rw [if_neg hlen, eA, eB, if_neg q1, if_neg q]
          rw [this] at hsm; cases hsm
        have hS : simpleF e i = (e[b].2, e[a], true) := by unfold simpleF; rw [if_neg hlen, eA, eB, if_neg q1, if_pos q2]
        have hlit : 2 ≤ e[a].1 ∧ e[a].1 ≤ 6 := by simpa [isLit] using q2.2
        obtain ⟨opb, b7, _⟩ := F.sh_leaf hlb (by omega)
        obtain ⟨opa, _, b1, b2, b3, b4, b5⟩ := F.sh_leaf hla (by omega)
        obtain ⟨z0, z1, z2, z3⟩ := b7 q2.1
        have hx : e[b].2.toNat < x.length := by omega
        have hvt := (F.typ b hlb).2.2.2.2
        rw [z3] at hvt
        have ea : evV e x n a = leafV e[a] x := ev_leaf hla (by omega) opa (by omega)
        have ea' : evV e y n a = leafV e[a] x := by rw [ev_leaf hla (by omega) opa (by omega)]; exact leaf_no (by omega)
        rw [ev_leaf hlb (by omega) opb (by omega), ev_leaf hlb (by omega) opb (by omega), leaf_in q2.1 hx, leaf_in q2.1 (by omega), ea, ea']
        have hkb : (s.2.2.1[e[b].2.toNat]).1 = e[a].1 := by rw [← z3, ← tab]; exact b5 (by omega)
        by_cases q6 : e[a].1 = 6
        · rw [F.same G C hx (by omega) z2 hvt (.inr (by rw [hkb]; exact q6))]
        · have hl : leafV e[a] x = (e[a].1, 0, e[a].2) := by unfold leafV; rw [if_neg (by omega), if_neg q6]
          rw [hl] at b3 ⊢
          have hmax : e[a].2 < 9223372036854775807 := by
            have : e[a].1 = 2 ∨ e[a].1 = 3 ∨ e[a].1 = 4 ∨ e[a].1 = 5 := by omega
            rcases this with q | q | q | q <;> simp [plaus, bnd13, q] at b3 <;> omega
          have hcut : cutAt e (e[b].2.toNat : Nat) i = [e[a].2, e[a].2 + 1] := by
            unfold cutAt; rw [if_pos ⟨hcmp, by rw [hS], by rw [hS]; simp; omega, by rw [hS]; exact q6⟩, hS]; unfold cutN; rw [if_pos hmax]
          exact (cmp_left ho (F.cut G C hx (by omega) z2 hvt (by rw [hkb]; omega) h (by rw [hcut]; simp)) (F.cut G C hx (by omega) z2 hvt (by rw [hkb]; omega) h (by rw [hcut]; simp))).2
end Go.Proofs.YtgoggdaohdablaaGreat
