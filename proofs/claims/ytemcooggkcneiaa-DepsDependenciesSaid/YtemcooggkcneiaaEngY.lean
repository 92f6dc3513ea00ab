import Derived.Test.YtemcooggkcneiaaEngQ
namespace Go.Eng
set_option linter.unusedSimpArgs false
set_option linter.unusedVariables false
/-! ### a drawn region whose end is forced but for its first operations, which may come late -/
section
variable {P : Program} {cx : Cx} {st st' : St} {β : Loc} {a : Act} {w w' : World} {ops : Array Oper} {k : Kn} {c : Code}
/-- all but some of the first q are listed, up to m -/
structure LstT (ops : Array Oper) (q m : Nat) (listed : Array Bool) : Prop where
  size : listed.size = ops.size
  mid : ∀ i, q ≤ i → i ≤ m → listed.getD i false = true
  high : ∀ i, m < i → i < ops.size → listed.getD i false = false
  closed : ∀ j oj, ops[j]? = some oj → listed.getD j false = true → ∀ e ∈ oj.after, Region.binds .any e = true → listed.getD e.on false = true
theorem countP_mono : ∀ (x y : List Bool), x.length = y.length → (∀ i : Nat, x[i]? = some true → y[i]? = some true) → y.countP (fun b => !b) ≤ x.countP (fun b => !b)
  | [], [], _, _ => Nat.le_refl _
  | [], _ :: _, h, _ => by simp at h
  | _ :: _, [], h, _ => by simp at h
  | b :: x, c :: y, h, hh => by
    have h1 := countP_mono x y (by simpa using h) (fun i hi => by simpa using hh (i + 1) (by simpa using hi))
    have h2 := hh 0
    cases b <;> cases c <;> simp at h2 ⊢ <;> omega
theorem unl_ge {listed : Array Bool} {n m : Nat} (hs : listed.size = n) (h : ∀ i, i < n → listed.getD i false = true → i ≤ m) : n - (m + 1) ≤ unl listed := by
  rw [← unl_mkL n (m + 1)]
  unfold unl
  refine countP_mono _ _ (by simp [mkL, hs]) fun i hi => ?_
  have hin : i < n := by
    have := (List.getElem?_eq_some_iff.1 hi).1
    simpa [hs] using this
  have h1 : listed.getD i false = true := by
    have hi' : listed[i]? = some true := by simpa using hi
    simp [hi']
  have := h i hin h1
  simp [mkL, hin]; omega
theorem LstT.zero {q m : Nat} {listed : Array Bool} (h : LstT ops q m listed) (hm : m < ops.size) (hz : unl listed = ops.size - (m + 1)) : listed = mkL ops.size (m + 1) := by
  refine eq_mkL h.size fun i hi' => ?_
  by_cases e : i ≤ m
  · rw [show decide (i < m + 1) = true by simp; omega]
    cases hl : listed.getD i false with
    | true => rfl
    | false =>
      exfalso
      have h1 := unl_set (by rw [h.size]; exact hi') hl
      have h2 := unl_ge (listed := listed.setIfInBounds i true) (n := ops.size) (m := m) (by simp [h.size]) (fun j hj hjl => by
        by_cases e2 : i = j
        · omega
        · rw [getD_set_ne false e2] at hjl
          rcases Nat.lt_or_ge m j with g | g
          · rw [h.high j g hj] at hjl; cases hjl
          · exact g)
      omega
  · rw [h.high i (by omega) hi']; simp; omega
theorem LstT.more {q m : Nat} {listed : Array Bool} (h : LstT ops q m listed) (hm : m < ops.size) (hz : ops.size - (m + 1) < unl listed) : ∃ i, i < ops.size ∧ listed.getD i false = false ∧ i < q := by
  rcases Classical.em (∃ i, i < ops.size ∧ listed.getD i false = false ∧ i < q) with h' | h'
  · exact h'
  · exfalso
    have : listed = mkL ops.size (m + 1) := eq_mkL h.size fun i his => by
      by_cases e : i ≤ m
      · rw [show decide (i < m + 1) = true by simp; omega]
        cases hl' : listed.getD i false with
        | true => rfl
        | false =>
          exfalso
          rcases Nat.lt_or_ge i q with g | g
          · exact h' ⟨i, his, hl', g⟩
          · rw [h.mid i g e] at hl'; cases hl'
      · rw [h.high i (by omega) his]; simp; omega
    rw [this, unl_mkL] at hz
    omega
theorem LstT.early {q m : Nat} {listed : Array Bool} (h : LstT ops q m listed) (hm : m < ops.size)
    (hlate : ∀ i oi, ops[i]? = some oi → m < i → (∃ e ∈ oi.after, Region.binds .any e = true ∧ m < e.on) ∨ ∀ j, j < q → ∃ e ∈ oi.after, Region.binds .any e = true ∧ e.on = j)
    (hz : ops.size - (m + 1) < unl listed) (i : Nat) (hr : i ∈ Region.ready .any ops listed) : i < q := by
  obtain ⟨hun, oi, hoi, hdeps⟩ := mem_ready.1 hr
  have his : i < listed.size := by rw [h.size]; exact (Array.getElem?_eq_some_iff.1 hoi).1
  rw [getD_tf his] at hun
  rcases Nat.lt_or_ge i q with g | g
  · exact g
  · exfalso
    rcases Nat.lt_or_ge m i with g2 | g2
    · rcases hlate i oi hoi g2 with ⟨e, he, hb, hon⟩ | hall
      · have h1 := hdeps e he hb
        rcases Nat.lt_or_ge e.on ops.size with g3 | g3
        · rw [h.high e.on hon g3] at h1; cases h1
        · rw [Array.getD_eq_getD_getElem?, Array.getElem?_eq_none (by rw [h.size]; exact g3)] at h1; simp at h1
      · obtain ⟨j, hj1, hj2, hj3⟩ := h.more hm hz
        obtain ⟨e, he, hb, hon⟩ := hall j hj3
        have := hdeps e he hb
        rw [hon, hj2] at this; cases this
    · rw [h.mid i g g2] at hun; cases hun
theorem LstT.set {q m i : Nat} {listed : Array Bool} (h : LstT ops q m listed) (dk : DrawOk ops) (hr : i ∈ Region.ready .any ops listed) (hhi : i < q) (hqm : q ≤ m) : LstT ops q m (listed.setIfInBounds i true) := by
  obtain ⟨hun, oi, hoi, hall⟩ := mem_ready.1 hr
  refine ⟨by simp [h.size], fun j hj hj2 => ?_, fun t ht hts => by rw [getD_set_ne false (by omega)]; exact h.high t ht hts, fun j oj hj hl e he hb => ?_⟩
  · rw [getD_set_ne false (by omega)]; exact h.mid j hj hj2
  · by_cases hij : i = j
    · subst hij
      have : oj = oi := Option.some.inj (hj.symm.trans hoi)
      subst this
      exact getD_set_true (hall e he hb)
    · rw [getD_set_ne false hij] at hl
      exact getD_set_true (h.closed j oj hj hl e he hb)
theorem draw_seg3 (dk : DrawOk ops) {Q : Exit → Act → World → Prop} {lo hi m g : Nat} (hlo : lo = 0) (hgg : g = ops.size - (m + 1)) {l : List Oper} {cs : List (Nat × SV)} (hqm : hi ≤ m) (hhi : m < ops.size) (hl : l.length = hi - lo) (hat : ∀ i, i < l.length → l[i]? = ops[lo + i]?)
    (hlate : ∀ i oi, ops[i]? = some oi → m < i → (∃ e ∈ oi.after, Region.binds .any e = true ∧ m < e.on) ∨ ∀ j, j < hi → ∃ e ∈ oi.after, Region.binds .any e = true ∧ e.on = j)
    (has : AS P cx ops st l cs)
    (hK : ∀ a w, Inv cx (stOf st cs (fun _ => true)) a w → wpAny P .any ops Q g (mkL ops.size (m + 1)) a w) :
    ∀ (f : Nat) (listed : Array Bool), LstT ops hi m listed → unl listed = f + (ops.size - (m + 1)) → ∀ a w, Inv cx (stOf st cs (fun i => listed.getD (lo + i) false)) a w → wpAny P .any ops Q (f + g) listed a w := by
  obtain ⟨hcl, hga⟩ := has.at_
  have hidx : ∀ j c, cs[j]? = some c → ∃ oj, ops[lo + j]? = some oj ∧ oj.dst = some c.1 ∧ j < l.length := by
    intro j c hj
    have hjl : j < l.length := by rw [← hcl]; exact (List.getElem?_eq_some_iff.1 hj).1
    obtain ⟨d, s, h1, h2, _⟩ := hga j l[j] (List.getElem?_eq_getElem hjl)
    rw [hj] at h1
    injection h1 with h1
    subst h1
    exact ⟨l[j], by rw [← hat j hjl]; exact List.getElem?_eq_getElem hjl, h2, hjl⟩
  intro f
  induction f with
  | zero =>
    intro listed hL hu a w hi'
    have he := hL.zero hhi (by omega)
    subst he
    rw [Nat.zero_add]
    refine hK a w ?_
    refine Sub.inv ⟨fun i s hs => ?_, fun i s hs => ?_⟩ hi'
    · rw [stOf_look] at hs ⊢
      rw [← hs]
      congr 1
      exact lookC_other fun j c hj _ => by
        obtain ⟨_, _, _, hjl⟩ := hidx j c hj
        rw [mkL_getD false (by omega)]; simp; omega
    · rw [stOf_heap] at hs ⊢; exact hs
  | succ f ih =>
    intro listed hL hu a w hi'
    rw [show f + 1 + g = (f + g) + 1 by omega]
    refine ⟨fun hnil => ?_, fun i hr => ?_⟩
    · -- some operation has not run: the first of these is ready
      exfalso
      have hex := hL.more hhi (show ops.size - (m + 1) < unl listed by omega)
      obtain ⟨n0, ⟨h1, h2, h3⟩, hmin⟩ := exists_least hex
      have : n0 ∈ Region.ready .any ops listed := by
        have hs : n0 < listed.size := by rw [hL.size]; exact h1
        refine mem_ready.2 ⟨by rw [getD_tf hs]; exact h2, ops[n0], Array.getElem?_eq_getElem h1, fun e he hb => ?_⟩
        have hlt := dk.back n0 _ (Array.getElem?_eq_getElem h1) e he hb
        cases hl' : listed.getD e.on false with
        | true => rfl
        | false =>
          have := hmin e.on ⟨by omega, hl', by omega⟩
          omega
      rw [hnil] at this
      cases this
    · have hih := hL.early hhi hlate (show ops.size - (m + 1) < unl listed by omega) i hr
      have hil : lo ≤ i := by omega
      obtain ⟨hun, oi, hoi, hdeps⟩ := mem_ready.1 hr
      have his : i < listed.size := by rw [hL.size]; exact (Array.getElem?_eq_some_iff.1 hoi).1
      have hunf : listed.getD i false = false := by rw [← getD_tf his]; exact hun
      have hli : l[i - lo]? = some oi := by
        rw [hat (i - lo) (by omega), show lo + (i - lo) = i by omega]; exact hoi
      obtain ⟨d, s, hcs, hdst, hG⟩ := hga (i - lo) oi hli
      -- which others write a slot that this one touches
      have hwr : ∀ j c, cs[j]? = some c → j ≠ i - lo → (c.1 ∈ oi.looksAt ops ∨ c.1 = d) → (listed.getD (lo + j) false = true ↔ j < i - lo) := by
        intro j c hj hne hc
        obtain ⟨oj, hoj, hdj, hjl⟩ := hidx j c hj
        rcases Nat.lt_or_ge j (i - lo) with h | h
        · have hap : oj.apart ops oi = false := by
            cases hb : oj.apart ops oi with
            | false => rfl
            | true =>
              obtain ⟨h1, h2, h3⟩ := Oper.apart_spec hb
              rcases hc with hc | hc
              · exact absurd hc (h1 c.1 hdj)
              · exact absurd (by rw [hdst, hc]) (h2 c.1 hdj)
          obtain ⟨e, he, hb, hon⟩ := dk.order (lo + j) i oj oi (by omega) hoj hoi hap
          have := hdeps e he hb
          rw [hon] at this
          simp [this, h]
        · have hgt : i < lo + j := by omega
          have hap : oi.apart ops oj = false := by
            cases hb : oi.apart ops oj with
            | false => rfl
            | true =>
              obtain ⟨h1, h2, h3⟩ := Oper.apart_spec hb
              rcases hc with hc | hc
              · exact absurd hc (h3 c.1 hdj)
              · exact absurd (by rw [hdj, hc]) (h2 d hdst)
          obtain ⟨e, he, hb, hon⟩ := dk.order i (lo + j) oi oj hgt hoi hoj hap
          cases hlj : listed.getD (lo + j) false with
          | false => simp; omega
          | true =>
            have := hL.closed (lo + j) oj hoj hlj e he hb
            rw [hon, hunf] at this
            cases this
      have hagr : AgrG ops oi (stOf st (cs.take (i - lo)) (fun _ => true)) (stOf st cs (fun j => listed.getD (lo + j) false)) := by
        refine ⟨fun t ht => ?_, fun _ _ _ _ _ _ => by rw [stOf_heap, stOf_heap]⟩
        rw [stOf_look, stOf_look]
        congr 1
        refine lookC_take fun j c hj he => ?_
        by_cases hne : j = i - lo
        · subst hne
          rw [show lo + (i - lo) = i by omega, hunf]; simp
        · exact hwr j c hj hne (.inl (by rw [he]; exact ht))
      have hstep := hG _ hagr a w hi' (Q := Q)
      have hnext : ∀ a' w', Inv cx ((stOf st cs (fun j => listed.getD (lo + j) false)).put d s) a' w' → wpAny P .any ops Q (f + g) (listed.setIfInBounds i true) a' w' := by
        intro a' w' hi''
        refine ih _ (hL.set dk hr hih hqm) (by have := unl_set his hunf; omega) a' w' ?_
        refine Sub.inv ⟨fun t s' hs => ?_, fun t s' hs => ?_⟩ hi''
        · simp only [St.put, lookS_cons]
          rw [stOf_look] at hs
          have hset : ∀ j, (listed.setIfInBounds i true).getD (lo + j) false = if j = i - lo then true else listed.getD (lo + j) false := by
            intro j
            by_cases hne : j = i - lo
            · subst hne
              rw [if_pos rfl, show lo + (i - lo) = i by omega]
              simp [his]
            · rw [if_neg hne, getD_set_ne false (by omega)]
          by_cases e : d = t
          · subst e
            rw [if_pos rfl]
            have := lookC_last (cs := cs) (L := fun j => (listed.setIfInBounds i true).getD (lo + j) false) (i := i - lo) (c := (d, s)) hcs (by simp only [hset]; simp) (fun j c' hj he hij => by
              simp only [hset]
              rw [if_neg (by omega)]
              have := hwr j c' hj (by omega) (.inr he)
              cases hlj : listed.getD (lo + j) false with
              | false => rfl
              | true => have := this.1 hlj; omega)
            rw [this] at hs
            exact hs
          · rw [if_neg e, stOf_look, ← hs]
            congr 1
            refine lookC_other fun j c hj he => ?_
            simp only [hset]
            rw [if_neg (by
              rintro rfl
              rw [hcs] at hj
              injection hj with hj
              subst hj
              exact e he)]
        · simp only [St.put, stOf_heap] at hs ⊢; exact hs
      unfold wpOp
      simp only [hoi]
      split
      · rename_i hw
        rw [if_pos hw] at hstep
        exact .inl (Oper.wp_mono hnext hstep)
      · rename_i hw
        rw [if_neg hw] at hstep
        exact hnext _ _ hstep

/-- the first q operations may come after the m-th, which turns the state -/
def lateNB (ops : Array Oper) (q m : Nat) : Bool :=
  (List.range m).all (fun i => decide (i < q) || (List.range (m + 1)).any fun j => decide (i < j) && Region.waitsFor .any ops j i) &&
  (List.range ops.size).all fun i => decide (i ≤ m) || (match ops[i]? with | some oi => oi.after.any (fun e => Region.binds .any e && decide (m ≤ e.on)) && (oi.after.any (fun e => Region.binds .any e && decide (m < e.on)) || (List.range q).all fun j => oi.after.any (fun e => Region.binds .any e && Nat.beq e.on j)) | none => true)
theorem j_draw_lateN {id : Nat} {l : List Oper} {cs1 cs2 : List (Nat × SV)} {om : Oper} {stB : St} (q m : Nat) (hm : P.follows .mixedOrders = true) (hB : drawB l.toArray = true) (hbar : lateNB l.toArray q m = true) (hml : m < l.length) (hqm : q ≤ m)
    (hom : l[m]? = some om) (hgm : om.guard = none)
    (has1 : AS P cx l.toArray st (l.take m) cs1)
    (hA : ∀ bs : List Bool, bs.length = q → ∀ a w, Inv cx (stOf st cs1 (fun i => bs.getD i true)) a w → ∀ Q, om.wp P a w (fun a' w' => Inv cx (stOf stB cs2 (fun i => bs.getD i true)) a' w') Q)
    (has2 : AS P cx l.toArray stB (l.take q) cs2)
    (ht : JT P cx l (m + 1) (stOf stB cs2 (fun _ => true)) k) : J P cx st (.region id l.toArray true) k := by
  have dk := drawOk_of hB
  unfold lateNB at hbar
  rw [Bool.and_eq_true, List.all_eq_true, List.all_eq_true] at hbar
  obtain ⟨hb1, hb2⟩ := hbar
  intro a w hi
  refine wp_region_any hm ?_
  obtain ⟨β, hb⟩ := hi
  have hi0 : Inv cx st a w.drew := ⟨β, hb.later (Below.drew' w)⟩
  have hst0 : Inv cx (stOf st cs1 (fun i => (Array.replicate l.toArray.size false).getD (0 + i) false)) a w.drew := by
    refine Sub.inv ⟨fun i s hs => ?_, fun i s hs => ?_⟩ hi0
    · rw [stOf_look, lookC_none (fun j c _ _ => getD_replicate_false _ _)] at hs; simpa using hs
    · rw [stOf_heap] at hs; exact hs
  have hL : Lst l.toArray 0 m (Array.replicate l.toArray.size false) :=
    ⟨by simp, fun i h => by omega, fun i h1 h2 => by simp only [List.size_toArray] at h2; simp [h2], fun j oj hj hl => by rw [getD_replicate_false] at hl; cases hl⟩
  have hu : unl (Array.replicate l.toArray.size false) = m + (l.toArray.size - m) := by rw [unl_rep]; simp; omega
  have homs : l.toArray[m]? = some om := by simpa using hom
  have hls : l.toArray.size = l.length := by simp
  obtain ⟨hcl1, _⟩ := has1.at_
  obtain ⟨hcl2, _⟩ := has2.at_
  have hlate : ∀ i oi, l.toArray[i]? = some oi → m < i → (∃ e ∈ oi.after, Region.binds .any e = true ∧ m < e.on) ∨ ∀ j, j < q → ∃ e ∈ oi.after, Region.binds .any e = true ∧ e.on = j := by
    intro i oi hoi hgt
    have his := (Array.getElem?_eq_some_iff.1 hoi).1
    have := hb2 i (List.mem_range.2 his)
    simp only [hoi, Bool.or_eq_true, decide_eq_true_eq, Bool.and_eq_true] at this
    rcases this with h | ⟨_, h | h⟩
    · omega
    · obtain ⟨e, he, hbe⟩ := Array.any_eq_true'.1 h
      simp only [Bool.and_eq_true, decide_eq_true_eq] at hbe
      exact .inl ⟨e, he, hbe.1, hbe.2⟩
    · refine .inr fun j hj => ?_
      have := List.all_eq_true.1 h j (List.mem_range.2 hj)
      obtain ⟨e, he, hbe⟩ := Array.any_eq_true'.1 this
      simp only [Bool.and_eq_true] at hbe
      exact ⟨e, he, hbe.1, Nat.eq_of_beq_eq_true hbe.2⟩
  have hbehind : ∀ (listed : Array Bool), Lst l.toArray 0 m listed → ∀ i ∈ Region.ready .any l.toArray listed, m < i → False := by
    intro listed hL i hr hgt
    obtain ⟨_, oi, hoi, hdeps⟩ := mem_ready.1 hr
    have his := (Array.getElem?_eq_some_iff.1 hoi).1
    have := hb2 i (List.mem_range.2 his)
    simp only [hoi, Bool.or_eq_true, decide_eq_true_eq, Bool.and_eq_true] at this
    rcases this with h | ⟨h, _⟩
    · omega
    · obtain ⟨e, he, hbe⟩ := Array.any_eq_true'.1 h
      simp only [Bool.and_eq_true, decide_eq_true_eq] at hbe
      have hlt := dk.back i oi hoi e he hbe.1
      have h1 := hdeps e he hbe.1
      have h2 := hL.high e.on (by omega) (by omega)
      rw [getD_tf (by rw [hL.size]; omega), h1] at h2
      cases h2
  -- at the m-th
  have hatm : ∀ (listed : Array Bool), Lst l.toArray 0 m listed → ∀ F a w, m ∈ Region.ready .any l.toArray listed → unl listed = F + 1 → Inv cx (stOf st cs1 (fun i => listed.getD (0 + i) false)) a w → wpOp P l.toArray (k.post P) m (wpAny P .any l.toArray (k.post P) F (listed.setIfInBounds m true)) a w := by
    intro listed hL F a w hr hF hi
    obtain ⟨_, oi, hoi, hdeps⟩ := mem_ready.1 hr
    have hall : ∀ d j, m - j = d → j < m → q ≤ j → listed.getD j false = true := by
      intro d
      induction d using Nat.strongRecOn with
      | _ d ihd =>
        intro j hd hj hj0
        have h1 := hb1 j (List.mem_range.2 hj)
        simp only [Bool.or_eq_true, decide_eq_true_eq] at h1
        have h1 := h1.resolve_left (by omega)
        obtain ⟨j', hj', hj2⟩ := List.any_eq_true.1 h1
        simp only [Bool.and_eq_true, decide_eq_true_eq] at hj2
        obtain ⟨oj, hoj, e, he, hbe, hon⟩ := Region.waitsFor_spec hj2.2
        have hle : j' ≤ m := by have := List.mem_range.1 hj'; omega
        by_cases hji : j' = m
        · subst hji
          rw [hoj] at hoi
          injection hoi with hoi
          subst hoi
          rw [← hon]; exact hdeps e he hbe
        · have := ihd (m - j') (by omega) j' rfl (by omega) (by omega)
          rw [← hon]; exact hL.closed j' oj hoj this e he hbe
    have hlm : listed.getD m false = false := by
      have := hL.high m (Nat.le_refl _) (by omega)
      rwa [getD_tf (by rw [hL.size]; omega)] at this
    have hms : m < listed.size := by rw [hL.size]; omega
    have hT : LstT l.toArray q m (listed.setIfInBounds m true) := by
      refine ⟨by simp [hL.size], fun j h1 h2 => ?_, fun j h1 h2 => ?_, fun j oj hj hl e he hbe => ?_⟩
      · by_cases e : m = j
        · subst e; simp [hms]
        · rw [getD_set_ne false e]; exact hall _ j rfl (by omega) h1
      · rw [getD_set_ne false (by omega)]
        have := hL.high j (by omega) h2
        rwa [getD_tf (by rw [hL.size]; omega)] at this
      · by_cases e1 : m = j
        · subst e1
          have : oj = oi := Option.some.inj (hj.symm.trans hoi)
          subst this
          exact getD_set_true (hdeps e he hbe)
        · rw [getD_set_ne false e1] at hl
          exact getD_set_true (hL.closed j oj hj hl e he hbe)
    let bs : List Bool := (List.range q).map fun i => listed.getD i false
    have hbs : ∀ j, j < m → listed.getD j false = bs.getD j true := fun j hj => by
      by_cases e : j < q
      · simp only [bs, List.getD_eq_getElem?_getD, List.getElem?_map, List.getElem?_range e, Option.map_some, Option.getD_some]
      · rw [hall _ j rfl hj (by omega), List.getD_eq_getElem?_getD, List.getElem?_eq_none (by simp [bs]; omega)]; rfl
    have hi1 : Inv cx (stOf st cs1 (fun i => bs.getD i true)) a w := by
      refine Sub.inv ⟨fun t s hs => ?_, fun t s hs => ?_⟩ hi
      · rw [stOf_look] at hs ⊢
        rw [← hs]
        congr 1
        refine lookC_other fun j c hj _ => ?_
        have hjl : j < m := by
          have := (List.getElem?_eq_some_iff.1 hj).1
          rw [hcl1] at this; simp at this; omega
        rw [Nat.zero_add]; exact hbs j hjl
      · rw [stOf_heap] at hs ⊢; exact hs
    unfold wpOp
    simp only [homs]
    rw [if_pos (by simp [Region.wanted, hgm])]
    refine .inl (Oper.wp_mono (fun a' w' hB' => ?_) (hA bs (by simp [bs]) a w hi1 _))
    have hun := unl_set hms hlm
    obtain ⟨f, hf⟩ : ∃ f, F = f + (l.toArray.size - (m + 1)) := by
      have := unl_ge (listed := listed.setIfInBounds m true) (n := l.toArray.size) (m := m) (by simp [hL.size]) (fun j hj hjl => by
        rcases Nat.lt_or_ge m j with g | g
        · rw [hT.high j g hj] at hjl; cases hjl
        · exact g)
      exact ⟨F - (l.toArray.size - (m + 1)), by omega⟩
    rw [hf]
    refine draw_seg3 (P := P) (Q := k.post P) (lo := 0) (hi := q) (m := m) dk rfl rfl hqm (by omega) (by simp; omega) (fun i hi => by
      simp only [List.length_take] at hi
      rw [List.getElem?_take_of_lt (by omega)]; simp) hlate has2 (fun a w hi => ?_) f _ hT (by omega) a' w' ?_
    · have := ht a w hi
      rwa [show l.length - (m + 1) = l.toArray.size - (m + 1) by simp] at this
    · refine Sub.inv ⟨fun t s hs => ?_, fun t s hs => ?_⟩ hB'
      · rw [stOf_look] at hs ⊢
        rw [← hs]
        congr 1
        refine lookC_other fun j c hj _ => ?_
        have hjl : j < q := by
          have := (List.getElem?_eq_some_iff.1 hj).1
          rw [hcl2] at this; simp at this; omega
        rw [Nat.zero_add, getD_set_ne false (by omega)]
        exact (hbs j (by omega)).symm
      · rw [stOf_heap] at hs ⊢; exact hs
  have := draw_seg2 (P := P) (Q := k.post P) (g := l.toArray.size - m) dk rfl (lo := 0) (hi := m) (Nat.zero_le _) (by omega) (by simp; omega) (fun i hi => by
      simp only [List.length_take] at hi
      rw [List.getElem?_take_of_lt (by omega)]; simp) has1
    (fun listed hL i hr hge F a w hF hne hi => by
      have him : i = m := by
        rcases Nat.lt_or_ge m i with h | h
        · exact absurd h (fun h => hbehind _ hL i hr h)
        · omega
      subst him
      exact hatm listed hL F a w hr hF hi)
    (fun a w hi => by
      rw [show l.toArray.size - m = l.toArray.size - (m + 1) + 1 by omega]
      have hLm : Lst l.toArray 0 m (mkL l.toArray.size m) := ⟨by simp [mkL], fun i h => by omega, fun i h1 h2 => by rw [mkL_getD true h2]; simp; omega, fun j oj hj hlj e he hbe => by
          have hjs := (Array.getElem?_eq_some_iff.1 hj).1
          have := dk.back j oj hj e he hbe
          rw [mkL_getD false hjs] at hlj
          rw [mkL_getD false (by omega)]
          simp at hlj ⊢; omega⟩
      refine ⟨fun hnil => ?_, fun i hr => ?_⟩
      · exfalso
        have hmem : m ∈ Region.ready .any l.toArray (mkL l.toArray.size m) := by
          refine mem_ready.2 ⟨by rw [mkL_getD true (by omega)]; simp, om, homs, fun e he hbe => ?_⟩
          have := dk.back m om homs e he hbe
          rw [mkL_getD false (by omega)]; simp; omega
        rw [hnil] at hmem; cases hmem
      · have him : i = m := by
          obtain ⟨hun, oi, hoi, _⟩ := mem_ready.1 hr
          have his := (Array.getElem?_eq_some_iff.1 hoi).1
          rw [mkL_getD true his] at hun
          simp at hun
          rcases Nat.lt_or_ge m i with h | h
          · exact absurd h (fun h => hbehind _ hLm i hr h)
          · omega
        subst him
        refine hatm _ hLm _ a w hr (by rw [unl_mkL]; omega) ?_
        refine Sub.inv ⟨fun t s hs => ?_, fun t s hs => ?_⟩ hi
        · rw [stOf_look] at hs ⊢
          rw [← hs]
          congr 1
          refine lookC_other fun j c hj _ => ?_
          have hjl : j < i := by
            have := (List.getElem?_eq_some_iff.1 hj).1
            rw [hcl1] at this; simp at this; omega
          rw [Nat.zero_add, mkL_getD false (by omega)]; simp [hjl]
        · rw [stOf_heap] at hs ⊢; exact hs)
    m _ hL hu a w.drew hst0
  rw [show m + (l.toArray.size - m) = l.toArray.size by omega] at this
  exact this
theorem late_bar {o : Oper} {st0 st1 st2 st3 : St} (h1 : ∀ a w, Inv cx st0 a w → Inv cx st1 a w) (ho : OS P cx o st1 st2) (h2 : Sub st2 st3) : ∀ a w, Inv cx st0 a w → ∀ Q, o.wp P a w (fun a' w' => Inv cx st3 a' w') Q :=
  fun a w hi Q => Oper.wp_mono (fun a' w' h => h2.inv h) (ho a w (h1 a w hi) Q)
end
end Go.Eng
