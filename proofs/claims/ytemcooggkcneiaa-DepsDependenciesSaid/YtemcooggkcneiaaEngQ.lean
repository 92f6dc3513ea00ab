import Derived.Test.YtemcooggkcneiaaEngP
namespace Go.Eng
set_option linter.unusedSimpArgs false
set_option linter.unusedVariables false
/-! ### a drawn region whose end is forced but for its first operation, a move that may come late -/
section
variable {P : Program} {cx : Cx} {st st' : St} {β : Loc} {a : Act} {w w' : World} {ops : Array Oper} {k : Kn} {c : Code}
theorem draw_seg2 (dk : DrawOk ops) {Q : Exit → Act → World → Prop} {lo hi g : Nat} (hgg : g = ops.size - hi) {l : List Oper} {cs : List (Nat × SV)} (hlo : lo ≤ hi) (hhi : hi ≤ ops.size) (hl : l.length = hi - lo) (hat : ∀ i, i < l.length → l[i]? = ops[lo + i]?)
    (has : AS P cx ops st l cs)
    (hbar : ∀ listed, Lst ops lo hi listed → ∀ i ∈ Region.ready .any ops listed, hi ≤ i → ∀ F a w, unl listed = F + 1 → unl listed ≠ ops.size - hi → Inv cx (stOf st cs (fun i => listed.getD (lo + i) false)) a w → wpOp P ops Q i (wpAny P .any ops Q F (listed.setIfInBounds i true)) a w)
    (hK : ∀ a w, Inv cx (stOf st cs (fun _ => true)) a w → wpAny P .any ops Q g (mkL ops.size hi) a w) :
    ∀ (f : Nat) (listed : Array Bool), Lst ops lo hi listed → unl listed = f + (ops.size - hi) → ∀ a w, Inv cx (stOf st cs (fun i => listed.getD (lo + i) false)) a w → wpAny P .any ops Q (f + g) listed a w := by
  obtain ⟨hcl, hga⟩ := has.at_
  have hidx : ∀ j c, cs[j]? = some c → ∃ oj, ops[lo + j]? = some oj ∧ oj.dst = some c.1 ∧ j < l.length := by
    intro j c hj
    have hjl : j < l.length := by rw [← hcl]; exact (List.getElem?_eq_some_iff.1 hj).1
    obtain ⟨d, s, h1, h2, _⟩ := hga j l[j] (List.getElem?_eq_getElem hjl)
    rw [hj] at h1
    injection h1 with h1
    subst h1
    exact ⟨l[j], by rw [← hat j hjl]; exact List.getElem?_eq_getElem hjl, h2, hjl⟩
  intro f
  induction f with
  | zero =>
    intro listed hL hu a w hi'
    have he := unl_zero hL rfl hhi (by omega)
    subst he
    rw [Nat.zero_add]
    refine hK a w ?_
    refine Sub.inv ⟨fun i s hs => ?_, fun i s hs => ?_⟩ hi'
    · rw [stOf_look] at hs ⊢
      rw [← hs]
      congr 1
      exact lookC_other fun j c hj _ => by
        obtain ⟨_, _, _, hjl⟩ := hidx j c hj
        rw [mkL_getD false (by omega)]; simp; omega
    · rw [stOf_heap] at hs ⊢; exact hs
  | succ f ih =>
    intro listed hL hu a w hi'
    rw [show f + 1 + g = (f + g) + 1 by omega]
    refine ⟨fun hnil => ?_, fun i hr => ?_⟩
    · -- some operation has not run: the first of these is ready
      exfalso
      have hex : ∃ i, i < ops.size ∧ listed.getD i false = false ∧ i < hi := by
        rcases Classical.em (∃ i, i < ops.size ∧ listed.getD i false = false ∧ i < hi) with h | h
        · exact h
        · exfalso
          have : listed = mkL ops.size hi := eq_mkL hL.size fun i his => by
            by_cases e : i < hi
            · simp only [e, decide_true]
              cases hl' : listed.getD i false with
              | true => rfl
              | false => exact absurd ⟨i, his, hl', e⟩ h
            · have hh := hL.high i (by omega) his
              rw [getD_tf (by rw [hL.size]; exact his)] at hh
              simp [e, hh]
          have hcount : ∀ n m : Nat, m ≤ n → unl (mkL n m) ≤ n - m := by
            intro n m hm
            unfold unl mkL
            rw [Array.toList_map, Array.toList_range, List.countP_map]
            have : ∀ n : Nat, (List.range n).countP ((fun b => !b) ∘ fun i => decide (i < m)) ≤ n - m := by
              intro n
              induction n with
              | zero => simp
              | succ n ih =>
                rw [List.range_succ, List.countP_append]
                simp only [List.countP_cons, List.countP_nil, Function.comp]
                by_cases e : n < m
                · simp [e]; omega
                · simp [e]; omega
            exact this n
          have := hcount ops.size hi hhi
          rw [‹listed = _›] at hu
          omega
      obtain ⟨n0, ⟨h1, h2, h3⟩, hmin⟩ := exists_least hex
      have : n0 ∈ Region.ready .any ops listed := by
        have hs : n0 < listed.size := by rw [hL.size]; exact h1
        refine mem_ready.2 ⟨by rw [getD_tf hs]; exact h2, ops[n0], Array.getElem?_eq_getElem h1, fun e he hb => ?_⟩
        have hlt := dk.back n0 _ (Array.getElem?_eq_getElem h1) e he hb
        cases hl' : listed.getD e.on false with
        | true => rfl
        | false =>
          have := hmin e.on ⟨by omega, hl', by omega⟩
          omega
      rw [hnil] at this
      cases this
    · rcases Nat.lt_or_ge i hi with hih | hih
      rotate_left
      · exact hbar listed hL i hr hih (f + g) a w (by omega) (by omega) hi'
      have hil : lo ≤ i := by
        rcases Nat.lt_or_ge i lo with h | h
        · have h1 := hL.low i h
          obtain ⟨hun, oi, hoi, _⟩ := mem_ready.1 hr
          have his : i < listed.size := by rw [hL.size]; exact (Array.getElem?_eq_some_iff.1 hoi).1
          rw [getD_tf his, h1] at hun; cases hun
        · exact h
      obtain ⟨hun, oi, hoi, hdeps⟩ := mem_ready.1 hr
      have his : i < listed.size := by rw [hL.size]; exact (Array.getElem?_eq_some_iff.1 hoi).1
      have hunf : listed.getD i false = false := by rw [← getD_tf his]; exact hun
      have hli : l[i - lo]? = some oi := by
        rw [hat (i - lo) (by omega), show lo + (i - lo) = i by omega]; exact hoi
      obtain ⟨d, s, hcs, hdst, hG⟩ := hga (i - lo) oi hli
      -- which others write a slot that this one touches
      have hwr : ∀ j c, cs[j]? = some c → j ≠ i - lo → (c.1 ∈ oi.looksAt ops ∨ c.1 = d) → (listed.getD (lo + j) false = true ↔ j < i - lo) := by
        intro j c hj hne hc
        obtain ⟨oj, hoj, hdj, hjl⟩ := hidx j c hj
        rcases Nat.lt_or_ge j (i - lo) with h | h
        · have hap : oj.apart ops oi = false := by
            cases hb : oj.apart ops oi with
            | false => rfl
            | true =>
              obtain ⟨h1, h2, h3⟩ := Oper.apart_spec hb
              rcases hc with hc | hc
              · exact absurd hc (h1 c.1 hdj)
              · exact absurd (by rw [hdst, hc]) (h2 c.1 hdj)
          obtain ⟨e, he, hb, hon⟩ := dk.order (lo + j) i oj oi (by omega) hoj hoi hap
          have := hdeps e he hb
          rw [hon] at this
          simp [this, h]
        · have hgt : i < lo + j := by omega
          have hap : oi.apart ops oj = false := by
            cases hb : oi.apart ops oj with
            | false => rfl
            | true =>
              obtain ⟨h1, h2, h3⟩ := Oper.apart_spec hb
              rcases hc with hc | hc
              · exact absurd hc (h3 c.1 hdj)
              · exact absurd (by rw [hdj, hc]) (h2 d hdst)
          obtain ⟨e, he, hb, hon⟩ := dk.order i (lo + j) oi oj hgt hoi hoj hap
          cases hlj : listed.getD (lo + j) false with
          | false => simp; omega
          | true =>
            have := hL.closed (lo + j) oj hoj hlj e he hb
            rw [hon, hunf] at this
            cases this
      have hagr : AgrG ops oi (stOf st (cs.take (i - lo)) (fun _ => true)) (stOf st cs (fun j => listed.getD (lo + j) false)) := by
        refine ⟨fun t ht => ?_, fun _ _ _ _ _ _ => by rw [stOf_heap, stOf_heap]⟩
        rw [stOf_look, stOf_look]
        congr 1
        refine lookC_take fun j c hj he => ?_
        by_cases hne : j = i - lo
        · subst hne
          rw [show lo + (i - lo) = i by omega, hunf]; simp
        · exact hwr j c hj hne (.inl (by rw [he]; exact ht))
      have hstep := hG _ hagr a w hi' (Q := Q)
      have hnext : ∀ a' w', Inv cx ((stOf st cs (fun j => listed.getD (lo + j) false)).put d s) a' w' → wpAny P .any ops Q (f + g) (listed.setIfInBounds i true) a' w' := by
        intro a' w' hi''
        refine ih _ (hL.set hr hih) (by have := unl_set his hunf; omega) a' w' ?_
        refine Sub.inv ⟨fun t s' hs => ?_, fun t s' hs => ?_⟩ hi''
        · simp only [St.put, lookS_cons]
          rw [stOf_look] at hs
          have hset : ∀ j, (listed.setIfInBounds i true).getD (lo + j) false = if j = i - lo then true else listed.getD (lo + j) false := by
            intro j
            by_cases hne : j = i - lo
            · subst hne
              rw [if_pos rfl, show lo + (i - lo) = i by omega]
              simp [his]
            · rw [if_neg hne, getD_set_ne false (by omega)]
          by_cases e : d = t
          · subst e
            rw [if_pos rfl]
            have := lookC_last (cs := cs) (L := fun j => (listed.setIfInBounds i true).getD (lo + j) false) (i := i - lo) (c := (d, s)) hcs (by simp only [hset]; simp) (fun j c' hj he hij => by
              simp only [hset]
              rw [if_neg (by omega)]
              have := hwr j c' hj (by omega) (.inr he)
              cases hlj : listed.getD (lo + j) false with
              | false => rfl
              | true => have := this.1 hlj; omega)
            rw [this] at hs
            exact hs
          · rw [if_neg e, stOf_look, ← hs]
            congr 1
            refine lookC_other fun j c hj he => ?_
            simp only [hset]
            rw [if_neg (by
              rintro rfl
              rw [hcs] at hj
              injection hj with hj
              subst hj
              exact e he)]
        · simp only [St.put, stOf_heap] at hs ⊢; exact hs
      unfold wpOp
      simp only [hoi]
      split
      · rename_i hw
        rw [if_pos hw] at hstep
        exact .inl (Oper.wp_mono hnext hstep)
      · rename_i hw
        rw [if_neg hw] at hstep
        exact hnext _ _ hstep


theorem os_pre {o : Oper} {st st1 st2 : St} (h : ∀ a w, Inv cx st a w → Inv cx st1 a w) (ho : OS P cx o st1 st2) : OS P cx o st st2 := fun a w hi Q => ho a w (h a w hi) Q
theorem op_nilCheck {dst : Option Tmp} {ty : TypeId} {pos : String} {aft : Array Edge} {gd : Option (Nat × Bool)} {nb : Nat} {s : SV} {x : Operand} (hx : Ev st x s) (hs : boxS nb s) : Adr P cx st ⟨dst, .nilCheck x, ty, pos, aft, gd⟩ s :=
  adr_still fun st' hag β a w hi => by
    have h1 := hi.ev (hag.ev (by simp [Op.operands]) hx)
    obtain ⟨b, o, _, h2⟩ := hs.at h1
    exact ⟨a.eval x, by simp [execOp, h2, ptrAt], h1⟩
theorem jg_bothL (c0 j : Nat) {s : SV} {A : Option Addr} {n cap nm sz : Nat} {l : List Oper} (hc : lookS st.slots c0 = some (.lnk s (.slice A n cap) (.own nm sz 0 n))) (hj : lookS st.slots j = some (.raw (.slice A n cap))) (hn0 : 0 < n)
    (h : ∀ b o, A = some ⟨b, o, none⟩ → JG P cx ops ⟨(j, .both (.own nm sz 0 n) (.slice A n cap)) :: st.slots, st.heap⟩ l k) : JG P cx ops st l k := fun a w hi => by
  obtain ⟨β, hb⟩ := hi
  obtain ⟨_, _, _, h2⟩ := hb.slots c0 _ hc
  have h3 := h2
  simp only [SV.holds, hdr] at h3
  cases hβ : β nm with
  | none => rw [hβ] at h3; obtain ⟨_, e⟩ := h3; omega
  | some bo =>
    obtain ⟨b, o⟩ := bo
    rw [hβ] at h3
    obtain ⟨A', cap', g1, g2, g3, g4⟩ := h3
    injection g1 with g1 _ _
    rcases g4 with ⟨g4, _⟩ | ⟨g4, _⟩
    · omega
    · refine h b (o + 0 * sz) (by rw [g1]; exact g4) a w ⟨β, hb.turnS (s' := .both (.own nm sz 0 n) (.slice A n cap)) hj fun v hv => ?_⟩
      have hv : v = .slice A n cap := hv
      subst hv
      exact ⟨h2, rfl⟩
theorem jg_pin (j : Nat) {n nm sz : Nat} {l : List Oper} (hj : lookS st.slots j = some (.own nm sz 0 n)) (hn0 : 0 < n)
    (h : ∀ b o cap, JG P cx ops ⟨(j, .both (.own nm sz 0 n) (.slice (some ⟨b, o, none⟩) n cap)) :: st.slots, st.heap⟩ l k) : JG P cx ops st l k := fun a w hi => by
  obtain ⟨β, hb⟩ := hi
  obtain ⟨v, _, h2⟩ := hb.slots j _ hj
  have h3 := h2
  simp only [SV.holds, hdr] at h3
  cases hβ : β nm with
  | none => rw [hβ] at h3; obtain ⟨_, e⟩ := h3; omega
  | some bo =>
    obtain ⟨b, o⟩ := bo
    rw [hβ] at h3
    obtain ⟨A', cap', g1, g2, g3, g4⟩ := h3
    rcases g4 with ⟨g4, _⟩ | ⟨g4, _⟩
    · omega
    · subst g4
      refine h b (o + 0 * sz) cap' a w ⟨β, ?_⟩
      have hj' : lookS st.slots j = some (.own nm sz 0 n) := hj
      refine ⟨hb.below, hb.old, hb.defers, hb.size, hb.own, hb.sep, hb.rows, fun q t hq => ?_⟩
      rw [lookS_cons] at hq
      split at hq
      · rename_i e; subst e; injection hq with hq; subst hq
        exact ⟨v, ‹_›, h2, g1⟩
      · exact hb.slots q t hq
def mkX (n m : Nat) : Array Bool := (Array.range n).map fun i => decide (i < m ∧ i ≠ 0)
theorem mkX_getD {n m i : Nat} (d : Bool) (h : i < n) : (mkX n m).getD i d = decide (i < m ∧ i ≠ 0) := by
  unfold mkX; simp [h]
theorem unl_mkL (n m : Nat) : unl (mkL n m) = n - m := by
  unfold unl mkL
  rw [Array.toList_map, Array.toList_range, List.countP_map]
  induction n with
  | zero => simp
  | succ n ih =>
    rw [List.range_succ, List.countP_append, ih]
    simp only [List.countP_cons, List.countP_nil, Function.comp]
    by_cases e : n < m
    · simp [e]; omega
    · simp [e]; omega
def lateB (ops : Array Oper) (m : Nat) : Bool :=
  (List.range m).all (fun i => Nat.beq i 0 || (List.range (m + 1)).any fun j => decide (i < j) && Region.waitsFor .any ops j i) &&
  (List.range ops.size).all fun i => decide (i ≤ m) || (match ops[i]? with | some oi => oi.after.any (fun e => Region.binds .any e && decide (m ≤ e.on)) | none => true)
theorem j_draw_late {id : Nat} {l : List Oper} {cs1 : List (Nat × SV)} {o0 om : Oper} {d : Nat} {S : SV} {stA stB stB' : St} (m : Nat) (hm : P.follows .mixedOrders = true) (hB : drawB l.toArray = true) (hbar : lateB l.toArray m = true) (hml : m < l.length)
    (h0 : l[0]? = some o0) (hg0 : o0.guard = none) (hd0 : o0.dst = some d) (hdn : Nat.blt d cx.n = true) (hom : l[m]? = some om) (hgm : om.guard = none) (hm0 : 0 < m)
    (hrd : Region.ready .any l.toArray (mkX l.toArray.size (m + 1)) = [0])
    (has1 : AS P cx l.toArray st (l.take m) cs1)
    (hsub : ∀ a w, Inv cx (stOf st cs1 (fun i => decide (i ≠ 0))) a w → Inv cx stA a w)
    (hA : OS P cx om stA stB) (hA0 : Adr P cx stB o0 S) (ht1 : JT P cx l (m + 1) (stB.put d S) k)
    (hA' : OS P cx om (stOf st cs1 (fun _ => true)) stB') (ht2 : JT P cx l (m + 1) stB' k) : J P cx st (.region id l.toArray true) k := by
  have dk := drawOk_of hB
  unfold lateB at hbar
  rw [Bool.and_eq_true, List.all_eq_true, List.all_eq_true] at hbar
  obtain ⟨hb1, hb2⟩ := hbar
  intro a w hi
  refine wp_region_any hm ?_
  obtain ⟨β, hb⟩ := hi
  have hi0 : Inv cx st a w.drew := ⟨β, hb.later (Below.drew' w)⟩
  have hst0 : Inv cx (stOf st cs1 (fun i => (Array.replicate l.toArray.size false).getD (0 + i) false)) a w.drew := by
    refine Sub.inv ⟨fun i s hs => ?_, fun i s hs => ?_⟩ hi0
    · rw [stOf_look, lookC_none (fun j c _ _ => getD_replicate_false _ _)] at hs; simpa using hs
    · rw [stOf_heap] at hs; exact hs
  have hL : Lst l.toArray 0 m (Array.replicate l.toArray.size false) :=
    ⟨by simp, fun i h => by omega, fun i h1 h2 => by simp only [List.size_toArray] at h2; simp [h2], fun j oj hj hl => by rw [getD_replicate_false] at hl; cases hl⟩
  have hu : unl (Array.replicate l.toArray.size false) = m + (l.toArray.size - m) := by rw [unl_rep]; simp; omega
  have homs : l.toArray[m]? = some om := by simpa using hom
  have h0s : l.toArray[0]? = some o0 := by simpa using h0
  have hls : l.toArray.size = l.length := by simp
  have hbehind : ∀ (listed : Array Bool), Lst l.toArray 0 m listed → ∀ i ∈ Region.ready .any l.toArray listed, m < i → False := by
    intro listed hL i hr hgt
    obtain ⟨_, oi, hoi, hdeps⟩ := mem_ready.1 hr
    have his := (Array.getElem?_eq_some_iff.1 hoi).1
    have := hb2 i (List.mem_range.2 his)
    simp only [hoi, Bool.or_eq_true, decide_eq_true_eq] at this
    rcases this with h | h
    · omega
    · obtain ⟨e, he, hbe⟩ := Array.any_eq_true'.1 h
      simp only [Bool.and_eq_true, decide_eq_true_eq] at hbe
      have hlt := dk.back i oi hoi e he hbe.1
      have h1 := hdeps e he hbe.1
      have h2 := hL.high e.on (by omega) (by omega)
      rw [getD_tf (by rw [hL.size]; omega), h1] at h2
      cases h2
  have hmid : ∀ a w, Inv cx (stOf st cs1 (fun _ => true)) a w → wpAny P .any l.toArray (k.post P) (l.toArray.size - m) (mkL l.toArray.size m) a w := by
    intro a w hi
    rw [show l.toArray.size - m = l.length - (m + 1) + 1 by omega]
    have hone : ∀ i ∈ Region.ready .any l.toArray (mkL l.toArray.size m), i = m := by
      intro i hr
      obtain ⟨hun, oi, hoi, _⟩ := mem_ready.1 hr
      have his := (Array.getElem?_eq_some_iff.1 hoi).1
      rw [mkL_getD true his] at hun
      simp at hun
      rcases Nat.lt_or_ge m i with h | h
      · exact absurd h (fun h => hbehind _ ⟨by simp [mkL], fun i h => by omega, fun i h1 h2 => by rw [mkL_getD true h2]; simp; omega, fun j oj hj hlj e he hbe => by
          have hjs := (Array.getElem?_eq_some_iff.1 hj).1
          have := dk.back j oj hj e he hbe
          rw [mkL_getD false hjs] at hlj
          rw [mkL_getD false (by omega)]
          simp at hlj ⊢; omega⟩ i hr h)
      · omega
    refine ⟨fun hnil => ?_, fun i hr => ?_⟩
    · exfalso
      have hmem : m ∈ Region.ready .any l.toArray (mkL l.toArray.size m) := by
        refine mem_ready.2 ⟨by rw [mkL_getD true (by omega)]; simp, om, homs, fun e he hbe => ?_⟩
        have := dk.back m om homs e he hbe
        rw [mkL_getD false (by omega)]; simp; omega
      rw [hnil] at hmem; cases hmem
    · obtain rfl := hone i hr
      have hset : (mkL l.toArray.size i).setIfInBounds i true = mkL l.toArray.size (i + 1) := by
        refine eq_mkL (by simp [mkL]) fun q hq => ?_
        by_cases e : i = q
        · subst e; simp [mkL, hml]
        · rw [getD_set_ne false e, mkL_getD false hq]; simp; omega
      rw [hset]
      unfold wpOp
      simp only [homs]
      rw [if_pos (by simp [Region.wanted, hgm])]
      exact .inl (Oper.wp_mono (fun a' w' h' => ht2 a' w' h') (hA' a w hi _))
  have := draw_seg2 (P := P) (Q := k.post P) (g := l.toArray.size - m) dk rfl (lo := 0) (hi := m) (Nat.zero_le _) (by omega) (by simp; omega) (fun i hi => by
      simp only [List.length_take] at hi
      rw [List.getElem?_take_of_lt (by omega)]; simp) has1
    (fun listed hL i hr hge F a w hF hne hi => by
      have him : i = m := by
        rcases Nat.lt_or_ge m i with h | h
        · exact absurd h (fun h => hbehind _ hL i hr h)
        · omega
      subst him
      obtain ⟨_, oi, hoi, hdeps⟩ := mem_ready.1 hr
      have hall : ∀ d j, i - j = d → j < i → j ≠ 0 → listed.getD j false = true := by
        intro d
        induction d using Nat.strongRecOn with
        | _ d ihd =>
          intro j hd hj hj0
          have h1 := hb1 j (List.mem_range.2 hj)
          rw [Bool.or_eq_true] at h1
          have h1 := h1.resolve_left (fun h => hj0 (Nat.eq_of_beq_eq_true h))
          obtain ⟨j', hj', hj2⟩ := List.any_eq_true.1 h1
          simp only [Bool.and_eq_true, decide_eq_true_eq] at hj2
          obtain ⟨oj, hoj, e, he, hbe, hon⟩ := Region.waitsFor_spec hj2.2
          have hle : j' ≤ i := by have := List.mem_range.1 hj'; omega
          by_cases hji : j' = i
          · subst hji
            rw [hoj] at hoi
            injection hoi with hoi
            subst hoi
            rw [← hon]; exact hdeps e he hbe
          · have := ihd (i - j') (by omega) j' rfl (by omega) (by omega)
            rw [← hon]; exact hL.closed j' oj hoj this e he hbe
      have hz : listed.getD 0 false = false := by
        cases hz : listed.getD 0 false with
        | false => rfl
        | true =>
          exfalso
          have he : listed = mkL l.toArray.size i := eq_mkL hL.size fun j hj => by
            by_cases e : j < i
            · by_cases e0 : j = 0
              · subst e0; rw [hz]; simp [e]
              · rw [hall (i - j) j rfl e e0]; simp [e]
            · have hh := hL.high j (by omega) hj
              rw [getD_tf (by rw [hL.size]; exact hj)] at hh
              rw [hh]; simp [e]
          apply hne
          rw [he]
          exact unl_mkL _ _
      have hX : ∀ q, q < l.toArray.size → listed.getD q false = decide (q < i ∧ q ≠ 0) := fun q hq => by
        by_cases e : q < i
        · by_cases e0 : q = 0
          · subst e0; rw [hz]; simp
          · rw [hall (i - q) q rfl e e0]; simp [e, e0]
        · have hh := hL.high q (by omega) hq
          rw [getD_tf (by rw [hL.size]; exact hq)] at hh
          rw [hh]; simp [e]
      have hsetX : listed.setIfInBounds i true = mkX l.toArray.size (i + 1) := by
        refine Array.ext (by simp [mkX, hL.size]) fun q h1 h2 => ?_
        have hq : q < l.toArray.size := by simpa [mkX] using h2
        have e1 : (mkX l.toArray.size (i + 1))[q] = decide (q < i + 1 ∧ q ≠ 0) := by simp [mkX]
        rw [e1]
        by_cases e : i = q
        · subst e; simp; omega
        · have := hX q hq
          have hqs : q < listed.size := by rw [hL.size]; exact hq
          rw [Array.getElem_setIfInBounds_ne (h := e)]
          · rw [Array.getD_eq_getD_getElem?, Array.getElem?_eq_getElem hqs, Option.getD_some] at this
            rw [this]
            simp only [decide_eq_decide]
            omega
          · exact hqs
      have hiA : Inv cx stA a w := hsub a w (by
        obtain ⟨hcl, _⟩ := has1.at_
        refine Sub.inv ⟨fun t s hs => ?_, fun t s hs => ?_⟩ hi
        · rw [stOf_look] at hs ⊢
          rw [← hs]
          congr 1
          refine lookC_other fun j c hj _ => ?_
          have hjl : j < i := by
            have := (List.getElem?_eq_some_iff.1 hj).1
            rw [hcl] at this; simp at this; omega
          rw [Nat.zero_add, hX j (by omega)]
          simp [hjl]
        · rw [stOf_heap] at hs ⊢; exact hs)
      rw [hsetX]
      unfold wpOp
      simp only [homs]
      rw [if_pos (by simp [Region.wanted, hgm])]
      refine .inl (Oper.wp_mono (fun a' w' hB' => ?_) (hA a w hiA _))
      have hF2 : F = l.length - (i + 1) + 1 := by
        have : unl listed = l.toArray.size - i + 1 := by
          have h1 := unl_set (listed := listed) (i := 0) (by rw [hL.size]; omega) hz
          have he : listed.setIfInBounds 0 true = mkL l.toArray.size i := eq_mkL (by simp [hL.size]) fun q hq => by
            by_cases e : 0 = q
            · subst e; simp [hL.size]; omega
            · rw [getD_set_ne false e, hX q hq]; simp; omega
          rw [he, unl_mkL] at h1
          omega
        omega
      rw [hF2]
      refine ⟨fun hnil => (by rw [hrd] at hnil; cases hnil), fun q hq => ?_⟩
      rw [hrd] at hq
      obtain rfl : q = 0 := by simpa using hq
      have hset : (mkX l.toArray.size (i + 1)).setIfInBounds 0 true = mkL l.toArray.size (i + 1) := by
        refine eq_mkL (by simp [mkX]) fun q hq => ?_
        by_cases e : 0 = q
        · subst e; simp [mkX]; omega
        · rw [getD_set_ne false e, mkX_getD false hq]; simp; omega
      rw [hset]
      unfold wpOp
      simp only [h0s]
      rw [if_pos (by simp [Region.wanted, hg0])]
      exact .inl (Oper.wp_mono (fun a'' w'' h'' => ht1 a'' w'' h'') (hA0 stB (.refl o0 stB) d hd0 (by simpa using hdn) a' w' hB' _)))
    hmid m _ hL hu a w.drew hst0
  rw [show m + (l.toArray.size - m) = l.toArray.size by omega] at this
  exact this
end
end Go.Eng
