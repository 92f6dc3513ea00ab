import Derived.Test.YthfhekohlmboiaaEng5
namespace Go.Eng

/-! ### a region that draws its order: operations that add a slot each, in whatever order; one operation in the middle may turn the state, where all that stands ahead of it goes ahead of it and all behind it waits for it -/
section
variable {P : Program} {cx : Cx} {st st' : St} {β : Loc} {a : Act} {w w' : World} {ops : Array Oper} {o : Oper} {k : Kn}

structure AgrG (ops : Array Oper) (o : Oper) (st st' : St) : Prop where
  at_ : ∀ t ∈ o.looksAt ops, lookS st'.slots t = lookS st.slots t
  heap : ∀ x ∈ o.op.operands, ∀ s nm, evS st x = some s → s.free nm = false → lookH st'.heap nm = lookH st.heap nm

theorem AgrG.agr (h : AgrG ops o st st') : Agr o st st' := ⟨fun x hx => by
  cases x with
  | tmp t => exact h.at_ t (List.mem_append_left _ (List.mem_filterMap.2 ⟨.tmp t, by simpa using hx, rfl⟩))
  | _ => rfl, h.heap⟩

/-- one step of an operation under its guard -/
def GA (P : Program) (cx : Cx) (ops : Array Oper) (st : St) (o : Oper) (d : Nat) (s : SV) : Prop :=
  ∀ st', AgrG ops o st st' → ∀ a w, Inv cx st' a w → ∀ Q, if Region.wanted o (yielded ops a.tmps) then o.wp P a w (fun a' w' => Inv cx (st'.put d s) a' w') Q else Inv cx (st'.put d s) (a.put o.dst undef) w

theorem ga_adr {d : Nat} {s : SV} (hg : o.guard = none) (hd : o.dst = some d) (hdn : Nat.blt d cx.n = true) (h : Adr P cx st o s) : GA P cx ops st o d s := by
  intro st' hag a w hi Q
  rw [if_pos (by simp [Region.wanted, hg])]
  exact h st' hag.agr d hd (by simpa using hdn) a w hi Q

theorem ga_gd {d : Nat} {s : SV} (j : Nat) (want c : Bool) (g : Nat) (hg : o.guard = some (j, want)) (hj : (ops[j]?).bind (·.dst) = some g) (hc : lookS st.slots g = some (.raw (.bool c)))
    (hd : o.dst = some d) (hdn : Nat.blt d cx.n = true) (h : (c == want) = true → Adr P cx st o s) : GA P cx ops st o d (.gd (c == want) s) := by
  intro st' hag a w hi Q
  have hdn' : d < cx.n := by simpa using hdn
  obtain ⟨β, hb⟩ := hi
  have hlk : lookS st'.slots g = lookS st.slots g := hag.at_ g (by simp [Oper.looksAt, hg, hj])
  obtain ⟨v, h1, h2⟩ := hb.slots g _ (hlk.trans hc)
  have h2 : v = .bool c := h2
  subst h2
  have hw : Region.wanted o (yielded ops a.tmps) = (c == want) := by
    have : yielded ops a.tmps j = some c := by simp only [yielded, hj, Option.bind_some, h1]
    simp only [Region.wanted, hg, this]
    cases c <;> cases want <;> rfl
  cases hcw : (c == want) with
  | true =>
    rw [hw, hcw, if_pos rfl]
    refine Oper.wp_mono (fun a' w' hi' => ?_) (h hcw st' hag.agr d hd hdn' a w ⟨β, hb⟩ Q)
    obtain ⟨β', hb'⟩ := hi'
    obtain ⟨u, h3, h4⟩ := hb'.slots d s (by simp [St.put, lookS_cons])
    refine ⟨β', hb'.below, hb'.old, hb'.defers, hb'.size, hb'.own, hb'.sep, hb'.rows, fun i s' hs' => ?_⟩
    simp only [St.put, lookS_cons] at hs'
    split at hs'
    · rename_i e; subst e; injection hs' with hs'; subst hs'
      exact ⟨u, h3, fun _ => h4, fun h => by cases h⟩
    · rename_i e
      exact hb'.slots i s' (by simp [St.put, lookS_cons, e, hs'])
  | false =>
    rw [hw, hcw, if_neg (by simp), hd]
    exact ⟨β, hb.put hdn' ⟨(fun h => by cases h), fun _ => rfl⟩⟩

theorem ga_gd2 {d : Nat} {s : SV} (j : Nat) (want c c0 : Bool) (g : Nat) (hg : o.guard = some (j, want)) (hj : (ops[j]?).bind (·.dst) = some g) (hc : lookS st.slots g = some (.gd c0 (.raw (.bool c))))
    (hd : o.dst = some d) (hdn : Nat.blt d cx.n = true) (h : (c0 && (c == want)) = true → Adr P cx st o s) : GA P cx ops st o d (.gd (c0 && (c == want)) s) := by
  intro st' hag a w hi Q
  have hdn' : d < cx.n := by simpa using hdn
  obtain ⟨β, hb⟩ := hi
  have hlk : lookS st'.slots g = lookS st.slots g := hag.at_ g (by simp [Oper.looksAt, hg, hj])
  obtain ⟨v, h1, h2, h2'⟩ := hb.slots g _ (hlk.trans hc)
  have hw : Region.wanted o (yielded ops a.tmps) = (c0 && (c == want)) := by
    cases c0 with
    | true =>
      have h2 : v = .bool c := h2 rfl
      subst h2
      have : yielded ops a.tmps j = some c := by simp only [yielded, hj, Option.bind_some, h1]
      simp only [Region.wanted, hg, this]
      cases c <;> cases want <;> rfl
    | false =>
      have h2 : v = undef := h2' rfl
      subst h2
      have : yielded ops a.tmps j = none := by simp only [yielded, hj, Option.bind_some, h1, undef]
      simp only [Region.wanted, hg, this]
      rfl
  cases hcw : (c0 && (c == want)) with
  | true =>
    rw [hw, hcw, if_pos rfl]
    refine Oper.wp_mono (fun a' w' hi' => ?_) (h hcw st' hag.agr d hd hdn' a w ⟨β, hb⟩ Q)
    obtain ⟨β', hb'⟩ := hi'
    obtain ⟨u, h3, h4⟩ := hb'.slots d s (by simp [St.put, lookS_cons])
    refine ⟨β', hb'.below, hb'.old, hb'.defers, hb'.size, hb'.own, hb'.sep, hb'.rows, fun i s' hs' => ?_⟩
    simp only [St.put, lookS_cons] at hs'
    split at hs'
    · rename_i e; subst e; injection hs' with hs'; subst hs'
      exact ⟨u, h3, fun _ => h4, fun h => by cases h⟩
    · rename_i e
      exact hb'.slots i s' (by simp [St.put, lookS_cons, e, hs'])
  | false =>
    rw [hw, hcw, if_neg (by simp), hd]
    exact ⟨β, hb.put hdn' ⟨(fun h => by cases h), fun _ => rfl⟩⟩

/-- the state once those of the operations have run that L names -/
def stOf (st : St) : List (Nat × SV) → (Nat → Bool) → St
  | [], _ => st
  | c :: r, L => stOf (bif L 0 then st.put c.1 c.2 else st) r (fun i => L (i + 1))
def lookC : List (Nat × SV) → (Nat → Bool) → Nat → Option SV
  | [], _, _ => none
  | c :: r, L, t => match lookC r (fun i => L (i + 1)) t with
    | some s => some s
    | none => bif L 0 then (if c.1 = t then some c.2 else none) else none

theorem stOf_look : ∀ (cs : List (Nat × SV)) (st : St) (L : Nat → Bool) (t : Nat), lookS (stOf st cs L).slots t = (lookC cs L t).or (lookS st.slots t)
  | [], st, L, t => by simp [stOf, lookC]
  | c :: r, st, L, t => by
    rw [stOf, stOf_look r]
    simp only [lookC]
    cases h : lookC r (fun i => L (i + 1)) t with
    | some s => simp
    | none =>
      cases hL : L 0 with
      | false => simp
      | true =>
        simp only [cond_true, St.put, lookS_cons]
        split <;> simp
theorem stOf_heap : ∀ (cs : List (Nat × SV)) (st : St) (L : Nat → Bool), (stOf st cs L).heap = st.heap
  | [], _, _ => rfl
  | c :: r, st, L => by
    rw [stOf, stOf_heap r]
    cases L 0 <;> rfl

theorem lookC_none : ∀ {cs : List (Nat × SV)} {L : Nat → Bool} {t : Nat}, (∀ j c, cs[j]? = some c → c.1 = t → L j = false) → lookC cs L t = none
  | [], _, _, _ => rfl
  | c :: r, L, t, h => by
    simp only [lookC, lookC_none (cs := r) (L := fun i => L (i + 1)) (t := t) (fun j c hj he => h (j + 1) c (by simpa using hj) he)]
    cases hL : L 0 with
    | false => rfl
    | true =>
      have : ¬ c.1 = t := fun e => by rw [h 0 c rfl e] at hL; cases hL
      simp [this]

theorem lookC_take : ∀ {cs : List (Nat × SV)} {L : Nat → Bool} {t i : Nat}, (∀ j c, cs[j]? = some c → c.1 = t → (L j = true ↔ j < i)) → lookC cs L t = lookC (cs.take i) (fun _ => true) t
  | [], _, _, _, _ => by simp [lookC]
  | c :: r, L, t, 0, h => by
    have hn : lookC (c :: r) L t = none := lookC_none fun j c' hj he => by
      have := h j c' hj he
      cases hL : L j with
      | false => rfl
      | true => have := this.1 hL; omega
    rw [hn]; rfl
  | c :: r, L, t, i + 1, h => by
    simp only [List.take_succ_cons, lookC, lookC_take (cs := r) (L := fun i => L (i + 1)) (t := t) (i := i) (fun j c hj he => by have := h (j + 1) c (by simpa using hj) he; rw [this]; omega)]
    cases h' : lookC (r.take i) (fun _ => true) t with
    | some s => rfl
    | none =>
      by_cases e : c.1 = t
      · have := h 0 c rfl e
        rw [this.2 (by omega)]
      · simp [e]

theorem lookC_last : ∀ {cs : List (Nat × SV)} {L : Nat → Bool} {i : Nat} {c : Nat × SV}, cs[i]? = some c → L i = true → (∀ j c', cs[j]? = some c' → c'.1 = c.1 → i < j → L j = false) → lookC cs L c.1 = some c.2
  | [], _, _, _, h, _, _ => by simp at h
  | c0 :: r, L, 0, c, h, hL, hl => by
    simp at h; subst h
    simp only [lookC, lookC_none (cs := r) (L := fun i => L (i + 1)) (t := c0.1) (fun j c' hj he => hl (j + 1) c' (by simpa using hj) he (by omega)), hL]
    simp
  | c0 :: r, L, i + 1, c, h, hL, hl => by
    simp only [lookC, lookC_last (cs := r) (L := fun i => L (i + 1)) (i := i) (c := c) (by simpa using h) hL (fun j c' hj he hij => hl (j + 1) c' (by simpa using hj) he (by omega))]

theorem lookC_other : ∀ {cs : List (Nat × SV)} {L L' : Nat → Bool} {t : Nat}, (∀ j c, cs[j]? = some c → c.1 = t → L j = L' j) → lookC cs L t = lookC cs L' t
  | [], _, _, _, _ => rfl
  | c :: r, L, L', t, h => by
    simp only [lookC, lookC_other (cs := r) (L := fun i => L (i + 1)) (L' := fun i => L' (i + 1)) (t := t) (fun j c hj he => h (j + 1) c (by simpa using hj) he)]
    by_cases e : c.1 = t
    · rw [h 0 c rfl e]
    · simp [e]

/-- the text's own order: each operation from where the last one led -/
inductive AS (P : Program) (cx : Cx) (ops : Array Oper) : St → List Oper → List (Nat × SV) → Prop
  | nil {st : St} : AS P cx ops st [] []
  | cons {st : St} {o : Oper} {l : List Oper} {cs : List (Nat × SV)} (d : Nat) (s : SV) (hd : o.dst = some d) (h : GA P cx ops st o d s) (hr : AS P cx ops (st.put d s) l cs) : AS P cx ops st (o :: l) ((d, s) :: cs)

theorem AS.at_ : ∀ {st : St} {l : List Oper} {cs : List (Nat × SV)}, AS P cx ops st l cs → cs.length = l.length ∧ ∀ i o, l[i]? = some o → ∃ d s, cs[i]? = some (d, s) ∧ o.dst = some d ∧ GA P cx ops (stOf st (cs.take i) (fun _ => true)) o d s
  | _, _, _, .nil => ⟨rfl, fun i o h => by simp at h⟩
  | _, _, _, .cons d s hd h hr => ⟨by simp [hr.at_.1], fun i o' hi => by
      cases i with
      | zero => simp at hi; subst hi; exact ⟨d, s, rfl, hd, h⟩
      | succ i =>
        obtain ⟨d', s', h1, h2, h3⟩ := hr.at_.2 i o' (by simpa using hi)
        exact ⟨d', s', by simpa using h1, h2, by simpa [stOf] using h3⟩⟩

/-- the checks, by the kernel: two operations that touch one slot are ordered by an edge; edges lead back -/
def drawB (ops : Array Oper) : Bool :=
  (List.range ops.size).all fun j => (match ops[j]? with | some oj => oj.after.all (fun e => !Region.binds .any e || decide (e.on < j)) | none => true) &&
    (List.range j).all fun i => (match ops[i]?, ops[j]? with | some oi, some oj => oi.apart ops oj | _, _ => true) || Region.waitsFor .any ops j i
/-- all ahead of m go ahead of it, all behind it wait for it -/
def barB (ops : Array Oper) (m : Nat) : Bool :=
  (List.range m).all (fun i => (List.range (m + 1)).any fun j => decide (i < j) && Region.waitsFor .any ops j i) &&
  (List.range ops.size).all fun i => decide (i ≤ m) || (match ops[i]? with | some oi => oi.after.any (fun e => Region.binds .any e && decide (m ≤ e.on)) | none => true)

structure DrawOk (ops : Array Oper) : Prop where
  back : ∀ j oj, ops[j]? = some oj → ∀ e ∈ oj.after, Region.binds .any e = true → e.on < j
  order : ∀ i j oi oj, i < j → ops[i]? = some oi → ops[j]? = some oj → oi.apart ops oj = false → ∃ e ∈ oj.after, Region.binds .any e = true ∧ e.on = i

theorem drawOk_of (h : drawB ops = true) : DrawOk ops := by
  unfold drawB at h
  rw [List.all_eq_true] at h
  refine ⟨fun j oj hj e he hb => ?_, fun i j oi oj hij hi hj hap => ?_⟩
  · have hjs : j < ops.size := (Array.getElem?_eq_some_iff.1 hj).1
    have := h j (List.mem_range.2 hjs)
    simp only [hj, Bool.and_eq_true] at this
    have := Array.all_eq_true'.1 this.1 e he
    simpa [hb] using this
  · have hjs : j < ops.size := (Array.getElem?_eq_some_iff.1 hj).1
    have := h j (List.mem_range.2 hjs)
    simp only [Bool.and_eq_true] at this
    have := List.all_eq_true.1 this.2 i (List.mem_range.2 hij)
    simp only [hi, hj, hap, Bool.false_or] at this
    obtain ⟨oj', hj', e, he, hb, hon⟩ := Region.waitsFor_spec this
    rw [hj] at hj'
    injection hj' with hj'
    subst hj'
    exact ⟨e, he, hb, hon⟩

/-- which operations have run -/
structure Lst (ops : Array Oper) (lo hi : Nat) (listed : Array Bool) : Prop where
  size : listed.size = ops.size
  low : ∀ i, i < lo → listed.getD i false = true
  high : ∀ i, hi ≤ i → i < ops.size → listed.getD i true = false
  closed : ∀ j oj, ops[j]? = some oj → listed.getD j false = true → ∀ e ∈ oj.after, Region.binds .any e = true → listed.getD e.on false = true

theorem getD_tf {listed : Array Bool} {i : Nat} (h : i < listed.size) : listed.getD i true = listed.getD i false := by simp [h]

def mkL (n m : Nat) : Array Bool := (Array.range n).map fun i => decide (i < m)
theorem mkL_getD {n m i : Nat} (d : Bool) (h : i < n) : (mkL n m).getD i d = decide (i < m) := by
  simp [mkL, h]

theorem eq_mkL {listed : Array Bool} {n m : Nat} (hs : listed.size = n) (h : ∀ i, i < n → listed.getD i false = decide (i < m)) : listed = mkL n m := by
  apply Array.ext
  · simp [mkL, hs]
  · intro i h1 h2
    have := h i (by omega)
    simp only [Array.getD_eq_getD_getElem?, Array.getElem?_eq_getElem h1, Option.getD_some] at this
    simp [mkL, this]

def unl (listed : Array Bool) : Nat := listed.toList.countP (fun b => !b)

theorem countP_set_true : ∀ (l : List Bool) (i : Nat), l[i]? = some false → (l.set i true).countP (fun b => !b) + 1 = l.countP (fun b => !b)
  | [], i, h => by simp at h
  | b :: r, 0, h => by simp at h; subst h; simp
  | b :: r, i + 1, h => by
    have := countP_set_true r i (by simpa using h)
    simp only [List.set_cons_succ, List.countP_cons]
    omega
theorem unl_set {listed : Array Bool} {i : Nat} (hi : i < listed.size) (h : listed.getD i false = false) : unl (listed.setIfInBounds i true) + 1 = unl listed := by
  unfold unl
  rw [Array.toList_setIfInBounds]
  refine countP_set_true _ _ ?_
  have : listed[i]? = some false := by simpa [hi] using h
  simpa using this
theorem unl_rep (n : Nat) : unl (Array.replicate n false) = n := by simp [unl, List.countP_replicate]

theorem Lst.set {lo hi i : Nat} {listed : Array Bool} (h : Lst ops lo hi listed) (hr : i ∈ Region.ready .any ops listed) (hhi : i < hi) : Lst ops lo hi (listed.setIfInBounds i true) := by
  obtain ⟨hun, oi, hoi, hall⟩ := mem_ready.1 hr
  refine ⟨by simp [h.size], fun j hj => getD_set_true (h.low j hj), fun t ht hts => by rw [getD_set_ne true (by omega)]; exact h.high t ht hts, fun j oj hj hl e he hb => ?_⟩
  by_cases hij : i = j
  · subst hij
    have : oj = oi := Option.some.inj (hj.symm.trans hoi)
    subst this
    exact getD_set_true (hall e he hb)
  · rw [getD_set_ne false hij] at hl
    exact getD_set_true (h.closed j oj hj hl e he hb)

theorem unl_zero {listed : Array Bool} {n lo hi : Nat} (h : Lst ops lo hi listed) (hn : n = ops.size) (hhi : hi ≤ n) (hz : unl listed = n - hi) : listed = mkL n hi := by
  subst hn
  refine eq_mkL h.size fun i hi' => ?_
  by_cases e : i < hi
  · simp only [e, decide_true]
    cases hl : listed.getD i false with
    | true => rfl
    | false =>
      exfalso
      -- the unlisted ones: those from hi on, and i
      have hc : ∀ (l : List Bool) (m : Nat), (∀ j, m ≤ j → j < l.length → l[j]? = some false) → l.length - m ≤ l.countP (fun b => !b) := by
        intro l
        induction l with
        | nil => intro m _; simp
        | cons b r ih =>
          intro m hm
          cases m with
          | zero =>
            have h0 := hm 0 (Nat.le_refl _) (by simp)
            simp at h0; subst h0
            have := ih 0 (fun j _ hj => by have := hm (j + 1) (by omega) (by simpa using hj); simpa using this)
            simp at this ⊢; omega
          | succ m =>
            have := ih m (fun j hj hj2 => by have := hm (j + 1) (by omega) (by simpa using hj2); simpa using this)
            simp only [List.length_cons, List.countP_cons]
            split <;> omega
      have h1 := unl_set (by rw [h.size]; exact hi') hl
      have h2 := hc (listed.setIfInBounds i true).toList hi (fun j hj hj2 => by
        have hjs : j < ops.size := by simpa [h.size] using hj2
        have h3 := h.high j hj hjs
        have hne : i ≠ j := by omega
        have h4 : j < listed.size := by rw [h.size]; exact hjs
        have h5 : listed[j]? = some false := by simpa [h4] using h3
        rw [Array.getElem?_toList, Array.getElem?_setIfInBounds_ne hne]; exact h5)
      simp only [unl] at h1 hz
      simp only [Array.length_toList, Array.size_setIfInBounds, h.size] at h2
      omega
  · have hh := h.high i (by omega) hi'
    rw [getD_tf (by rw [h.size]; exact hi')] at hh
    simp [e, hh]

/-- a stretch of operations that add, in whatever order -/
theorem draw_seg (dk : DrawOk ops) {Q : Exit → Act → World → Prop} {lo hi g : Nat} {l : List Oper} {cs : List (Nat × SV)} (hlo : lo ≤ hi) (hhi : hi ≤ ops.size) (hl : l.length = hi - lo) (hat : ∀ i, i < l.length → l[i]? = ops[lo + i]?)
    (has : AS P cx ops st l cs)
    (hbar : ∀ listed, Lst ops lo hi listed → ∀ i ∈ Region.ready .any ops listed, hi ≤ i → unl listed = ops.size - hi)
    (hK : ∀ a w, Inv cx (stOf st cs (fun _ => true)) a w → wpAny P .any ops Q g (mkL ops.size hi) a w) :
    ∀ (f : Nat) (listed : Array Bool), Lst ops lo hi listed → unl listed = f + (ops.size - hi) → ∀ a w, Inv cx (stOf st cs (fun i => listed.getD (lo + i) false)) a w → wpAny P .any ops Q (f + g) listed a w := by
  obtain ⟨hcl, hga⟩ := has.at_
  have hidx : ∀ j c, cs[j]? = some c → ∃ oj, ops[lo + j]? = some oj ∧ oj.dst = some c.1 ∧ j < l.length := by
    intro j c hj
    have hjl : j < l.length := by rw [← hcl]; exact (List.getElem?_eq_some_iff.1 hj).1
    obtain ⟨d, s, h1, h2, _⟩ := hga j l[j] (List.getElem?_eq_getElem hjl)
    rw [hj] at h1
    injection h1 with h1
    subst h1
    exact ⟨l[j], by rw [← hat j hjl]; exact List.getElem?_eq_getElem hjl, h2, hjl⟩
  intro f
  induction f with
  | zero =>
    intro listed hL hu a w hi'
    have he := unl_zero hL rfl hhi (by omega)
    subst he
    rw [Nat.zero_add]
    refine hK a w ?_
    refine Sub.inv ⟨fun i s hs => ?_, fun i s hs => ?_⟩ hi'
    · rw [stOf_look] at hs ⊢
      rw [← hs]
      congr 1
      exact lookC_other fun j c hj _ => by
        obtain ⟨_, _, _, hjl⟩ := hidx j c hj
        rw [mkL_getD false (by omega)]; simp; omega
    · rw [stOf_heap] at hs ⊢; exact hs
  | succ f ih =>
    intro listed hL hu a w hi'
    rw [show f + 1 + g = (f + g) + 1 by omega]
    have hready : ∀ i ∈ Region.ready .any ops listed, lo ≤ i ∧ i < hi := by
      intro i hr
      have hun := (mem_ready.1 hr).1
      refine ⟨?_, ?_⟩
      · rcases Nat.lt_or_ge i lo with h | h
        · have h1 := hL.low i h
          obtain ⟨_, oi, hoi, _⟩ := mem_ready.1 hr
          have his : i < listed.size := by rw [hL.size]; exact (Array.getElem?_eq_some_iff.1 hoi).1
          rw [getD_tf his, h1] at hun; cases hun
        · exact h
      · rcases Nat.lt_or_ge i hi with h | h
        · exact h
        · have := hbar listed hL i hr h; omega
    refine ⟨fun hnil => ?_, fun i hr => ?_⟩
    · -- some operation has not run: the first of these is ready
      exfalso
      have hex : ∃ i, i < ops.size ∧ listed.getD i false = false ∧ i < hi := by
        rcases Classical.em (∃ i, i < ops.size ∧ listed.getD i false = false ∧ i < hi) with h | h
        · exact h
        · exfalso
          have : listed = mkL ops.size hi := eq_mkL hL.size fun i his => by
            by_cases e : i < hi
            · simp only [e, decide_true]
              cases hl' : listed.getD i false with
              | true => rfl
              | false => exact absurd ⟨i, his, hl', e⟩ h
            · have hh := hL.high i (by omega) his
              rw [getD_tf (by rw [hL.size]; exact his)] at hh
              simp [e, hh]
          have hcount : ∀ n m : Nat, m ≤ n → unl (mkL n m) ≤ n - m := by
            intro n m hm
            unfold unl mkL
            rw [Array.toList_map, Array.toList_range, List.countP_map]
            have : ∀ n : Nat, (List.range n).countP ((fun b => !b) ∘ fun i => decide (i < m)) ≤ n - m := by
              intro n
              induction n with
              | zero => simp
              | succ n ih =>
                rw [List.range_succ, List.countP_append]
                simp only [List.countP_cons, List.countP_nil, Function.comp]
                by_cases e : n < m
                · simp [e]; omega
                · simp [e]; omega
            exact this n
          have := hcount ops.size hi hhi
          rw [‹listed = _›] at hu
          omega
      obtain ⟨n0, ⟨h1, h2, h3⟩, hmin⟩ := exists_least hex
      have : n0 ∈ Region.ready .any ops listed := by
        have hs : n0 < listed.size := by rw [hL.size]; exact h1
        refine mem_ready.2 ⟨by rw [getD_tf hs]; exact h2, ops[n0], Array.getElem?_eq_getElem h1, fun e he hb => ?_⟩
        have hlt := dk.back n0 _ (Array.getElem?_eq_getElem h1) e he hb
        cases hl' : listed.getD e.on false with
        | true => rfl
        | false =>
          have := hmin e.on ⟨by omega, hl', by omega⟩
          omega
      rw [hnil] at this
      cases this
    · obtain ⟨hil, hih⟩ := hready i hr
      obtain ⟨hun, oi, hoi, hdeps⟩ := mem_ready.1 hr
      have his : i < listed.size := by rw [hL.size]; exact (Array.getElem?_eq_some_iff.1 hoi).1
      have hunf : listed.getD i false = false := by rw [← getD_tf his]; exact hun
      have hli : l[i - lo]? = some oi := by
        rw [hat (i - lo) (by omega), show lo + (i - lo) = i by omega]; exact hoi
      obtain ⟨d, s, hcs, hdst, hG⟩ := hga (i - lo) oi hli
      -- which others write a slot that this one touches
      have hwr : ∀ j c, cs[j]? = some c → j ≠ i - lo → (c.1 ∈ oi.looksAt ops ∨ c.1 = d) → (listed.getD (lo + j) false = true ↔ j < i - lo) := by
        intro j c hj hne hc
        obtain ⟨oj, hoj, hdj, hjl⟩ := hidx j c hj
        rcases Nat.lt_or_ge j (i - lo) with h | h
        · have hap : oj.apart ops oi = false := by
            cases hb : oj.apart ops oi with
            | false => rfl
            | true =>
              obtain ⟨h1, h2, h3⟩ := Oper.apart_spec hb
              rcases hc with hc | hc
              · exact absurd hc (h1 c.1 hdj)
              · exact absurd (by rw [hdst, hc]) (h2 c.1 hdj)
          obtain ⟨e, he, hb, hon⟩ := dk.order (lo + j) i oj oi (by omega) hoj hoi hap
          have := hdeps e he hb
          rw [hon] at this
          simp [this, h]
        · have hgt : i < lo + j := by omega
          have hap : oi.apart ops oj = false := by
            cases hb : oi.apart ops oj with
            | false => rfl
            | true =>
              obtain ⟨h1, h2, h3⟩ := Oper.apart_spec hb
              rcases hc with hc | hc
              · exact absurd hc (h3 c.1 hdj)
              · exact absurd (by rw [hdj, hc]) (h2 d hdst)
          obtain ⟨e, he, hb, hon⟩ := dk.order i (lo + j) oi oj hgt hoi hoj hap
          cases hlj : listed.getD (lo + j) false with
          | false => simp; omega
          | true =>
            have := hL.closed (lo + j) oj hoj hlj e he hb
            rw [hon, hunf] at this
            cases this
      have hagr : AgrG ops oi (stOf st (cs.take (i - lo)) (fun _ => true)) (stOf st cs (fun j => listed.getD (lo + j) false)) := by
        refine ⟨fun t ht => ?_, fun _ _ _ _ _ _ => by rw [stOf_heap, stOf_heap]⟩
        rw [stOf_look, stOf_look]
        congr 1
        refine lookC_take fun j c hj he => ?_
        by_cases hne : j = i - lo
        · subst hne
          rw [show lo + (i - lo) = i by omega, hunf]; simp
        · exact hwr j c hj hne (.inl (by rw [he]; exact ht))
      have hstep := hG _ hagr a w hi' (Q := Q)
      have hnext : ∀ a' w', Inv cx ((stOf st cs (fun j => listed.getD (lo + j) false)).put d s) a' w' → wpAny P .any ops Q (f + g) (listed.setIfInBounds i true) a' w' := by
        intro a' w' hi''
        refine ih _ (hL.set hr hih) (by have := unl_set his hunf; omega) a' w' ?_
        refine Sub.inv ⟨fun t s' hs => ?_, fun t s' hs => ?_⟩ hi''
        · simp only [St.put, lookS_cons]
          rw [stOf_look] at hs
          have hset : ∀ j, (listed.setIfInBounds i true).getD (lo + j) false = if j = i - lo then true else listed.getD (lo + j) false := by
            intro j
            by_cases hne : j = i - lo
            · subst hne
              rw [if_pos rfl, show lo + (i - lo) = i by omega]
              simp [his]
            · rw [if_neg hne, getD_set_ne false (by omega)]
          by_cases e : d = t
          · subst e
            rw [if_pos rfl]
            have := lookC_last (cs := cs) (L := fun j => (listed.setIfInBounds i true).getD (lo + j) false) (i := i - lo) (c := (d, s)) hcs (by simp only [hset]; simp) (fun j c' hj he hij => by
              simp only [hset]
              rw [if_neg (by omega)]
              have := hwr j c' hj (by omega) (.inr he)
              cases hlj : listed.getD (lo + j) false with
              | false => rfl
              | true => have := this.1 hlj; omega)
            rw [this] at hs
            exact hs
          · rw [if_neg e, stOf_look, ← hs]
            congr 1
            refine lookC_other fun j c hj he => ?_
            simp only [hset]
            rw [if_neg (by
              rintro rfl
              rw [hcs] at hj
              injection hj with hj
              subst hj
              exact e he)]
        · simp only [St.put, stOf_heap] at hs ⊢; exact hs
      unfold wpOp
      simp only [hoi]
      split
      · rename_i hw
        rw [if_pos hw] at hstep
        exact .inl (Oper.wp_mono hnext hstep)
      · rename_i hw
        rw [if_neg hw] at hstep
        exact hnext _ _ hstep

/-- THE REGION, all of whose operations add -/
theorem j_draw {id : Nat} {l : List Oper} {cs : List (Nat × SV)} (hm : P.follows .mixedOrders = true) (hB : drawB l.toArray = true) (has : AS P cx l.toArray st l cs) (hn : JN P cx (stOf st cs (fun _ => true)) k) : J P cx st (.region id l.toArray true) k := by
  intro a w hi
  refine wp_region_any hm ?_
  obtain ⟨β, hb⟩ := hi
  have hi0 : Inv cx st a w.drew := ⟨β, hb.later (Below.drew' w)⟩
  have hst0 : Inv cx (stOf st cs (fun i => (Array.replicate l.toArray.size false).getD (0 + i) false)) a w.drew := by
    refine Sub.inv ⟨fun i s hs => ?_, fun i s hs => ?_⟩ hi0
    · rw [stOf_look, lookC_none (fun j c _ _ => getD_replicate_false _ _)] at hs; simpa using hs
    · rw [stOf_heap] at hs; exact hs
  have hL : Lst l.toArray 0 l.toArray.size (Array.replicate l.toArray.size false) :=
    ⟨by simp, fun i h => by omega, fun i h1 h2 => by omega, fun j oj hj hl => by rw [getD_replicate_false] at hl; cases hl⟩
  have hu : unl (Array.replicate l.toArray.size false) = l.toArray.size + (l.toArray.size - l.toArray.size) := by rw [unl_rep]; omega
  have := draw_seg (P := P) (Q := k.post P) (g := 0) (drawOk_of hB) (Nat.zero_le _) (Nat.le_refl _) (by simp) (fun i hi => by simp) has
    (fun listed hL i hr hge => by
      obtain ⟨_, oi, hoi, _⟩ := mem_ready.1 hr
      have := (Array.getElem?_eq_some_iff.1 hoi).1
      omega)
    (fun a w hi => ⟨?_, hn a w hi⟩) l.toArray.size _ hL hu a w.drew hst0
  · simpa using this
  · cases hr : Region.ready .any l.toArray (mkL l.toArray.size l.toArray.size) with
    | nil => rfl
    | cons i r =>
      exfalso
      have hmem : i ∈ Region.ready .any l.toArray (mkL l.toArray.size l.toArray.size) := by rw [hr]; simp
      obtain ⟨hun, oi, hoi, _⟩ := mem_ready.1 hmem
      have := (Array.getElem?_eq_some_iff.1 hoi).1
      rw [mkL_getD true this] at hun
      simp at hun
      simp at this
      omega

/-- THE REGION with one operation in the middle that turns the state -/
theorem j_draw_bar {id : Nat} {l : List Oper} {cs1 cs2 : List (Nat × SV)} (m : Nat) {st2 : St} {om : Oper} (hm : P.follows .mixedOrders = true) (hB : drawB l.toArray = true) (hbar : barB l.toArray m = true)
    (has1 : AS P cx l.toArray st (l.take m) cs1) (hom : l[m]? = some om) (hg : om.guard = none) (hos : OS P cx om (stOf st cs1 (fun _ => true)) st2) (has2 : AS P cx l.toArray st2 (l.drop (m + 1)) cs2)
    (hn : JN P cx (stOf st2 cs2 (fun _ => true)) k) : J P cx st (.region id l.toArray true) k := by
  have dk := drawOk_of hB
  have hml : m < l.length := (List.getElem?_eq_some_iff.1 hom).1
  unfold barB at hbar
  rw [Bool.and_eq_true, List.all_eq_true, List.all_eq_true] at hbar
  obtain ⟨hb1, hb2⟩ := hbar
  intro a w hi
  refine wp_region_any hm ?_
  obtain ⟨β, hb⟩ := hi
  have hi0 : Inv cx st a w.drew := ⟨β, hb.later (Below.drew' w)⟩
  have hst0 : Inv cx (stOf st cs1 (fun i => (Array.replicate l.toArray.size false).getD (0 + i) false)) a w.drew := by
    refine Sub.inv ⟨fun i s hs => ?_, fun i s hs => ?_⟩ hi0
    · rw [stOf_look, lookC_none (fun j c _ _ => getD_replicate_false _ _)] at hs; simpa using hs
    · rw [stOf_heap] at hs; exact hs
  have hL : Lst l.toArray 0 m (Array.replicate l.toArray.size false) :=
    ⟨by simp, fun i h => by omega, fun i h1 h2 => by simp only [List.size_toArray] at h2; simp [h2], fun j oj hj hl => by rw [getD_replicate_false] at hl; cases hl⟩
  have hu : unl (Array.replicate l.toArray.size false) = m + (l.toArray.size - m) := by rw [unl_rep]; simp; omega
  -- behind m nothing runs ahead of m
  have hbehind : ∀ (hi' : Nat) (listed : Array Bool), hi' ≤ m → Lst l.toArray 0 hi' listed → ∀ i ∈ Region.ready .any l.toArray listed, m < i → False := by
    intro hi' listed hh hL i hr hgt
    obtain ⟨_, oi, hoi, hdeps⟩ := mem_ready.1 hr
    have his := (Array.getElem?_eq_some_iff.1 hoi).1
    have := hb2 i (List.mem_range.2 his)
    simp only [hoi, Bool.or_eq_true, decide_eq_true_eq] at this
    rcases this with h | h
    · omega
    · obtain ⟨e, he, hbe⟩ := Array.any_eq_true'.1 h
      simp only [Bool.and_eq_true, decide_eq_true_eq] at hbe
      have hlt := dk.back i oi hoi e he hbe.1
      have h1 := hdeps e he hbe.1
      have h2 := hL.high e.on (by omega) (by omega)
      rw [getD_tf (by rw [hL.size]; omega), h1] at h2
      cases h2
  have hseg2 : ∀ a w, Inv cx st2 a w → wpAny P .any l.toArray (k.post P) (l.length - (m + 1)) (mkL l.toArray.size (m + 1)) a w := by
    intro a w hi
    have hst1 : Inv cx (stOf st2 cs2 (fun i => (mkL l.toArray.size (m + 1)).getD ((m + 1) + i) false)) a w := by
      refine Sub.inv ⟨fun i s hs => ?_, fun i s hs => ?_⟩ hi
      · rw [stOf_look, lookC_none (fun j c hj _ => by
          have hjl : j < (l.drop (m + 1)).length := by rw [← has2.at_.1]; exact (List.getElem?_eq_some_iff.1 hj).1
          simp only [List.length_drop] at hjl
          rw [mkL_getD false (by simp; omega)]
          simp)] at hs
        simpa using hs
      · rw [stOf_heap] at hs; exact hs
    have hL2 : Lst l.toArray (m + 1) l.toArray.size (mkL l.toArray.size (m + 1)) := by
      refine ⟨by simp [mkL], fun i h => by rw [mkL_getD false (by simp; omega)]; simpa using h, fun i h1 h2 => by omega, fun j oj hj hl e he hbe => ?_⟩
      have hjs := (Array.getElem?_eq_some_iff.1 hj).1
      have hlt := dk.back j oj hj e he hbe
      rw [mkL_getD false hjs] at hl
      rw [mkL_getD false (by omega)]
      simp at hl ⊢
      omega
    have hcnt : ∀ n mm : Nat, mm ≤ n → unl (mkL n mm) = n - mm := by
      intro n mm hmm
      unfold unl mkL
      rw [Array.toList_map, Array.toList_range, List.countP_map]
      clear hmm
      induction n with
      | zero => simp
      | succ n ih =>
        rw [List.range_succ, List.countP_append, ih]
        simp only [List.countP_cons, List.countP_nil, Function.comp]
        by_cases e : n < mm
        · simp [e]; omega
        · simp [e]; omega
    have := draw_seg (P := P) (Q := k.post P) (g := 0) dk (lo := m + 1) (hi := l.toArray.size) (by simp; omega) (Nat.le_refl _) (by simp) (fun i hi => by simp) has2
      (fun listed hL i hr hge => by
        obtain ⟨_, oi, hoi, _⟩ := mem_ready.1 hr
        have := (Array.getElem?_eq_some_iff.1 hoi).1
        omega)
      (fun a w hi => ⟨?_, hn a w hi⟩) (l.length - (m + 1)) _ hL2 (by rw [hcnt _ _ (by simp; omega)]; simp) a w hst1
    · simpa using this
    · cases hr : Region.ready .any l.toArray (mkL l.toArray.size l.toArray.size) with
      | nil => rfl
      | cons i r =>
        exfalso
        have hmem : i ∈ Region.ready .any l.toArray (mkL l.toArray.size l.toArray.size) := by rw [hr]; simp
        obtain ⟨hun, oi, hoi, _⟩ := mem_ready.1 hmem
        have := (Array.getElem?_eq_some_iff.1 hoi).1
        rw [mkL_getD true this] at hun
        simp at hun
        simp at this
        omega
  have hmid : ∀ a w, Inv cx (stOf st cs1 (fun _ => true)) a w → wpAny P .any l.toArray (k.post P) (l.length - (m + 1) + 1) (mkL l.toArray.size m) a w := by
    intro a w hi
    have homs : l.toArray[m]? = some om := by simpa using hom
    have hLm : Lst l.toArray 0 m (mkL l.toArray.size m) := by
      refine ⟨by simp [mkL], fun i h => by omega, fun i h1 h2 => by rw [mkL_getD true h2]; simp; omega, fun j oj hj hl e he hbe => ?_⟩
      have hjs := (Array.getElem?_eq_some_iff.1 hj).1
      have hlt := dk.back j oj hj e he hbe
      rw [mkL_getD false hjs] at hl
      rw [mkL_getD false (by omega)]
      simp at hl ⊢
      omega
    refine ⟨fun hnil => ?_, fun i hr => ?_⟩
    · exfalso
      have : m ∈ Region.ready .any l.toArray (mkL l.toArray.size m) := by
        refine mem_ready.2 ⟨by rw [mkL_getD true (by simpa using hml)]; simp, om, homs, fun e he hbe => ?_⟩
        have hlt := dk.back m om homs e he hbe
        rw [mkL_getD false (by simp; omega)]
        simpa using hlt
      rw [hnil] at this
      cases this
    · have him : i = m := by
        rcases Nat.lt_trichotomy i m with h | h | h
        · have hun := (mem_ready.1 hr).1
          rw [mkL_getD true (by simp; omega)] at hun
          simp at hun; omega
        · exact h
        · exact absurd h (fun h => hbehind m _ (Nat.le_refl _) hLm i hr h)
      subst him
      have hset : (mkL l.toArray.size i).setIfInBounds i true = mkL l.toArray.size (i + 1) := by
        refine eq_mkL (by simp [mkL]) fun j hj => ?_
        by_cases e : i = j
        · subst e
          have hj' : i < l.length := by simpa using hj
          simp [mkL, hj']
        · rw [getD_set_ne false e, mkL_getD false hj]
          simp; omega
      rw [hset]
      unfold wpOp
      simp only [homs]
      rw [if_pos (by simp [Region.wanted, hg])]
      exact .inl (Oper.wp_mono hseg2 (hos a w hi _))
  have := draw_seg (P := P) (Q := k.post P) (g := l.length - (m + 1) + 1) dk (lo := 0) (hi := m) (Nat.zero_le _) (by simp; omega) (by simp; omega) (fun i hi => by
      simp only [List.length_take] at hi
      rw [List.getElem?_take_of_lt (by omega)]; simp) has1
    (fun listed hL i hr hge => by
      have him : i = m := by
        rcases Nat.lt_or_ge m i with h | h
        · exact absurd h (fun h => hbehind m _ (Nat.le_refl _) hL i hr h)
        · omega
      subst him
      obtain ⟨_, oi, hoi, hdeps⟩ := mem_ready.1 hr
      have hall : ∀ d j, i - j = d → j < i → listed.getD j false = true := by
        intro d
        induction d using Nat.strongRecOn with
        | _ d ihd =>
          intro j hd hj
          have h1 := hb1 j (List.mem_range.2 hj)
          obtain ⟨j', hj', hj2⟩ := List.any_eq_true.1 h1
          simp only [Bool.and_eq_true, decide_eq_true_eq] at hj2
          obtain ⟨oj, hoj, e, he, hbe, hon⟩ := Region.waitsFor_spec hj2.2
          have hle : j' ≤ i := by have := List.mem_range.1 hj'; omega
          by_cases hji : j' = i
          · subst hji
            rw [hoj] at hoi
            injection hoi with hoi
            subst hoi
            rw [← hon]; exact hdeps e he hbe
          · have := ihd (i - j') (by omega) j' rfl (by omega)
            rw [← hon]; exact hL.closed j' oj hoj this e he hbe
      have he : listed = mkL l.toArray.size i := eq_mkL hL.size fun j hj => by
        by_cases e : j < i
        · simp [e, hall (i - j) j rfl e]
        · have hh := hL.high j (by omega) hj
          rw [getD_tf (by rw [hL.size]; exact hj)] at hh
          simp [e, hh]
      have hcnt : ∀ n mm : Nat, unl (mkL n mm) = n - mm := by
        intro n mm
        unfold unl mkL
        rw [Array.toList_map, Array.toList_range, List.countP_map]
        induction n with
        | zero => simp
        | succ n ih =>
          rw [List.range_succ, List.countP_append, ih]
          simp only [List.countP_cons, List.countP_nil, Function.comp]
          by_cases e : n < mm
          · simp [e]; omega
          · simp [e]; omega
      rw [he, hcnt])
    hmid m _ hL hu a w.drew hst0
  have e2 : l.toArray.size = m + (l.length - (m + 1) + 1) := by simp; omega
  rw [e2]
  rw [e2] at this
  exact this

end
end Go.Eng
