import Derived.Test.YtehcaebnijlhgaaGreatDoorM1
import Derived.Laws.MakeOwn
import Derived.Laws.Tables
set_option linter.unusedVariables false
set_option linter.unusedSimpArgs false
namespace Go.Eng
section
variable {P : Program} {cx : Cx} {st st' : St} {β : Loc} {a : Act} {w w' : World} {ops : Array Oper} {o : Oper} {k : Kn}
structure AgrG (ops : Array Oper) (o : Oper) (st st' : St) : Prop where
  at_ : ∀ t ∈ o.looksAt ops, a8 st'.slots t = a8 st.slots t
  heap : ∀ x ∈ o.op.operands, ∀ s nm, evS st x = some s → s.free nm = false → az st'.heap nm = az st.heap nm
theorem AgrG.agr (h : AgrG ops o st st') : Agr o st st' := ⟨fun x hx => by
  cases x with
  | tmp t => exact h.at_ t (List.mem_append_left _ (List.mem_filterMap.2 ⟨.tmp t, by simpa using hx, rfl⟩))
  | _ => rfl, h.heap⟩
def GA (P : Program) (cx : Cx) (ops : Array Oper) (st : St) (o : Oper) (d : Nat) (s : SV) : Prop :=
  ∀ st', AgrG ops o st st' → ∀ a w, Inv cx st' a w → ∀ Q, if Region.wanted o (yielded ops a.tmps) then o.wp P a w (fun a' w' => Inv cx (st'.put d s) a' w') Q else Inv cx (st'.put d s) (a.put o.dst undef) w
theorem AL {d : Nat} {s : SV} (hg : o.guard = none) (hd : o.dst = some d) (hdn : Nat.blt d cx.n = true) (h : Adr P cx st o s) : GA P cx ops st o d s := by
  intro st' hag a w hi Q
  rw [if_pos (by simp [Region.wanted, hg])]
  exact h st' hag.agr d hd (by simpa using hdn) a w hi Q
theorem C9 {d : Nat} {s : SV} (j : Nat) (want c : Bool) (g : Nat) (hg : o.guard = some (j, want)) (hj : (ops[j]?).bind (·.dst) = some g) (hc : a8 st.slots g = some (.raw (.bool c)))
    (hd : o.dst = some d) (hdn : Nat.blt d cx.n = true) (h : (c == want) = true → Adr P cx st o s) : GA P cx ops st o d (.gd (c == want) s) := by
  intro st' hag a w hi Q
  have hdn' : d < cx.n := by simpa using hdn
  obtain ⟨β, hb⟩ := hi
  have hlk : a8 st'.slots g = a8 st.slots g := hag.at_ g (by simp [Oper.looksAt, hg, hj])
  obtain ⟨v, h1, h2⟩ := hb.slots g _ (hlk.trans hc)
  have h2 : v = .bool c := h2
  subst h2
  have hw : Region.wanted o (yielded ops a.tmps) = (c == want) := by
    have : yielded ops a.tmps j = some c := by simp only [yielded, hj, Option.bind_some, h1]
    simp only [Region.wanted, hg, this]
    cases c <;> cases want <;> rfl
  cases hcw : (c == want) with
  | true =>
    rw [hw, hcw, if_pos rfl]
    refine Oper.wp_mono (fun a' w' hi' => ?_) (h hcw st' hag.agr d hd hdn' a w ⟨β, hb⟩ Q)
    obtain ⟨β', hb'⟩ := hi'
    obtain ⟨u, h3, h4⟩ := hb'.slots d s (by simp [St.put, aT])
    refine ⟨β', hb'.below, hb'.old, hb'.defers, hb'.size, hb'.own, hb'.sep, hb'.rows, fun i s' hs' => ?_⟩
    simp only [St.put, aT] at hs'
    split at hs'
    · rename_i e; subst e; injection hs' with hs'; subst hs'
      exact ⟨u, h3, fun _ => h4, fun h => by cases h⟩
    rename_i e
    exact hb'.slots i s' (by simp [St.put, aT, e, hs'])
  | false =>
    rw [hw, hcw, if_neg (by simp), hd]
    exact ⟨β, hb.put hdn' ⟨(fun h => by cases h), fun _ => rfl⟩⟩
theorem cT {d : Nat} {s : SV} (j : Nat) (want c c0 : Bool) (g : Nat) (hg : o.guard = some (j, want)) (hj : (ops[j]?).bind (·.dst) = some g) (hc : a8 st.slots g = some (.gd c0 (.raw (.bool c))))
    (hd : o.dst = some d) (hdn : Nat.blt d cx.n = true) (h : (c0 && (c == want)) = true → Adr P cx st o s) : GA P cx ops st o d (.gd (c0 && (c == want)) s) := by
  intro st' hag a w hi Q
  have hdn' : d < cx.n := by simpa using hdn
  obtain ⟨β, hb⟩ := hi
  have hlk : a8 st'.slots g = a8 st.slots g := hag.at_ g (by simp [Oper.looksAt, hg, hj])
  obtain ⟨v, h1, h2, h2'⟩ := hb.slots g _ (hlk.trans hc)
  have hw : Region.wanted o (yielded ops a.tmps) = (c0 && (c == want)) := by
    cases c0 with
    | true =>
      have h2 : v = .bool c := h2 rfl
      subst h2
      have : yielded ops a.tmps j = some c := by simp only [yielded, hj, Option.bind_some, h1]
      simp only [Region.wanted, hg, this]
      cases c <;> cases want <;> rfl
    | false =>
      have h2 : v = undef := h2' rfl
      subst h2
      have : yielded ops a.tmps j = none := by simp only [yielded, hj, Option.bind_some, h1, undef]
      simp only [Region.wanted, hg, this]
      rfl
  cases hcw : (c0 && (c == want)) with
  | true =>
    rw [hw, hcw, if_pos rfl]
    refine Oper.wp_mono (fun a' w' hi' => ?_) (h hcw st' hag.agr d hd hdn' a w ⟨β, hb⟩ Q)
    obtain ⟨β', hb'⟩ := hi'
    obtain ⟨u, h3, h4⟩ := hb'.slots d s (by simp [St.put, aT])
    refine ⟨β', hb'.below, hb'.old, hb'.defers, hb'.size, hb'.own, hb'.sep, hb'.rows, fun i s' hs' => ?_⟩
    simp only [St.put, aT] at hs'
    split at hs'
    · rename_i e; subst e; injection hs' with hs'; subst hs'
      exact ⟨u, h3, fun _ => h4, fun h => by cases h⟩
    rename_i e
    exact hb'.slots i s' (by simp [St.put, aT, e, hs'])
  | false =>
    rw [hw, hcw, if_neg (by simp), hd]
    exact ⟨β, hb.put hdn' ⟨(fun h => by cases h), fun _ => rfl⟩⟩
def eD (st : St) : List (Nat × SV) → (Nat → Bool) → St
  | [], _ => st
  | c :: r, L => eD (bif L 0 then st.put c.1 c.2 else st) r (fun i => L (i + 1))
def gk : List (Nat × SV) → (Nat → Bool) → Nat → Option SV
  | [], _, _ => none
  | c :: r, L, t => match gk r (fun i => L (i + 1)) t with
    | some s => some s
    | none => bif L 0 then (if c.1 = t then some c.2 else none) else none
theorem cu : ∀ (cs : List (Nat × SV)) (st : St) (L : Nat → Bool) (t : Nat), a8 (eD st cs L).slots t = (gk cs L t).or (a8 st.slots t)
  | [], st, L, t => by simp [eD, gk]
  | c :: r, st, L, t => by
    rw [eD, cu r]
    simp only [gk]
    cases h : gk r (fun i => L (i + 1)) t with
    | some s => simp
    | none =>
      cases hL : L 0 with
      | false => simp
      | true =>
        simp only [cond_true, St.put, aT]
        split <;> simp
theorem cM : ∀ (cs : List (Nat × SV)) (st : St) (L : Nat → Bool), (eD st cs L).heap = st.heap
  | [], _, _ => rfl
  | c :: r, st, L => by
    rw [eD, cM r]
    cases L 0 <;> rfl
theorem fc : ∀ {cs : List (Nat × SV)} {L : Nat → Bool} {t : Nat}, (∀ j c, cs[j]? = some c → c.1 = t → L j = false) → gk cs L t = none
  | [], _, _, _ => rfl
  | c :: r, L, t, h => by
    simp only [gk, fc (cs := r) (L := fun i => L (i + 1)) (t := t) (fun j c hj he => h (j + 1) c (by simpa using hj) he)]
    cases hL : L 0 with
    | false => rfl
    | true =>
      have : ¬ c.1 = t := fun e => by rw [h 0 c rfl e] at hL; cases hL
      simp [this]
theorem kB : ∀ {cs : List (Nat × SV)} {L : Nat → Bool} {t i : Nat}, (∀ j c, cs[j]? = some c → c.1 = t → (L j = true ↔ j < i)) → gk cs L t = gk (cs.take i) (fun _ => true) t
  | [], _, _, _, _ => by simp [gk]
  | c :: r, L, t, 0, h => by
    have hn : gk (c :: r) L t = none := fc fun j c' hj he => by
      have := h j c' hj he
      cases hL : L j with
      | false => rfl
      | true => have := this.1 hL; omega
    rw [hn]; rfl
  | c :: r, L, t, i + 1, h => by
    simp only [List.take_succ_cons, gk, kB (cs := r) (L := fun i => L (i + 1)) (t := t) (i := i) (fun j c hj he => by have := h (j + 1) c (by simpa using hj) he; rw [this]; omega)]
    cases h' : gk (r.take i) (fun _ => true) t with
    | some s => rfl
    | none =>
      by_cases e : c.1 = t
      · have := h 0 c rfl e
        rw [this.2 (by omega)]
      simp [e]
theorem kC : ∀ {cs : List (Nat × SV)} {L : Nat → Bool} {i : Nat} {c : Nat × SV}, cs[i]? = some c → L i = true → (∀ j c', cs[j]? = some c' → c'.1 = c.1 → i < j → L j = false) → gk cs L c.1 = some c.2
  | [], _, _, _, h, _, _ => by simp at h
  | c0 :: r, L, 0, c, h, hL, hl => by
    simp at h; subst h
    simp only [gk, fc (cs := r) (L := fun i => L (i + 1)) (t := c0.1) (fun j c' hj he => hl (j + 1) c' (by simpa using hj) he (by omega)), hL]
    simp
  | c0 :: r, L, i + 1, c, h, hL, hl => by
    simp only [gk, kC (cs := r) (L := fun i => L (i + 1)) (i := i) (c := c) (by simpa using h) hL (fun j c' hj he hij => hl (j + 1) c' (by simpa using hj) he (by omega))]
theorem dX : ∀ {cs : List (Nat × SV)} {L L' : Nat → Bool} {t : Nat}, (∀ j c, cs[j]? = some c → c.1 = t → L j = L' j) → gk cs L t = gk cs L' t
  | [], _, _, _, _ => rfl
  | c :: r, L, L', t, h => by
    simp only [gk, dX (cs := r) (L := fun i => L (i + 1)) (L' := fun i => L' (i + 1)) (t := t) (fun j c hj he => h (j + 1) c (by simpa using hj) he)]
    by_cases e : c.1 = t
    · rw [h 0 c rfl e]
    simp [e]
inductive AS (P : Program) (cx : Cx) (ops : Array Oper) : St → List Oper → List (Nat × SV) → Prop
  | nil {st : St} : AS P cx ops st [] []
  | cons {st : St} {o : Oper} {l : List Oper} {cs : List (Nat × SV)} (d : Nat) (s : SV) (hd : o.dst = some d) (h : GA P cx ops st o d s) (hr : AS P cx ops (st.put d s) l cs) : AS P cx ops st (o :: l) ((d, s) :: cs)
theorem AS.at_ : ∀ {st : St} {l : List Oper} {cs : List (Nat × SV)}, AS P cx ops st l cs → cs.length = l.length ∧ ∀ i o, l[i]? = some o → ∃ d s, cs[i]? = some (d, s) ∧ o.dst = some d ∧ GA P cx ops (eD st (cs.take i) (fun _ => true)) o d s
  | _, _, _, .nil => ⟨rfl, fun i o h => by simp at h⟩
  | _, _, _, .cons d s hd h hr => ⟨by simp [hr.at_.1], fun i o' hi => by
      cases i with
      | zero => simp at hi; subst hi; exact ⟨d, s, rfl, hd, h⟩
      | succ i =>
        obtain ⟨d', s', h1, h2, h3⟩ := hr.at_.2 i o' (by simpa using hi)
        exact ⟨d', s', by simpa using h1, h2, by simpa [eD] using h3⟩⟩
def qt (ops : Array Oper) : Bool :=
  (List.range ops.size).all fun j => (match ops[j]? with | some oj => oj.after.all (fun e => !Region.binds .any e || decide (e.on < j)) | none => true) &&
    (List.range j).all fun i => (match ops[i]?, ops[j]? with | some oi, some oj => oi.apart ops oj | _, _ => true) || Region.waitsFor .any ops j i
def CP (ops : Array Oper) (m : Nat) : Bool :=
  (List.range m).all (fun i => (List.range (m + 1)).any fun j => decide (i < j) && Region.waitsFor .any ops j i) &&
  (List.range ops.size).all fun i => decide (i ≤ m) || (match ops[i]? with | some oi => oi.after.any (fun e => Region.binds .any e && decide (m ≤ e.on)) | none => true)
structure oJ (ops : Array Oper) : Prop where
  back : ∀ j oj, ops[j]? = some oj → ∀ e ∈ oj.after, Region.binds .any e = true → e.on < j
  order : ∀ i j oi oj, i < j → ops[i]? = some oi → ops[j]? = some oj → oi.apart ops oj = false → ∃ e ∈ oj.after, Region.binds .any e = true ∧ e.on = i
theorem kj (h : qt ops = true) : oJ ops := by
  unfold qt at h
  rw [List.all_eq_true] at h
  refine ⟨fun j oj hj e he hb => ?_, fun i j oi oj hij hi hj hap => ?_⟩
  · have hjs : j < ops.size := (Array.getElem?_eq_some_iff.1 hj).1
    have := h j (List.mem_range.2 hjs)
    simp only [hj, Bool.and_eq_true] at this
    have := Array.all_eq_true'.1 this.1 e he
    simpa [hb] using this
  have hjs : j < ops.size := (Array.getElem?_eq_some_iff.1 hj).1
  have := h j (List.mem_range.2 hjs)
  simp only [Bool.and_eq_true] at this
  have := List.all_eq_true.1 this.2 i (List.mem_range.2 hij)
  simp only [hi, hj, hap, Bool.false_or] at this
  obtain ⟨oj', hj', e, he, hb, hon⟩ := Region.waitsFor_spec this
  rw [hj] at hj'
  injection hj' with hj'
  subst hj'
  exact ⟨e, he, hb, hon⟩
structure Lst (ops : Array Oper) (lo hi : Nat) (listed : Array Bool) : Prop where
  size : listed.size = ops.size
  low : ∀ i, i < lo → listed.getD i false = true
  high : ∀ i, hi ≤ i → i < ops.size → listed.getD i true = false
  closed : ∀ j oj, ops[j]? = some oj → listed.getD j false = true → ∀ e ∈ oj.after, Region.binds .any e = true → listed.getD e.on false = true
theorem dC {listed : Array Bool} {i : Nat} (h : i < listed.size) : listed.getD i true = listed.getD i false := by simp [h]
def mkL (n m : Nat) : Array Bool := (Array.range n).map fun i => decide (i < m)
theorem cD {n m i : Nat} (d : Bool) (h : i < n) : (mkL n m).getD i d = decide (i < m) := by
  simp [mkL, h]
theorem jQ {listed : Array Bool} {n m : Nat} (hs : listed.size = n) (h : ∀ i, i < n → listed.getD i false = decide (i < m)) : listed = mkL n m := by
  apply Array.ext
  · simp [mkL, hs]
  intro i h1 h2
  have := h i (by omega)
  simp only [Array.getD_eq_getD_getElem?, Array.getElem?_eq_getElem h1, Option.getD_some] at this
  simp [mkL, this]
def unl (listed : Array Bool) : Nat := listed.toList.countP (fun b => !b)
theorem iz : ∀ (l : List Bool) (i : Nat), l[i]? = some false → (l.set i true).countP (fun b => !b) + 1 = l.countP (fun b => !b)
  | [], i, h => by simp at h
  | b :: r, 0, h => by simp at h; subst h; simp
  | b :: r, i + 1, h => by
    have := iz r i (by simpa using h)
    simp only [List.set_cons_succ, List.countP_cons]
    omega
theorem ko {listed : Array Bool} {i : Nat} (hi : i < listed.size) (h : listed.getD i false = false) : unl (listed.setIfInBounds i true) + 1 = unl listed := by
  unfold unl
  rw [Array.toList_setIfInBounds]
  refine iz _ _ ?_
  have : listed[i]? = some false := by simpa [hi] using h
  simpa using this
theorem mD (n : Nat) : unl (Array.replicate n false) = n := by simp [unl, List.countP_replicate]
theorem Lst.set {lo hi i : Nat} {listed : Array Bool} (h : Lst ops lo hi listed) (hr : i ∈ Region.ready .any ops listed) (hhi : i < hi) : Lst ops lo hi (listed.setIfInBounds i true) := by
  obtain ⟨hun, oi, hoi, hall⟩ := mem_ready.1 hr
  refine ⟨by simp [h.size], fun j hj => getD_set_true (h.low j hj), fun t ht hts => by rw [getD_set_ne true (by omega)]; exact h.high t ht hts, fun j oj hj hl e he hb => ?_⟩
  by_cases hij : i = j
  · subst hij
    have : oj = oi := Option.some.inj (hj.symm.trans hoi)
    subst this
    exact getD_set_true (hall e he hb)
  rw [getD_set_ne false hij] at hl
  exact getD_set_true (h.closed j oj hj hl e he hb)
theorem pG {listed : Array Bool} {n lo hi : Nat} (h : Lst ops lo hi listed) (hn : n = ops.size) (hhi : hi ≤ n) (hz : unl listed = n - hi) : listed = mkL n hi := by
  subst hn
  refine jQ h.size fun i hi' => ?_
  by_cases e : i < hi
  · simp only [e, decide_true]
    cases hl : listed.getD i false with
    | true => rfl
    | false =>
      exfalso
      -- the unlisted ones: those from hi on, and i
      have hc : ∀ (l : List Bool) (m : Nat), (∀ j, m ≤ j → j < l.length → l[j]? = some false) → l.length - m ≤ l.countP (fun b => !b) := by
        intro l
        induction l with
        | nil => intro m _; simp
        | cons b r ih =>
          intro m hm
          cases m with
          | zero =>
            have h0 := hm 0 (Nat.le_refl _) (by simp)
            simp at h0; subst h0
            have := ih 0 (fun j _ hj => by have := hm (j + 1) (by omega) (by simpa using hj); simpa using this)
            simp at this ⊢; omega
          | succ m =>
            have := ih m (fun j hj hj2 => by have := hm (j + 1) (by omega) (by simpa using hj2); simpa using this)
            simp only [List.length_cons, List.countP_cons]
            split <;> omega
      have h1 := ko (by rw [h.size]; exact hi') hl
      have h2 := hc (listed.setIfInBounds i true).toList hi (fun j hj hj2 => by
        have hjs : j < ops.size := by simpa [h.size] using hj2
        have h3 := h.high j hj hjs
        have hne : i ≠ j := by omega
        have h4 : j < listed.size := by rw [h.size]; exact hjs
        have h5 : listed[j]? = some false := by simpa [h4] using h3
        rw [Array.getElem?_toList, Array.getElem?_setIfInBounds_ne hne]; exact h5)
      simp only [unl] at h1 hz
      simp only [Array.length_toList, Array.size_setIfInBounds, h.size] at h2
      omega
  have hh := h.high i (by omega) hi'
  rw [dC (by rw [h.size]; exact hi')] at hh
  simp [e, hh]
theorem nR (dk : oJ ops) {Q : Exit → Act → World → Prop} {lo hi g : Nat} {l : List Oper} {cs : List (Nat × SV)} (hlo : lo ≤ hi) (hhi : hi ≤ ops.size) (hl : l.length = hi - lo) (hat : ∀ i, i < l.length → l[i]? = ops[lo + i]?)
    (has : AS P cx ops st l cs)
    (hbar : ∀ listed, Lst ops lo hi listed → ∀ i ∈ Region.ready .any ops listed, hi ≤ i → unl listed = ops.size - hi)
    (hK : ∀ a w, Inv cx (eD st cs (fun _ => true)) a w → wpAny P .any ops Q g (mkL ops.size hi) a w) :
    ∀ (f : Nat) (listed : Array Bool), Lst ops lo hi listed → unl listed = f + (ops.size - hi) → ∀ a w, Inv cx (eD st cs (fun i => listed.getD (lo + i) false)) a w → wpAny P .any ops Q (f + g) listed a w := by
  obtain ⟨hcl, hga⟩ := has.at_
  have hidx : ∀ j c, cs[j]? = some c → ∃ oj, ops[lo + j]? = some oj ∧ oj.dst = some c.1 ∧ j < l.length := by
    intro j c hj
    have hjl : j < l.length := by rw [← hcl]; exact (List.getElem?_eq_some_iff.1 hj).1
    obtain ⟨d, s, h1, h2, _⟩ := hga j l[j] (List.getElem?_eq_getElem hjl)
    rw [hj] at h1
    injection h1 with h1
    subst h1
    exact ⟨l[j], by rw [← hat j hjl]; exact List.getElem?_eq_getElem hjl, h2, hjl⟩
  intro f
  induction f with
  | zero =>
    intro listed hL hu a w hi'
    have he := pG hL rfl hhi (by omega)
    subst he
    rw [Nat.zero_add]
    refine hK a w ?_
    refine Sub.inv ⟨fun i s hs => ?_, fun i s hs => ?_⟩ hi'
    · rw [cu] at hs ⊢
      rw [← hs]
      congr 1
      exact dX fun j c hj _ => by
        obtain ⟨_, _, _, hjl⟩ := hidx j c hj
        rw [cD false (by omega)]; simp; omega
    rw [cM] at hs ⊢; exact hs
  | succ f ih =>
    intro listed hL hu a w hi'
    rw [show f + 1 + g = (f + g) + 1 by omega]
    have hready : ∀ i ∈ Region.ready .any ops listed, lo ≤ i ∧ i < hi := by
      intro i hr
      have hun := (mem_ready.1 hr).1
      refine ⟨?_, ?_⟩
      · rcases Nat.lt_or_ge i lo with h | h
        · have h1 := hL.low i h
          obtain ⟨_, oi, hoi, _⟩ := mem_ready.1 hr
          have his : i < listed.size := by rw [hL.size]; exact (Array.getElem?_eq_some_iff.1 hoi).1
          rw [dC his, h1] at hun; cases hun
        exact h
      rcases Nat.lt_or_ge i hi with h | h
      · exact h
      have := hbar listed hL i hr h; omega
    refine ⟨fun hnil => ?_, fun i hr => ?_⟩
    · -- some operation has not run: the first of these is ready
      exfalso
      have hex : ∃ i, i < ops.size ∧ listed.getD i false = false ∧ i < hi := by
        rcases Classical.em (∃ i, i < ops.size ∧ listed.getD i false = false ∧ i < hi) with h | h
        · exact h
        exfalso
        have : listed = mkL ops.size hi := jQ hL.size fun i his => by
          by_cases e : i < hi
          · simp only [e, decide_true]
            cases hl' : listed.getD i false with
            | true => rfl
            | false => exact absurd ⟨i, his, hl', e⟩ h
          have hh := hL.high i (by omega) his
          rw [dC (by rw [hL.size]; exact his)] at hh
          simp [e, hh]
        have hcount : ∀ n m : Nat, m ≤ n → unl (mkL n m) ≤ n - m := by
          intro n m hm
          unfold unl mkL
          rw [Array.toList_map, Array.toList_range, List.countP_map]
          have : ∀ n : Nat, (List.range n).countP ((fun b => !b) ∘ fun i => decide (i < m)) ≤ n - m := by
            intro n
            induction n with
            | zero => simp
            | succ n ih =>
              rw [List.range_succ, List.countP_append]
              simp only [List.countP_cons, List.countP_nil, Function.comp]
              by_cases e : n < m
              · simp [e]; omega
              simp [e]; omega
          exact this n
        have := hcount ops.size hi hhi
        rw [‹listed = _›] at hu
        omega
      obtain ⟨n0, ⟨h1, h2, h3⟩, hmin⟩ := exists_least hex
      have : n0 ∈ Region.ready .any ops listed := by
        have hs : n0 < listed.size := by rw [hL.size]; exact h1
        refine mem_ready.2 ⟨by rw [dC hs]; exact h2, ops[n0], Array.getElem?_eq_getElem h1, fun e he hb => ?_⟩
        have hlt := dk.back n0 _ (Array.getElem?_eq_getElem h1) e he hb
        cases hl' : listed.getD e.on false with
        | true => rfl
        | false =>
          have := hmin e.on ⟨by omega, hl', by omega⟩
          omega
      rw [hnil] at this
      cases this
    obtain ⟨hil, hih⟩ := hready i hr
    obtain ⟨hun, oi, hoi, hdeps⟩ := mem_ready.1 hr
    have his : i < listed.size := by rw [hL.size]; exact (Array.getElem?_eq_some_iff.1 hoi).1
    have hunf : listed.getD i false = false := by rw [← dC his]; exact hun
    have hli : l[i - lo]? = some oi := by
      rw [hat (i - lo) (by omega), show lo + (i - lo) = i by omega]; exact hoi
    obtain ⟨d, s, hcs, hdst, hG⟩ := hga (i - lo) oi hli
    -- which others write a slot that this one touches
    have hwr : ∀ j c, cs[j]? = some c → j ≠ i - lo → (c.1 ∈ oi.looksAt ops ∨ c.1 = d) → (listed.getD (lo + j) false = true ↔ j < i - lo) := by
      intro j c hj hne hc
      obtain ⟨oj, hoj, hdj, hjl⟩ := hidx j c hj
      rcases Nat.lt_or_ge j (i - lo) with h | h
      · have hap : oj.apart ops oi = false := by
          cases hb : oj.apart ops oi with
          | false => rfl
          | true =>
            obtain ⟨h1, h2, h3⟩ := Oper.apart_spec hb
            rcases hc with hc | hc
            · exact absurd hc (h1 c.1 hdj)
            exact absurd (by rw [hdst, hc]) (h2 c.1 hdj)
        obtain ⟨e, he, hb, hon⟩ := dk.order (lo + j) i oj oi (by omega) hoj hoi hap
        have := hdeps e he hb
        rw [hon] at this
        simp [this, h]
      have hgt : i < lo + j := by omega
      have hap : oi.apart ops oj = false := by
        cases hb : oi.apart ops oj with
        | false => rfl
        | true =>
          obtain ⟨h1, h2, h3⟩ := Oper.apart_spec hb
          rcases hc with hc | hc
          · exact absurd hc (h3 c.1 hdj)
          exact absurd (by rw [hdj, hc]) (h2 d hdst)
      obtain ⟨e, he, hb, hon⟩ := dk.order i (lo + j) oi oj hgt hoi hoj hap
      cases hlj : listed.getD (lo + j) false with
      | false => simp; omega
      | true =>
        have := hL.closed (lo + j) oj hoj hlj e he hb
        rw [hon, hunf] at this
        cases this
    have hagr : AgrG ops oi (eD st (cs.take (i - lo)) (fun _ => true)) (eD st cs (fun j => listed.getD (lo + j) false)) := by
      refine ⟨fun t ht => ?_, fun _ _ _ _ _ _ => by rw [cM, cM]⟩
      rw [cu, cu]
      congr 1
      refine kB fun j c hj he => ?_
      by_cases hne : j = i - lo
      · subst hne
        rw [show lo + (i - lo) = i by omega, hunf]; simp
      exact hwr j c hj hne (.inl (by rw [he]; exact ht))
    have hstep := hG _ hagr a w hi' (Q := Q)
    have hnext : ∀ a' w', Inv cx ((eD st cs (fun j => listed.getD (lo + j) false)).put d s) a' w' → wpAny P .any ops Q (f + g) (listed.setIfInBounds i true) a' w' := by
      intro a' w' hi''
      refine ih _ (hL.set hr hih) (by have := ko his hunf; omega) a' w' ?_
      refine Sub.inv ⟨fun t s' hs => ?_, fun t s' hs => ?_⟩ hi''
      · simp only [St.put, aT]
        rw [cu] at hs
        have hset : ∀ j, (listed.setIfInBounds i true).getD (lo + j) false = if j = i - lo then true else listed.getD (lo + j) false := by
          intro j
          by_cases hne : j = i - lo
          · subst hne
            rw [if_pos rfl, show lo + (i - lo) = i by omega]
            simp [his]
          rw [if_neg hne, getD_set_ne false (by omega)]
        by_cases e : d = t
        · subst e
          rw [if_pos rfl]
          have := kC (cs := cs) (L := fun j => (listed.setIfInBounds i true).getD (lo + j) false) (i := i - lo) (c := (d, s)) hcs (by simp only [hset]; simp) (fun j c' hj he hij => by
            simp only [hset]
            rw [if_neg (by omega)]
            have := hwr j c' hj (by omega) (.inr he)
            cases hlj : listed.getD (lo + j) false with
            | false => rfl
            | true => have := this.1 hlj; omega)
          rw [this] at hs
          exact hs
        rw [if_neg e, cu, ← hs]
        congr 1
        refine dX fun j c hj he => ?_
        simp only [hset]
        rw [if_neg (by
          rintro rfl
          rw [hcs] at hj
          injection hj with hj
          subst hj
          exact e he)]
      simp only [St.put, cM] at hs ⊢; exact hs
    unfold wpOp
    simp only [hoi]
    split
    · rename_i hw
      rw [if_pos hw] at hstep
      exact .inl (Oper.wp_mono hnext hstep)
    rename_i hw
    rw [if_neg hw] at hstep
    exact hnext _ _ hstep
theorem dN {id : Nat} {l : List Oper} {cs : List (Nat × SV)} (hm : P.follows .mixedOrders = true) (hB : qt l.toArray = true) (has : AS P cx l.toArray st l cs) (hn : JN P cx (eD st cs (fun _ => true)) k) : J P cx st (.region id l.toArray true) k := by
  intro a w hi
  refine wp_region_any hm ?_
  obtain ⟨β, hb⟩ := hi
  have hi0 : Inv cx st a w.drew := ⟨β, hb.later (Below.drew' w)⟩
  have hst0 : Inv cx (eD st cs (fun i => (Array.replicate l.toArray.size false).getD (0 + i) false)) a w.drew := by
    refine Sub.inv ⟨fun i s hs => ?_, fun i s hs => ?_⟩ hi0
    · rw [cu, fc (fun j c _ _ => getD_replicate_false _ _)] at hs; simpa using hs
    rw [cM] at hs; exact hs
  have hL : Lst l.toArray 0 l.toArray.size (Array.replicate l.toArray.size false) :=
    ⟨by simp, fun i h => by omega, fun i h1 h2 => by omega, fun j oj hj hl => by rw [getD_replicate_false] at hl; cases hl⟩
  have hu : unl (Array.replicate l.toArray.size false) = l.toArray.size + (l.toArray.size - l.toArray.size) := by rw [mD]; omega
  have := nR (P := P) (Q := k.post P) (g := 0) (kj hB) (Nat.zero_le _) (Nat.le_refl _) (by simp) (fun i hi => by simp) has
    (fun listed hL i hr hge => by
      obtain ⟨_, oi, hoi, _⟩ := mem_ready.1 hr
      have := (Array.getElem?_eq_some_iff.1 hoi).1
      omega)
    (fun a w hi => ⟨?_, hn a w hi⟩) l.toArray.size _ hL hu a w.drew hst0
  · simpa using this
  cases hr : Region.ready .any l.toArray (mkL l.toArray.size l.toArray.size) with
  | nil => rfl
  | cons i r =>
    exfalso
    have hmem : i ∈ Region.ready .any l.toArray (mkL l.toArray.size l.toArray.size) := by rw [hr]; simp
    obtain ⟨hun, oi, hoi, _⟩ := mem_ready.1 hmem
    have := (Array.getElem?_eq_some_iff.1 hoi).1
    rw [cD true this] at hun
    simp at hun
    simp at this
    omega
theorem gP {id : Nat} {l : List Oper} {cs1 cs2 : List (Nat × SV)} (m : Nat) {st2 : St} {om : Oper} (hm : P.follows .mixedOrders = true) (hB : qt l.toArray = true) (hbar : CP l.toArray m = true)
    (has1 : AS P cx l.toArray st (l.take m) cs1) (hom : l[m]? = some om) (hg : om.guard = none) (hos : OS P cx om (eD st cs1 (fun _ => true)) st2) (has2 : AS P cx l.toArray st2 (l.drop (m + 1)) cs2)
    (hn : JN P cx (eD st2 cs2 (fun _ => true)) k) : J P cx st (.region id l.toArray true) k := by
  have dk := kj hB
  have hml : m < l.length := (List.getElem?_eq_some_iff.1 hom).1
  unfold CP at hbar
  rw [Bool.and_eq_true, List.all_eq_true, List.all_eq_true] at hbar
  obtain ⟨hb1, hb2⟩ := hbar
  intro a w hi
  refine wp_region_any hm ?_
  obtain ⟨β, hb⟩ := hi
  have hi0 : Inv cx st a w.drew := ⟨β, hb.later (Below.drew' w)⟩
  have hst0 : Inv cx (eD st cs1 (fun i => (Array.replicate l.toArray.size false).getD (0 + i) false)) a w.drew := by
    refine Sub.inv ⟨fun i s hs => ?_, fun i s hs => ?_⟩ hi0
    · rw [cu, fc (fun j c _ _ => getD_replicate_false _ _)] at hs; simpa using hs
    rw [cM] at hs; exact hs
  have hL : Lst l.toArray 0 m (Array.replicate l.toArray.size false) :=
    ⟨by simp, fun i h => by omega, fun i h1 h2 => by simp only [List.size_toArray] at h2; simp [h2], fun j oj hj hl => by rw [getD_replicate_false] at hl; cases hl⟩
  have hu : unl (Array.replicate l.toArray.size false) = m + (l.toArray.size - m) := by rw [mD]; simp; omega
  -- behind m nothing runs ahead of m
  have hbehind : ∀ (hi' : Nat) (listed : Array Bool), hi' ≤ m → Lst l.toArray 0 hi' listed → ∀ i ∈ Region.ready .any l.toArray listed, m < i → False := by
    intro hi' listed hh hL i hr hgt
    obtain ⟨_, oi, hoi, hdeps⟩ := mem_ready.1 hr
    have his := (Array.getElem?_eq_some_iff.1 hoi).1
    have := hb2 i (List.mem_range.2 his)
    simp only [hoi, Bool.or_eq_true, decide_eq_true_eq] at this
    rcases this with h | h
    · omega
    obtain ⟨e, he, hbe⟩ := Array.any_eq_true'.1 h
    simp only [Bool.and_eq_true, decide_eq_true_eq] at hbe
    have hlt := dk.back i oi hoi e he hbe.1
    have h1 := hdeps e he hbe.1
    have h2 := hL.high e.on (by omega) (by omega)
    rw [dC (by rw [hL.size]; omega), h1] at h2
    cases h2
  have hseg2 : ∀ a w, Inv cx st2 a w → wpAny P .any l.toArray (k.post P) (l.length - (m + 1)) (mkL l.toArray.size (m + 1)) a w := by
    intro a w hi
    have hst1 : Inv cx (eD st2 cs2 (fun i => (mkL l.toArray.size (m + 1)).getD ((m + 1) + i) false)) a w := by
      refine Sub.inv ⟨fun i s hs => ?_, fun i s hs => ?_⟩ hi
      · rw [cu, fc (fun j c hj _ => by
          have hjl : j < (l.drop (m + 1)).length := by rw [← has2.at_.1]; exact (List.getElem?_eq_some_iff.1 hj).1
          simp only [List.length_drop] at hjl
          rw [cD false (by simp; omega)]
          simp)] at hs
        simpa using hs
      rw [cM] at hs; exact hs
    have hL2 : Lst l.toArray (m + 1) l.toArray.size (mkL l.toArray.size (m + 1)) := by
      refine ⟨by simp [mkL], fun i h => by rw [cD false (by simp; omega)]; simpa using h, fun i h1 h2 => by omega, fun j oj hj hl e he hbe => ?_⟩
      have hjs := (Array.getElem?_eq_some_iff.1 hj).1
      have hlt := dk.back j oj hj e he hbe
      rw [cD false hjs] at hl
      rw [cD false (by omega)]
      simp at hl ⊢
      omega
    have hcnt : ∀ n mm : Nat, mm ≤ n → unl (mkL n mm) = n - mm := by
      intro n mm hmm
      unfold unl mkL
      rw [Array.toList_map, Array.toList_range, List.countP_map]
      clear hmm
      induction n with
      | zero => simp
      | succ n ih =>
        rw [List.range_succ, List.countP_append, ih]
        simp only [List.countP_cons, List.countP_nil, Function.comp]
        by_cases e : n < mm
        · simp [e]; omega
        simp [e]; omega
    have := nR (P := P) (Q := k.post P) (g := 0) dk (lo := m + 1) (hi := l.toArray.size) (by simp; omega) (Nat.le_refl _) (by simp) (fun i hi => by simp) has2
      (fun listed hL i hr hge => by
        obtain ⟨_, oi, hoi, _⟩ := mem_ready.1 hr
        have := (Array.getElem?_eq_some_iff.1 hoi).1
        omega)
      (fun a w hi => ⟨?_, hn a w hi⟩) (l.length - (m + 1)) _ hL2 (by rw [hcnt _ _ (by simp; omega)]; simp) a w hst1
    · simpa using this
    cases hr : Region.ready .any l.toArray (mkL l.toArray.size l.toArray.size) with
    | nil => rfl
    | cons i r =>
      exfalso
      have hmem : i ∈ Region.ready .any l.toArray (mkL l.toArray.size l.toArray.size) := by rw [hr]; simp
      obtain ⟨hun, oi, hoi, _⟩ := mem_ready.1 hmem
      have := (Array.getElem?_eq_some_iff.1 hoi).1
      rw [cD true this] at hun
      simp at hun
      simp at this
      omega
  have hmid : ∀ a w, Inv cx (eD st cs1 (fun _ => true)) a w → wpAny P .any l.toArray (k.post P) (l.length - (m + 1) + 1) (mkL l.toArray.size m) a w := by
    intro a w hi
    have homs : l.toArray[m]? = some om := by simpa using hom
    have hLm : Lst l.toArray 0 m (mkL l.toArray.size m) := by
      refine ⟨by simp [mkL], fun i h => by omega, fun i h1 h2 => by rw [cD true h2]; simp; omega, fun j oj hj hl e he hbe => ?_⟩
      have hjs := (Array.getElem?_eq_some_iff.1 hj).1
      have hlt := dk.back j oj hj e he hbe
      rw [cD false hjs] at hl
      rw [cD false (by omega)]
      simp at hl ⊢
      omega
    refine ⟨fun hnil => ?_, fun i hr => ?_⟩
    · exfalso
      have : m ∈ Region.ready .any l.toArray (mkL l.toArray.size m) := by
        refine mem_ready.2 ⟨by rw [cD true (by simpa using hml)]; simp, om, homs, fun e he hbe => ?_⟩
        have hlt := dk.back m om homs e he hbe
        rw [cD false (by simp; omega)]
        simpa using hlt
      rw [hnil] at this
      cases this
    have him : i = m := by
      rcases Nat.lt_trichotomy i m with h | h | h
      · have hun := (mem_ready.1 hr).1
        rw [cD true (by simp; omega)] at hun
        simp at hun; omega
      · exact h
      exact absurd h (fun h => hbehind m _ (Nat.le_refl _) hLm i hr h)
    subst him
    have hset : (mkL l.toArray.size i).setIfInBounds i true = mkL l.toArray.size (i + 1) := by
      refine jQ (by simp [mkL]) fun j hj => ?_
      by_cases e : i = j
      · subst e
        have hj' : i < l.length := by simpa using hj
        simp [mkL, hj']
      rw [getD_set_ne false e, cD false hj]
      simp; omega
    rw [hset]
    unfold wpOp
    simp only [homs]
    rw [if_pos (by simp [Region.wanted, hg])]
    exact .inl (Oper.wp_mono hseg2 (hos a w hi _))
  have := nR (P := P) (Q := k.post P) (g := l.length - (m + 1) + 1) dk (lo := 0) (hi := m) (Nat.zero_le _) (by simp; omega) (by simp; omega) (fun i hi => by
      simp only [List.length_take] at hi
      rw [List.getElem?_take_of_lt (by omega)]; simp) has1
    (fun listed hL i hr hge => by
      have him : i = m := by
        rcases Nat.lt_or_ge m i with h | h
        · exact absurd h (fun h => hbehind m _ (Nat.le_refl _) hL i hr h)
        omega
      subst him
      obtain ⟨_, oi, hoi, hdeps⟩ := mem_ready.1 hr
      have hall : ∀ d j, i - j = d → j < i → listed.getD j false = true := by
        intro d
        induction d using Nat.strongRecOn with
        | _ d ihd =>
          intro j hd hj
          have h1 := hb1 j (List.mem_range.2 hj)
          obtain ⟨j', hj', hj2⟩ := List.any_eq_true.1 h1
          simp only [Bool.and_eq_true, decide_eq_true_eq] at hj2
          obtain ⟨oj, hoj, e, he, hbe, hon⟩ := Region.waitsFor_spec hj2.2
          have hle : j' ≤ i := by have := List.mem_range.1 hj'; omega
          by_cases hji : j' = i
          · subst hji
            rw [hoj] at hoi
            injection hoi with hoi
            subst hoi
            rw [← hon]; exact hdeps e he hbe
          have := ihd (i - j') (by omega) j' rfl (by omega)
          rw [← hon]; exact hL.closed j' oj hoj this e he hbe
      have he : listed = mkL l.toArray.size i := jQ hL.size fun j hj => by
        by_cases e : j < i
        · simp [e, hall (i - j) j rfl e]
        have hh := hL.high j (by omega) hj
        rw [dC (by rw [hL.size]; exact hj)] at hh
        simp [e, hh]
      have hcnt : ∀ n mm : Nat, unl (mkL n mm) = n - mm := by
        intro n mm
        unfold unl mkL
        rw [Array.toList_map, Array.toList_range, List.countP_map]
        induction n with
        | zero => simp
        | succ n ih =>
          rw [List.range_succ, List.countP_append, ih]
          simp only [List.countP_cons, List.countP_nil, Function.comp]
          by_cases e : n < mm
          · simp [e]; omega
          simp [e]; omega
      rw [he, hcnt])
    hmid m _ hL hu a w.drew hst0
  have e2 : l.toArray.size = m + (l.length - (m + 1) + 1) := by simp; omega
  rw [e2]
  rw [e2] at this
  exact this
end
end Go.Eng
namespace Go.Eng
section
variable {P : Program} {cx : Cx} {st st' : St} {β : Loc} {a : Act} {w w' : World} {ops : Array Oper} {k : Kn} {c : Code}
variable {dst : Option Tmp} {ty : TypeId} {pos : String} {aft : Array Edge} {gd : Option (Nat × Bool)}
theorem BW {α : Type} {rt : RT α} {d : α} {v : Value} (h : rt.raw d = some v) (w : World) (ok : Ok) : rt.val w ok v d := by
  have h1 := rt.exact' (w := w) (ok := ok) h
  exact ⟨[v], h1, by simp [(rt.exact_ h h1).2]⟩
inductive Rd {α : Type} (st : St) (x : Operand) (rt : RT α) (d : α) : Prop
  | tv (h : Ev st x (.tv rt d))
  | raw {v : Value} (h : Ev st x (.raw v)) (hv : rt.raw d = some v)
  | lit {v : Value} (h : Ev st x (.raw v)) (hv : ∀ w ok, rt.val w ok v d)
theorem Rd.val {α : Type} {x : Operand} {rt : RT α} {d : α} (h : Rd st x rt d) (hi : InvB cx st β a w) : rt.val w (bM cx st.heap β w) (a.eval x) d := by
  cases h with
  | tv h => exact hi.ev h
  | raw h hv => rw [hi.raw h]; exact BW hv _ _
  | lit h hv => rw [hi.raw h]; exact hv _ _
theorem Rd.tr {α : Type} {x : Operand} {rt : RT α} {d : α} (h : Rd st x rt d) (e : evS st' x = evS st x) : Rd st' x rt d := by
  cases h with
  | tv h => exact .tv (h.tr e)
  | raw h hv => exact .raw (h.tr e) hv
  | lit h hv => exact .lit (h.tr e) hv
theorem InvB.setRow (hi : InvB cx st β a w) {nm b o o' : Nat} {α α' : Type} {rt : RT α} [NM rt] {rt' : RT α'} [NM rt'] {xs : List α} {xs' : List α'} {cur cur' : Array Value} {e : TypeId} (hn : az st.heap nm = some ⟨rt, xs⟩) (hb : β nm = some (b, o)) (hc : w.heap[b]? = some (.cells cur e (0, 0)))
    (hs : cur'.size = cur.size) (hf : o' = o ∨ di nm st.slots = true) (hlen : o' + xs'.length * rt'.n ≤ cur'.size)
    (hx : ∀ i x, xs'[i]? = some x → ∃ cs, rt'.rep w (bM cx st.heap β w) cs x ∧ ∀ j v, cs[j]? = some v → cur'[o' + i * rt'.n + j]? = some v) :
    InvB cx ⟨st.slots, (nm, ⟨rt', xs'⟩) :: st.heap⟩ (fun k => if k = nm then some (b, o') else β k) a (w.setRow b cur') := by
  have hown := hi.own nm _ hn _ hb
  have hothers : ∀ k hb', az st.heap k = some hb' → k ≠ nm → ∀ x, β k = some x → x.1 ≠ b := fun k hb' hk hne x hx e1 => hne (hi.sep k nm _ _ hk hn x (b, o) hx hb e1)
  have hok : ∀ b', bM cx st.heap β w b' → bM cx ((nm, ⟨rt', xs'⟩) :: st.heap) (fun k => if k = nm then some (b, o') else β k) (w.setRow b cur') b' ∧ (w.setRow b cur').heap[b']? = w.heap[b']? := by
    rintro b' ⟨h1, h2, h3⟩
    have hne : b' ≠ b := fun e1 => h3 nm _ hn _ hb e1.symm
    refine ⟨⟨h1, by simpa using h2, fun k hb' hk x hx => ?_⟩, setRow_other _ _ _ _ hne⟩
    rw [aW] at hk
    by_cases e1 : k = nm
    · subst e1; simp at hx; subst hx; exact fun e2 => hne e2.symm
    rw [if_neg (Ne.symm e1)] at hk
    simp only [if_neg e1] at hx
    exact h3 k hb' hk x hx
  have hsame : ∀ (b1 : Nat) (cur1 : Array Value) (e1 : TypeId) (fr1 : Nat × Nat), w.heap[b1]? = some (Obj.cells cur1 e1 fr1) → ∃ (cur2 : Array Value) (e2 : TypeId) (fr2 : Nat × Nat), (w.setRow b cur').heap[b1]? = some (Obj.cells cur2 e2 fr2) ∧ cur2.size = cur1.size := by
    intro b1 cur1 e1 fr1 h1
    by_cases hbb : b1 = b
    · subst hbb
      rw [hc] at h1
      injection h1 with h1
      injection h1 with h1 _ _
      subst h1
      exact ⟨cur', _, _, setRow_heap _ _ _ _ _ _ hc, hs⟩
    exact ⟨cur1, e1, fr1, by rw [setRow_other _ _ _ _ hbb]; exact h1, rfl⟩
  refine ⟨⟨hi.below.os, hi.below.tape, hi.below.output, by simpa using hi.below.size, fun k hk hx => ?_, hi.below.drawn⟩, hi.old, hi.defers, hi.size, fun k hb' hk x hx => ?_, fun k k' h1 h2 hk hk' x y hx hy hxy => ?_, fun k hb' hk => ?_, fun i s hs' => ?_⟩
  · have h0 : k ≠ b := by
      rintro rfl
      rcases hown.1 with q | q
      · omega
      exact hx q
    rw [setRow_other _ _ _ _ h0]; exact hi.below.blockX k hk hx
  · by_cases e1 : k = nm
    · subst e1; simp at hx; subst hx; exact ⟨hown.1, by simpa using hown.2⟩
    rw [aW, if_neg (Ne.symm e1)] at hk
    simp only [if_neg e1] at hx
    have := hi.own k hb' hk x hx
    exact ⟨this.1, by simpa using this.2⟩
  · rw [aW] at hk hk'
    by_cases e1 : k = nm <;> by_cases e2 : k' = nm
    · rw [e1, e2]
    · subst e1
      rw [if_neg (Ne.symm e2)] at hk'
      simp at hx; subst hx
      simp only [if_neg e2] at hy
      exact absurd hxy.symm (hothers k' _ hk' e2 y hy)
    · subst e2
      rw [if_neg (Ne.symm e1)] at hk
      simp at hy; subst hy
      simp only [if_neg e1] at hx
      exact absurd hxy (hothers k _ hk e1 x hx)
    rw [if_neg (Ne.symm e1)] at hk
    rw [if_neg (Ne.symm e2)] at hk'
    simp only [if_neg e1] at hx
    simp only [if_neg e2] at hy
    exact hi.sep k k' _ _ hk hk' x y hx hy hxy
  · rw [aW] at hk
    by_cases e1 : k = nm
    · subst e1
      rw [if_pos rfl] at hk
      injection hk with hk; subst hk
      simp only [if_pos]
      exact ⟨fun _ => ⟨cur', e, setRow_heap _ _ _ _ _ _ hc, hlen, fun i x hix => let ⟨cs, h1, h2⟩ := hx i x hix; ⟨cs, rt'.keep hok h1, h2⟩⟩, fun hm => by rw [show rt'.mp = false from NM.no] at hm; cases hm⟩
    rw [if_neg (Ne.symm e1)] at hk
    simp only [if_neg e1]
    exact HB.keep hok (fun x hx => setRow_other _ _ _ _ (hothers k _ hk e1 x hx)) (hi.rows k hb' hk)
  obtain ⟨v, h1, h2⟩ := hi.slots i s hs'
  refine ⟨v, h1, SV.keep hok (fun k hk => ?_) h2⟩
  refine ⟨?_, fun b1 o1 _ cur1 e1 fr1 h3 => hsame b1 cur1 e1 fr1 h3⟩
  by_cases e1 : k = nm
  · subst e1
    simp only [if_pos]
    rcases hf with hf | hf
    · rw [hf, hb]
    have := ep hf hs'
    rw [this] at hk; cases hk
  simp only [if_neg e1]
theorem iZ {α : Type} {T : TypeId} {rt : RT α} {z : α} (h : TyZero P T rt z) (w : World) : ∃ v, (zeroValue T).run P w = .ok v w ∧ ∀ w ok, rt.val w ok v z := by
  obtain ⟨i, v, h1, h2, h3⟩ := h
  exact ⟨v, by simp [zeroValue, typeInfo, h1, h2], h3⟩
theorem row1 {α : Type} {rt : RT α} {ok : Ok} {v : Value} {d : α} (h : rt.val w ok v d) : [d].length * rt.n ≤ v.cells.size ∧ ∀ i x, [d][i]? = some x → ∃ c, rt.rep w ok c x ∧ ∀ j u, c[j]? = some u → v.cells[i * rt.n + j]? = some u := by
  have h1 := rt.val_cells h
  have hl := rt.len h1
  refine ⟨by simp at hl ⊢; omega, fun i x hx => ?_⟩
  cases i with
  | zero =>
    simp at hx; subst hx
    exact ⟨v.cells.toList, h1, fun j u hj => by simpa using hj⟩
  | succ i => simp at hx
theorem pY {α : Type} {T : TypeId} {rt : RT α} [NM rt] (z : α) {d : Nat} (hz : TyZero P T rt z) (hd : Nat.blt d cx.n = true) (hf : di d st.slots = true) (hn : az st.heap d = none) :
    OS P cx ⟨some d, .alloc T, ty, pos, aft, gd⟩ st ⟨(d, .optr d rt.n 0 0) :: st.slots, (d, ⟨rt, [z]⟩) :: st.heap⟩ := by
  rintro a w ⟨β, hi⟩ Q
  obtain ⟨v, hv, hval⟩ := iZ hz w
  have hrun : (execOp a.eval ⟨some d, .alloc T, ty, pos, aft, gd⟩).run P w = .ok (.value (.pointer (some ⟨w.heap.size, 0, none⟩))) (w.alloc (.cells v.cells T)) := by
    simp [execOp, Instr.alloc, hv, newVar, newRow]
  unfold Oper.wp
  rw [hrun, Oper.upon_value]
  obtain ⟨h1, h2⟩ := row1 (hval w (bM cx st.heap β w))
  have := hi.alloc (e := T) hf hn h1 h2
  exact ⟨_, this.put (by simpa using hd) ⟨w.heap.size, 0, by simp, by simp⟩⟩
theorem uM {α : Type} {T : TypeId} {rt : RT α} [NM rt] {x : Operand} {z : α} {d : Nat} (hx : Rd st x rt z) (hd : Nat.blt d cx.n = true) (hf : di d st.slots = true) (hn : az st.heap d = none) :
    OS P cx ⟨some d, .box T x, ty, pos, aft, gd⟩ st ⟨(d, .optr d rt.n 0 0) :: st.slots, (d, ⟨rt, [z]⟩) :: st.heap⟩ := by
  rintro a w ⟨β, hi⟩ Q
  have hval := hx.val hi
  have hrun : (execOp a.eval ⟨some d, .box T x, ty, pos, aft, gd⟩).run P w = .ok (.value (.pointer (some ⟨w.heap.size, 0, none⟩))) (w.alloc (.cells (a.eval x).cells T)) := by
    simp [execOp, Instr.box, newVar, newRow]
  unfold Oper.wp
  rw [hrun, Oper.upon_value]
  obtain ⟨h1, h2⟩ := row1 hval
  have := hi.alloc (e := T) hf hn h1 h2
  exact ⟨_, this.put (by simpa using hd) ⟨w.heap.size, 0, by simp, by simp⟩⟩
theorem lx : ∀ (vs : List Value) (j off : Nat) (cs : Array Value), off + j + vs.length ≤ cs.size →
    ((vs.zipIdx j).foldl (fun (cs : Array Value) (p : Value × Nat) => cs.setIfInBounds (off + p.2) p.1) cs) = (cs.toList.take (off + j) ++ vs ++ cs.toList.drop (off + j + vs.length)).toArray
  | [], j, off, cs, _ => by simp
  | v :: r, j, off, cs, h => by
    simp only [List.zipIdx_cons, List.foldl_cons]
    simp only [List.length_cons] at h
    rw [lx r (j + 1) off _ (by simp; omega)]
    congr 1
    have hlt : off + j < cs.toList.length := by simp; omega
    simp only [Array.toList_setIfInBounds]
    rw [List.set_eq_take_append_cons_drop, if_pos hlt]
    have e1 : (List.take (off + j) cs.toList).length = off + j := by simp; omega
    rw [show off + (j + 1) = off + j + 1 by omega]
    rw [List.take_append, List.take_of_length_le (l := List.take (off + j) cs.toList) (by omega), e1, show off + j + 1 - (off + j) = 1 by omega]
    rw [List.drop_append, List.drop_of_length_le (l := List.take (off + j) cs.toList) (by omega), e1, show off + j + 1 + r.length - (off + j) = r.length + 1 by omega]
    simp only [List.take_succ_cons, List.take_zero, List.drop_succ_cons, List.nil_append, List.drop_drop, List.length_cons]
    rw [show off + j + 1 + r.length = off + j + (r.length + 1) by omega]
    simp
def jn (P : Program) (t : TypeId) : Option (List (Nat × Nat)) :=
  match P.underlying t with
  | some (.struct fields) => fields.toList.mapM (fun f => (P.info? f.type).map fun i => (f.offset, i.size))
  | _ => none
inductive BuildRd {α : Type} (st : St) (rt : RT α) (pl : List (Nat × Nat)) : List (Nat × Operand) → α → α → Prop
  | nil {d : α} : BuildRd st rt pl [] d d
  | cons {γ : Type} {rt' : RT γ} {get : α → γ} {set : α → γ → α} {i off : Nat} {x : Operand} {d d2 : α} {d' : γ} {r : List (Nat × Operand)} (hp : pl[i]? = some (off, rt'.n)) (hl : Lens rt off rt' get set) (hx : Rd st x rt' d') (hr : BuildRd st rt pl r (set d d') d2) :
      BuildRd st rt pl ((i, x) :: r) d d2
theorem BuildRd.fill {α : Type} {rt : RT α} {pl : List (Nat × Nat)} : ∀ {ps : List (Nat × Operand)} {d d2 : α}, BuildRd st rt pl ps d d2 → (∀ x ∈ ps.map (·.2), evS st' x = evS st x) → InvB cx st' β a w → ∀ cells : Array Value, rt.rep w (bM cx st'.heap β w) cells.toList d →
    ∃ cells', Instr.fill (pl.toArray[·]?) cells (ps.map fun p => (p.1, a.eval p.2)) = some cells' ∧ rt.rep w (bM cx st'.heap β w) cells'.toList d2
  | _, _, _, .nil, _, _, cells, h => ⟨cells, rfl, h⟩
  | _, _, _, .cons (rt' := rt') (i := i) (off := off) (x := x) hp hl hx hr, hag, hi, cells, h => by
    have hv := (hx.tr (hag x (by simp))).val hi
    have hc := rt'.val_cells hv
    have hlen := rt'.len hc
    have hlen' : (a.eval x).cells.size = rt'.n := by simpa using hlen
    have hl0 := rt.len h
    have hfit := hl.fits
    have hset := hl.set_ h hc
    obtain ⟨cells', h1, h2⟩ := hr.fill (fun y hy => hag y (by simp only [List.map_cons, List.mem_cons]; exact .inr hy)) hi (cells.toList.take off ++ (a.eval x).cells.toList ++ cells.toList.drop (off + rt'.n)).toArray (by simpa using hset)
    refine ⟨cells', ?_, h2⟩
    simp only [List.map_cons, Instr.fill]
    have hp' : pl.toArray[i]? = some (off, rt'.n) := by simpa using hp
    rw [hp']
    have hcs : cells.size = rt.n := by simpa using hl0
    have hn : ¬ ((a.eval x).cells.size ≠ rt'.n ∨ off + (a.eval x).cells.size > cells.size) := by omega
    have hnb : (decide ((a.eval x).cells.size ≠ rt'.n) || decide (off + (a.eval x).cells.size > cells.size)) = false := by simp; omega
    have hfold := lx (a.eval x).cells.toList 0 off cells (by simp; omega)
    simp only [Nat.add_zero, Array.length_toList, hlen'] at hfold
    rw [← h1]
    simp only []
    rw [if_neg (by simpa using hn)]
    congr 1
    rw [← hfold]
    rw [← Array.foldl_toList, Array.toList_zipIdx]
theorem aI {α : Type} {T : TypeId} {rt : RT α} {z d : α} {pl : List (Nat × Nat)} {ps : List (Nat × Operand)} (hz : TyZero P T rt z) (hag : rt.agg = true) (hp : jn P T = some pl) (hb : BuildRd st rt pl ps z d) :
    Adr P cx st ⟨dst, .build T ps.toArray, ty, pos, aft, gd⟩ (.tv rt d) :=
  bD fun st' hag' β a w hi => by
    obtain ⟨v, hv, hval⟩ := iZ hz w
    obtain ⟨cells, h1, h2⟩ := hb.fill (st' := st') (fun x hx => hag'.ops x (by simpa [Op.operands] using hx)) hi v.cells (rt.val_cells (hval _ _))
    refine ⟨.agg cells, ?_, cells.toList, h2, by simp [hag]⟩
    unfold jn at hp
    split at hp
    · rename_i fields hu
      have hr := run_places (P := P) w fields.toList pl hp
      have h1' : Instr.fill (fun x => pl[x]?) v.cells (ps.map fun p => (p.1, a.eval p.2)) = some cells := by simpa using h1
      simp [execOp, Instr.build, run_underlying hu, hv, Array.mapM_eq_mapM_toList, hr, h1']
    cases hp
inductive RowRd {α : Type} (st : St) (rt : RT α) : Nat → List (Nat × Operand) → List α → Prop
  | nil {i : Nat} : RowRd st rt i [] []
  | cons {i : Nat} {x : Operand} {d : α} {r : List (Nat × Operand)} {ds : List α} (hx : Rd st x rt d) (hr : RowRd st rt (i + 1) r ds) : RowRd st rt i ((i, x) :: r) (d :: ds)
theorem RowRd.len {α : Type} {rt : RT α} : ∀ {i : Nat} {ps : List (Nat × Operand)} {ds : List α}, RowRd st rt i ps ds → ds.length = ps.length
  | _, _, _, .nil => rfl
  | _, _, _, .cons _ hr => by simp [hr.len]
theorem RowRd.fill {α : Type} {rt : RT α} : ∀ {i : Nat} {ps : List (Nat × Operand)} {ds : List α}, RowRd st rt i ps ds → (∀ x ∈ ps.map (·.2), evS st' x = evS st x) → InvB cx st' β a w → ∀ cells : Array Value, cells.size = (i + ps.length) * rt.n →
    ∃ cells' : Array Value, Instr.fill (fun i => some (i * rt.n, rt.n)) cells (ps.map fun p => (p.1, a.eval p.2)) = some cells' ∧ cells'.size = (i + ps.length) * rt.n ∧ (∀ j, j < i * rt.n → cells'[j]? = cells[j]?) ∧
      ∀ k d, ds[k]? = some d → ∃ cs, rt.rep w (bM cx st'.heap β w) cs d ∧ ∀ j u, cs[j]? = some u → cells'[(i + k) * rt.n + j]? = some u
  | _, _, _, .nil, _, _, cells, hs => ⟨cells, rfl, by simpa using hs, fun _ _ => rfl, fun k d h => by simp at h⟩
  | i, _, _, .cons (x := x) (d := d) (r := r) (ds := ds) hx hr, hag, hi, cells, hs => by
    have hv := (hx.tr (hag x (by simp))).val hi
    have hc := rt.val_cells hv
    have hlen := rt.len hc
    have hlen' : (a.eval x).cells.size = rt.n := by simpa using hlen
    simp only [List.length_cons] at hs
    have hle : (i + 1) * rt.n ≤ cells.size := by rw [hs]; exact Nat.mul_le_mul_right _ (by omega)
    have hsucc : (i + 1) * rt.n = i * rt.n + rt.n := Nat.succ_mul _ _
    have hfold := lx (a.eval x).cells.toList 0 (i * rt.n) cells (by simp only [Array.length_toList, hlen']; omega)
    simp only [Nat.add_zero, Array.length_toList, hlen'] at hfold
    obtain ⟨cells', h1, h2, h3, h4⟩ := hr.fill (fun y hy => hag y (by simp only [List.map_cons, List.mem_cons]; exact .inr hy)) hi (cells.toList.take (i * rt.n) ++ (a.eval x).cells.toList ++ cells.toList.drop (i * rt.n + rt.n)).toArray (by
      simp only [List.size_toArray, List.length_append, List.length_take, List.length_drop, Array.length_toList, hlen']
      rw [show i + 1 + r.length = i + (r.length + 1) by omega, ← hs]; omega)
    refine ⟨cells', ?_, by rw [h2]; simp only [List.length_cons]; congr 1; omega, fun j hj => ?_, fun k d' hk => ?_⟩
    · simp only [List.map_cons, Instr.fill]
      have hn : ¬ ((a.eval x).cells.size ≠ rt.n ∨ i * rt.n + (a.eval x).cells.size > cells.size) := by omega
      rw [if_neg (by simpa using hn), ← h1]
      congr 1
      rw [← hfold, ← Array.foldl_toList, Array.toList_zipIdx]
    · rw [h3 j (by omega)]
      rw [List.getElem?_toArray, List.append_assoc, List.getElem?_append_left (by simp; omega), List.getElem?_take_of_lt hj]
      simp
    cases k with
    | zero =>
      simp at hk; subst hk
      refine ⟨_, hc, fun j u hj => ?_⟩
      have hjl : j < rt.n := by rw [← hlen]; exact (List.getElem?_eq_some_iff.1 hj).1
      rw [Nat.add_zero, h3 _ (by omega), List.getElem?_toArray, List.append_assoc, List.getElem?_append_right (by simp; omega)]
      simp only [List.length_take, Array.length_toList]
      rw [show i * rt.n + j - min (i * rt.n) cells.size = j by omega, List.getElem?_append_left (by simpa [hlen'] using hjl)]
      exact hj
    | succ k =>
      obtain ⟨cs, h5, h6⟩ := h4 k d' (by simpa using hk)
      exact ⟨cs, h5, fun j u hj => by rw [show i + (k + 1) = i + 1 + k by omega]; exact h6 j u hj⟩
theorem pO {α : Type} {T e : TypeId} {rt : RT α} {ps : List (Nat × Operand)} {ds : List α} {z : α} (ht : P.underlying T = some (.slice e)) (he : Ty P e rt) (hz : TyZero P e rt z) (hr : RowRd st rt 0 ps ds) (hag : ∀ x ∈ ps.map (·.2), evS st' x = evS st x) (hi : InvB cx st' β a w)
    (hb : ps.length * rt.n ≤ 16777216) : ∃ cells, (Instr.buildSlice T ps.length (ps.toArray.map fun p => (p.1, a.eval p.2))).run P w = .ok (.slice (some ⟨w.heap.size, 0, none⟩) ps.length ps.length) (w.alloc (.cells cells e)) ∧ cells.size = ps.length * rt.n ∧
      ∀ k d, ds[k]? = some d → ∃ cs, rt.rep w (bM cx st'.heap β w) cs d ∧ ∀ j u, cs[j]? = some u → cells[k * rt.n + j]? = some u := by
  obtain ⟨_, i0, hi0, hs0⟩ := he
  obtain ⟨v, hv, hval⟩ := iZ hz w
  have hb' : ¬ (16777216 < ps.length * rt.n) := by omega
  by_cases h0 : ps.length * rt.n = 0
  · obtain ⟨cells, h1, h2, _, h4⟩ := hr.fill hag hi #[] (by simp only [List.size_toArray, List.length_nil, Nat.zero_add]; exact h0.symm)
    simp only [Nat.zero_add] at h2 h4
    refine ⟨cells, ?_, h2, h4⟩
    simp [Instr.buildSlice, run_underlying ht, dM hi0, hs0, hb', h0, h1, newRow, Array.range_zero']
  obtain ⟨cells, h1, h2, _, h4⟩ := hr.fill hag hi ((Array.range (ps.length * rt.n)).map (v.cells[· % v.cells.size]!)) (by simp)
  simp only [Nat.zero_add] at h2 h4
  refine ⟨cells, ?_, h2, h4⟩
  simp [Instr.buildSlice, run_underlying ht, dM hi0, hs0, hb', h0, hv, h1, newRow]
theorem bq {α : Type} {T e : TypeId} {rt : RT α} {ps : List (Nat × Operand)} {ds : List α} {z : α} {n : Nat} (ht : P.underlying T = some (.slice e)) (he : Ty P e rt) (hz : TyZero P e rt z) (hn : ps.length = n) (hr : RowRd st rt 0 ps ds) (h1 : Nat.ble 1 rt.n = true) (hb : Nat.ble (n * rt.n) 16777216 = true) :
    Adr P cx st ⟨dst, .buildSlice T n ps.toArray, ty, pos, aft, gd⟩ (.tv (ab rt) ds) :=
  rD fun st' hag' β a w hi => by
    subst hn
    have hb' : ps.length * rt.n ≤ 16777216 := by simpa using hb
    obtain ⟨cells, h2, h3, h4⟩ := pO (P := P) ht he hz hr (fun x hx => hag'.ops x (by simpa [Op.operands] using hx)) hi hb'
    have hl := hr.len
    have hbel : Below w.heap.size w (w.alloc (.cells cells e)) := (Below.refl _ _).alloc (Nat.le_refl _) _
    have h1' : 1 ≤ rt.n := by simpa using h1
    have hpl : ps.length ≤ maxLen := by
      have : ps.length ≤ ps.length * rt.n := Nat.le_mul_of_pos_right _ h1'
      simp only [maxLen]; omega
    refine ⟨.slice (some ⟨w.heap.size, 0, none⟩) ps.length ps.length, w.alloc (.cells cells e), by
      change ((Instr.buildSlice T ps.length (ps.toArray.map fun p => (p.1, a.eval p.2))) >>= fun v => pure (Next.value v)).run P w = _
      rw [Sem.run_bind, h2]; rfl, hbel, [.slice (some ⟨w.heap.size, 0, none⟩) ps.length ps.length], ⟨some ⟨w.heap.size, 0, none⟩, ps.length, by rw [hl], by omega, hpl, fun hne => ⟨w.heap.size, 0, rfl, ?_, fun i x hx => ?_⟩⟩, by simp [ab]⟩
    · exact ⟨.inr (.inl hi.below.size), by simp, fun nm hb hh x hx e1 => by have := (hi.own nm hb hh x hx).2; omega⟩
    obtain ⟨cs, h5, h6⟩ := h4 i x hx
    refine ⟨cs, rt.keep (fun b hb => ⟨⟨hb.1, by simp; have := hb.2.1; omega, hb.2.2⟩, hbel.block b hb.2.1⟩) h5, fun j u hj => ?_⟩
    rw [World.cell?_alloc_new]
    simpa using h6 j u hj
end
end Go.Eng
namespace Go.Eng
section
variable {P : Program} {cx : Cx} {st st' : St} {β : Loc} {a : Act} {w w' : World} {ops : Array Oper} {k : Kn} {c : Code}
variable {dst : Option Tmp} {ty : TypeId} {pos : String} {aft : Array Edge} {gd : Option (Nat × Bool)}
theorem gX (hi : InvB cx st β a w) {nm b o : Nat} {α : Type} {rt : RT α} [NM rt] {xs : List α} (hn : az st.heap nm = some ⟨rt, xs⟩) (hb : β nm = some (b, o)) : eZ rt w (bM cx st.heap β w) b o xs := by
  have := hi.rows nm _ hn
  rw [hb] at this
  exact this.1 NM.no
theorem ao {nm sz i f : Nat} {x : Operand} {t : TypeId} {k off : Nat} (hf : fld P t k = some off) (hx : Ev st x (.optr nm sz i f)) :
    Adr P cx st ⟨dst, .fieldAddr t x k, ty, pos, aft, gd⟩ (.optr nm sz i (f + off)) :=
  bD fun st' hag β a w hi => by
    obtain ⟨b, o, h1, h2⟩ := hi.ev (hag.ev (by simp [Op.operands]) hx)
    exact ⟨.pointer (some ⟨b, o + i * sz + f + off, none⟩), by simp [execOp, h2, lg hf], b, o, h1, by simp [Nat.add_assoc]⟩
theorem bu {nm off n : Nat} {α : Type} {rt : RT α} [NM rt] {x ix : Operand} {t e : TypeId} {k : IntKind} {i : Int} {j : Nat} (ht : P.underlying t = some (.slice e)) (he : Ty P e rt)
    (hx : Ev st x (.own nm rt.n off n)) (hi' : Ev st ix (.raw (.int k i))) (hij : i = (j : Int)) (hj : j < n) : Adr P cx st ⟨dst, .indexAddr t x ix, ty, pos, aft, gd⟩ (.optr nm rt.n (off + j) 0) :=
  bD fun st' hag β a w hi => by
    have h1 := hi.ev (hag.ev (by simp [Op.operands]) hx)
    have h5 := hi.raw (hag.ev (by simp [Op.operands]) hi')
    obtain ⟨_, i0, hi0, hs⟩ := he
    simp only [SV.holds, hdr] at h1
    cases hb : β nm with
    | none => rw [hb] at h1; simp only at h1; omega
    | some y =>
      obtain ⟨b, o⟩ := y
      rw [hb] at h1
      obtain ⟨A, cap, h2, h3, h4, h6⟩ := h1
      rcases h6 with h6 | ⟨h6, _⟩
      · omega
      subst h6
      have hb2 : (0 : Int) ≤ i ∧ i < (n : Int) := by omega
      have hj : i.toNat = j := by omega
      refine ⟨.pointer (some ⟨b, o + off * rt.n + j * rt.n, none⟩), by simp [execOp, h2, h5, Instr.indexAt, asIntOf, run_underlying ht, hb2, dM hi0, hs, hj, Addr.add_lit], b, o, hb, ?_⟩
      simp [Nat.add_mul, Nat.add_assoc]
theorem pQ {α γ : Type} {rt : RT α} [NM rt] {rt' : RT γ} [NM rt'] {get : α → γ} {set : α → γ → α} {ok : Ok} {b o i f : Nat} {xs : List α} {x : α} (h : eZ rt w ok b o xs) (hx : xs[i]? = some x) (hl : Lens rt f rt' get set) :
    ∃ cs, rt'.rep w ok cs (get x) ∧ CellsAt w b (o + i * rt.n + f) cs := by
  obtain ⟨cur, e, h1, h2, h3⟩ := h
  obtain ⟨cs, h4, h5⟩ := h3 i x hx
  refine ⟨_, hl.get_ h4, ?_⟩
  have : CellsAt w b (o + i * rt.n) cs := fun j v hj => by
    have := h5 j v hj
    simp [World.cell?, h1, this]
  exact this.part f rt'.n
theorem aj {α γ : Type} {rt : RT α} [NM rt] {rt' : RT γ} [NM rt'] {get : α → γ} {set : α → γ → α} {nm i f : Nat} {xs : List α} {y : α} {x : Operand} {t : TypeId} (ht : Ty P t rt') (hx : Ev st x (.optr nm rt.n i f)) (hn : az st.heap nm = some ⟨rt, xs⟩) (hy : xs[i]? = some y) (hl : Lens rt f rt' get set) :
    Adr P cx st ⟨dst, .load t x, ty, pos, aft, gd⟩ (SV.of rt' (get y)) :=
  bD fun st' hag β a w hi => by
    obtain ⟨b, o, h1, h2⟩ := hi.ev (hag.ev (by simp [Op.operands]) hx)
    obtain ⟨cs, h3, h4⟩ := pQ (gX hi ((hag.look (by simp [Op.operands]) hx (by simp [SV.free])).trans hn) h1) hy hl
    obtain ⟨v, h5, h6⟩ := jq (P := P) ht h3 h4
    exact ⟨v, by simp [execOp, Instr.loadAt, h2, Instr.sureAddr, h5], lm h6⟩
theorem bK {α γ : Type} {rt : RT α} [NM rt] {rt' : RT γ} [NM rt'] {get : α → γ} {set : α → γ → α} {nm i f : Nat} {xs : List α} {y : α} {d : γ} {x v : Operand} {t : TypeId} (ht : Ty P t rt') (hx : Ev st x (.optr nm rt.n i f)) (hn : az st.heap nm = some ⟨rt, xs⟩) (hy : xs[i]? = some y) (hl : Lens rt f rt' get set) (hv : Rd st v rt' d) :
    OS P cx ⟨none, .store t x v, ty, pos, aft, gd⟩ st ⟨st.slots, (nm, ⟨rt, xs.set i (set y d)⟩) :: st.heap⟩ := by
  rintro a w ⟨β, hi⟩ Q
  obtain ⟨b, o, h1, h2⟩ := hi.ev hx
  obtain ⟨cur, e, h3, h4, h5⟩ := gX hi hn h1
  have hval := hv.val hi
  have hc := rt'.val_cells hval
  have hlen := rt'.len hc
  have hone := rt'.one hc
  obtain ⟨_, i0, hi0, hs⟩ := ht
  obtain ⟨cs, h6, h7⟩ := h5 i y hy
  have hcl := rt.len h6
  have hfit := hl.fits
  have hil : i < xs.length := (List.getElem?_eq_some_iff.1 hy).1
  have hle : o + i * rt.n + rt.n ≤ cur.size := by
    have : (i + 1) * rt.n ≤ xs.length * rt.n := Nat.mul_le_mul_right _ hil
    rw [Nat.succ_mul] at this; omega
  have hsz : (a.eval v).cells.size = rt'.n := by simpa using hlen
  have hst := run_storeCells_at P b (o + i * rt.n + f) e (a.eval v).cells.toList 0 cur w h3 (by rw [hlen]; omega) hone
  simp only [Nat.add_zero, hlen] at hst
  have hrun : (execOp a.eval ⟨none, .store t x v, ty, pos, aft, gd⟩).run P w = .ok .skip (w.setRow b (cur.toList.take (o + i * rt.n + f) ++ (a.eval v).cells.toList ++ cur.toList.drop (o + i * rt.n + f + rt'.n)).toArray) := by
    simp only [execOp, Instr.storeAt, h2, Instr.sureAddr, Sem.run_bind, Sem.run_pure, Result.andThen_ok, storeVar, dM hi0, hs]
    rw [if_neg (by simp [hsz])]
    rw [hst]
    rfl
  unfold Oper.wp
  rw [hrun, Oper.upon_skip]
  have hcurl : cur.toList.length = cur.size := by simp
  refine ⟨_, InvB.setRow hi hn h1 h3 (by simp [hlen]; omega) (.inl rfl) (by simp [hlen]; omega) (fun j z hz => ?_)⟩
  have hget : ∀ q, (cur.toList.take (o + i * rt.n + f) ++ (a.eval v).cells.toList ++ cur.toList.drop (o + i * rt.n + f + rt'.n)).toArray[q]? = if q < o + i * rt.n + f then cur[q]? else if q < o + i * rt.n + f + rt'.n then (a.eval v).cells.toList[q - (o + i * rt.n + f)]? else cur[q]? := by
    intro q
    rw [List.getElem?_toArray]
    have e1 : (cur.toList.take (o + i * rt.n + f)).length = o + i * rt.n + f := by simp; omega
    by_cases q1 : q < o + i * rt.n + f
    · rw [if_pos q1, List.append_assoc, List.getElem?_append_left (by omega), List.getElem?_take_of_lt q1]; simp
    rw [if_neg q1]
    by_cases q2 : q < o + i * rt.n + f + rt'.n
    · rw [if_pos q2, List.append_assoc, List.getElem?_append_right (by omega), e1, List.getElem?_append_left (by omega)]
    rw [if_neg q2, List.getElem?_append_right (by rw [List.length_append, e1, hlen]; omega), List.length_append, e1, hlen, List.getElem?_drop]
    rw [show o + i * rt.n + f + rt'.n + (q - (o + i * rt.n + f + rt'.n)) = q by omega]; simp
  by_cases hji : j = i
  · subst hji
    rw [List.getElem?_set_self hil] at hz
    injection hz with hz
    subst hz
    refine ⟨_, hl.set_ h6 hc, fun q u hq => ?_⟩
    rw [hget]
    have hql : q < rt.n := by
      have := (List.getElem?_eq_some_iff.1 hq).1
      simp only [List.length_append, List.length_take, List.length_drop, hlen, hcl] at this
      omega
    rw [List.append_assoc] at hq
    by_cases q1 : q < f
    · rw [if_pos (by omega)]
      rw [List.getElem?_append_left (by simp; omega), List.getElem?_take_of_lt q1] at hq
      exact h7 q u hq
    rw [if_neg (by omega)]
    rw [List.getElem?_append_right (by simp; omega)] at hq
    simp only [List.length_take, hcl, show min f rt.n = f by omega] at hq
    by_cases q2 : q < f + rt'.n
    · rw [if_pos (by omega)]
      rw [List.getElem?_append_left (by omega)] at hq
      rw [show o + j * rt.n + q - (o + j * rt.n + f) = q - f by omega]
      exact hq
    rw [if_neg (by omega)]
    rw [List.getElem?_append_right (by omega), hlen, List.getElem?_drop] at hq
    rw [show f + rt'.n + (q - f - rt'.n) = q by omega] at hq
    exact h7 q u hq
  rw [List.getElem?_set_ne (Ne.symm hji)] at hz
  obtain ⟨cs', h8, h9⟩ := h5 j z hz
  have hcl' := rt.len h8
  refine ⟨cs', h8, fun q u hq => ?_⟩
  have hql : q < rt.n := by rw [← hcl']; exact (List.getElem?_eq_some_iff.1 hq).1
  rw [hget]
  rcases Nat.lt_or_ge j i with h | h
  · have : (j + 1) * rt.n ≤ i * rt.n := Nat.mul_le_mul_right _ h
    rw [Nat.succ_mul] at this
    rw [if_pos (by omega)]
    exact h9 q u hq
  have : (i + 1) * rt.n ≤ j * rt.n := Nat.mul_le_mul_right _ (by omega)
  rw [Nat.succ_mul] at this
  rw [if_neg (by omega), if_neg (by omega)]
  exact h9 q u hq
theorem dL {α : Type} {T e : TypeId} {rt : RT α} [NM rt] {z : α} {x y : Operand} {kx ky : IntKind} {n : Nat} {d : Nat} (ht : P.underlying T = some (.slice e)) (he : Ty P e rt) (hz : TyZero P e rt z) (hn1 : Nat.ble 1 rt.n = true) {by_ : Nat} (hby : (P.info? e).map (·.bytes) = some by_)
    (hx : Ev st x (.raw (.int kx (n : Int)))) (hy : Ev st y (.raw (.int ky (n : Int)))) (hb : by_ * n ≤ 281474976710656) (h63 : n ≤ maxLen) (hd : Nat.blt d cx.n = true) (hf : di d st.slots = true) (hn : az st.heap d = none) :
    OS P cx ⟨some d, .makeSlice T x y, ty, pos, aft, gd⟩ st ⟨(d, .own d rt.n 0 n) :: st.slots, (d, ⟨rt, List.replicate n z⟩) :: st.heap⟩ := by
  rintro a w ⟨β, hi⟩ Q
  have h1 := hi.raw hx
  have h2 := hi.raw hy
  obtain ⟨_, i0, hi0, hs⟩ := he
  obtain ⟨i1, v, hi1, hv, hval⟩ := hz
  have e0 : i1 = i0 := by rw [hi0] at hi1; injection hi1 with h; exact h.symm
  subst e0
  have hby' : i1.bytes = by_ := by simpa [hi0] using hby
  have h63' : (n : Int) ≤ 9223372036854775807 := by have := h63; simp only [maxLen] at this; omega
  have hr := run_make (P := P) w T e i1 v ht hi0 hv kx ky n n (by omega) (Int.le_refl _) (by rw [hby', ← Int.natCast_mul]; omega) h63'
  simp only [Int.toNat_natCast, hs] at hr
  have hrun : (execOp a.eval ⟨some d, .makeSlice T x y, ty, pos, aft, gd⟩).run P w = .ok (.value (.slice (some ⟨w.heap.size, 0, none⟩) n n)) (w.alloc (.cells (madeCells v.cells (n * rt.n)) e)) := by
    simp [execOp, h1, h2, hr]
  unfold Oper.wp
  rw [hrun, Oper.upon_value]
  have hn1' : 1 ≤ rt.n := by simpa using hn1
  have hrep := rt.val_cells (hval w (bM cx st.heap β w))
  have hrl := rt.len hrep
  have hcs : v.cells.size = rt.n := by simpa using hrl
  have := hi.alloc (nm := d) (rt := rt) (xs := List.replicate n z) (cs := madeCells v.cells (n * rt.n)) (e := e) hf hn (by simp [size_madeCells]) (fun i x hix => by
    have hin : i < n := by have := (List.getElem?_eq_some_iff.1 hix).1; simpa using this
    have : x = z := by rw [List.getElem?_replicate] at hix; simp [hin] at hix; exact hix.symm
    subst this
    refine ⟨_, hrep, fun j u hj => ?_⟩
    have hjl : j < rt.n := by rw [← hrl]; exact (List.getElem?_eq_some_iff.1 hj).1
    have hlt : i * rt.n + j < n * rt.n := by
      have : (i + 1) * rt.n ≤ n * rt.n := Nat.mul_le_mul_right _ hin
      rw [Nat.succ_mul] at this; omega
    have hmod : (i * rt.n + j) % v.cells.size = j := by rw [hcs, Nat.mul_comm, Nat.mul_add_mod, Nat.mod_eq_of_lt hjl]
    have hj' : v.cells[j]? = some u := by simpa using hj
    have hjs : j < v.cells.size := by rw [hcs]; exact hjl
    simp only [madeCells, Array.getElem?_map, Array.getElem?_range, if_pos hlt, Option.map_some, hmod]
    rw [getElem!_pos v.cells j hjs]
    rw [Array.getElem?_eq_getElem hjs] at hj'
    exact hj')
  refine ⟨_, this.put (by simpa using hd) ?_⟩
  simp only [SV.holds, hdr, if_pos]
  exact ⟨_, n, rfl, Nat.le_refl _, h63, .inr ⟨by simp, _, _, _, heap_alloc_new w _, by simp [size_madeCells]⟩⟩
theorem Cg {nm i : Nat} {α : Type} (rt : RT α) [NM rt] (hs : a8 st.slots i = some (.raw (.slice none 0 0))) (hf : di nm st.slots = true) (hn : az st.heap nm = none) (hi : Inv cx st a w) :
    Inv cx ⟨(i, .own nm rt.n 0 0) :: st.slots, (nm, ⟨rt, []⟩) :: st.heap⟩ a w := by
  obtain ⟨β, hb⟩ := hi
  have hok : ∀ b, bM cx st.heap β w b → bM cx ((nm, ⟨rt, []⟩) :: st.heap) (fun k => if k = nm then none else β k) w b ∧ w.heap[b]? = w.heap[b]? := by
    rintro b ⟨h1, h2, h3⟩
    refine ⟨⟨h1, h2, fun k hb' hk x hx => ?_⟩, rfl⟩
    rw [aW] at hk
    by_cases e1 : k = nm
    · subst e1; simp at hx
    rw [if_neg (Ne.symm e1)] at hk
    simp only [if_neg e1] at hx
    exact h3 k hb' hk x hx
  refine ⟨fun k => if k = nm then none else β k, hb.below, hb.old, hb.defers, hb.size, fun k h hk x hx => ?_, fun k k' h h' hk hk' x y hx hy hxy => ?_, fun k h hk => ?_, fun j s hj => ?_⟩
  · by_cases e1 : k = nm
    · subst e1; simp at hx
    rw [aW, if_neg (Ne.symm e1)] at hk
    simp only [if_neg e1] at hx
    exact hb.own k h hk x hx
  · by_cases e1 : k = nm
    · subst e1; simp at hx
    by_cases e2 : k' = nm
    · subst e2; simp at hy
    rw [aW, if_neg (Ne.symm e1)] at hk
    rw [aW, if_neg (Ne.symm e2)] at hk'
    simp only [if_neg e1] at hx
    simp only [if_neg e2] at hy
    exact hb.sep k k' h h' hk hk' x y hx hy hxy
  · rw [aW] at hk
    by_cases e1 : k = nm
    · subst e1
      rw [if_pos rfl] at hk
      injection hk with hk; subst hk
      simp only [if_pos]; rfl
    rw [if_neg (Ne.symm e1)] at hk
    simp only [if_neg e1]
    exact HB.keep hok (fun _ _ => rfl) (hb.rows k h hk)
  simp only [aT] at hj
  split at hj
  · rename_i e1
    subst e1
    injection hj with hj; subst hj
    obtain ⟨v, h1, h2⟩ := hb.slots i _ hs
    exact ⟨v, h1, by simp only [SV.holds, hdr, if_pos]; exact ⟨h2, trivial⟩⟩
  obtain ⟨v, h1, h2⟩ := hb.slots j s hj
  have hfree := ep hf hj
  refine ⟨v, h1, SV.keep hok (fun k hk => ⟨?_, fun b o _ cur e fr hc => ⟨cur, e, fr, hc, rfl⟩⟩) h2⟩
  have hne : k ≠ nm := by rintro rfl; rw [hfree] at hk; cases hk
  simp [hne]
theorem eO (nm i : Nat) {α : Type} (rt : RT α) [NM rt] (hs : a8 st.slots i = some (.raw (.slice none 0 0))) (hf : di nm st.slots = true) (hn : az st.heap nm = none)
    (h : J P cx ⟨(i, .own nm rt.n 0 0) :: st.slots, (nm, ⟨rt, []⟩) :: st.heap⟩ c k) : J P cx st c k := fun a w hi => h a w (Cg rt hs hf hn hi)
theorem eJ (hi : InvB cx st β a w) {nm off n : Nat} {α : Type} {rt : RT α} [NM rt] {xs : List α} {v : Value} (hn : az st.heap nm = some ⟨rt, xs⟩) (hv : hdr β w nm rt.n off n v) (hle : off + n ≤ xs.length) {ok : Ok} (hok : ∀ b, bM cx st.heap β w b → ok b) (hbl : ∀ b o, β nm = some (b, o) → ok b) :
    (ab rt).val w ok v ((xs.drop off).take n) := by
  have hlen : ((xs.drop off).take n).length = n := by simp; omega
  unfold hdr at hv
  cases hb : β nm with
  | none =>
    rw [hb] at hv
    obtain ⟨rfl, rfl⟩ := hv
    simp only [List.take_zero]
    exact kz
  | some x =>
    obtain ⟨b, o⟩ := x
    rw [hb] at hv
    obtain ⟨A, cap, rfl, h2, h3, h4⟩ := hv
    refine ⟨[.slice A n cap], ⟨A, cap, by rw [hlen], by omega, h3, fun hne => ?_⟩, by simp [ab]⟩
    rcases h4 with h4 | ⟨h4, _⟩
    · exfalso; apply hne; apply List.eq_nil_of_length_eq_zero; omega
    obtain ⟨cur, e, h5, h6, h7⟩ := gX hi hn hb
    refine ⟨b, o + off * rt.n, h4, hbl b o hb, fun i x hix => ?_⟩
    have hin : i < n := by rw [← hlen]; exact (List.getElem?_eq_some_iff.1 hix).1
    rw [List.getElem?_take_of_lt hin, List.getElem?_drop] at hix
    obtain ⟨cs, h8, h9⟩ := h7 _ x hix
    refine ⟨cs, rt.keep (fun b hb => ⟨hok b hb, rfl⟩) h8, fun j u hj => ?_⟩
    have := h9 j u hj
    rw [show o + off * rt.n + i * rt.n + j = o + (off + i) * rt.n + j by rw [Nat.add_mul]; omega]
    simp [World.cell?, h5, this]
theorem j4 {nm i off n : Nat} {α : Type} {rt : RT α} [NM rt] {xs : List α} {hp : List (Nat × HB)} (hs : a8 st.slots i = some (.own nm rt.n off n)) (hn : az st.heap nm = some ⟨rt, xs⟩) (hle : off + n ≤ xs.length) (hsub : ∀ j s, az hp j = some s → az st.heap j = some s) (hno : az hp nm = none) (hi : Inv cx st a w) :
    Inv cx ⟨(i, .tv (ab rt) ((xs.drop off).take n)) :: st.slots, hp⟩ a w := by
  obtain ⟨β, hb⟩ := hi
  have hok : ∀ b, bM cx st.heap β w b → bM cx hp β w b := fun b ⟨h1, h2, h3⟩ => ⟨h1, h2, fun k h hk => h3 k h (hsub _ _ hk)⟩
  have hb' : InvB cx ⟨st.slots, hp⟩ β a w := by
    refine ⟨hb.below, hb.old, hb.defers, hb.size, fun nm x hx => hb.own nm x (hsub _ _ hx), fun nm nm' x y hx hy => hb.sep nm nm' x y (hsub _ _ hx) (hsub _ _ hy), fun nm x hx => HB.keep (fun b h => ⟨hok b h, rfl⟩) (fun _ _ => rfl) (hb.rows nm x (hsub _ _ hx)), fun i s hs => ?_⟩
    obtain ⟨v, h1, h2⟩ := hb.slots i s hs
    exact ⟨v, h1, SV.keep (fun b h => ⟨hok b h, rfl⟩) (fun nm _ => ⟨rfl, fun b o _ cur e fr hc => ⟨cur, e, fr, hc, rfl⟩⟩) h2⟩
  obtain ⟨v, h1, h2⟩ := hb.slots i _ hs
  refine ⟨β, hb'.below, hb'.old, hb'.defers, hb'.size, hb'.own, hb'.sep, hb'.rows, fun j s hj => ?_⟩
  simp only [aT] at hj
  split at hj
  · rename_i e1
    subst e1
    injection hj with hj; subst hj
    refine ⟨v, h1, eJ hb hn h2 hle hok (fun b o hbo => ?_)⟩
    have := hb.own nm _ hn _ hbo
    exact ⟨.inr this.1, this.2, fun k h hk x hx e1 => by
      have : k = nm := hb.sep k nm _ _ (hsub _ _ hk) hn x (b, o) hx hbo e1
      subst this
      rw [hno] at hk; cases hk⟩
  exact hb'.slots j s hj
theorem kH (nm i : Nat) {off n : Nat} {α : Type} {rt : RT α} [NM rt] {xs : List α} (hp : List (Nat × HB)) (hs : a8 st.slots i = some (.own nm rt.n off n)) (hn : az st.heap nm = some ⟨rt, xs⟩) (hle : off + n ≤ xs.length) (hsub : ∀ j s, az hp j = some s → az st.heap j = some s) (hno : az hp nm = none)
    (h : J P cx ⟨(i, .tv (ab rt) ((xs.drop off).take n)) :: st.slots, hp⟩ c k) : J P cx st c k := fun a w hi => h a w (j4 hs hn hle hsub hno hi)
theorem cY (nm i : Nat) {off n : Nat} {α : Type} {rt : RT α} [NM rt] {xs : List α} (hp : List (Nat × HB)) (hs : a8 st.slots i = some (.own nm rt.n off n)) (hn : az st.heap nm = some ⟨rt, xs⟩) (hle : off + n ≤ xs.length) (hsub : ∀ j s, az hp j = some s → az st.heap j = some s) (hno : az hp nm = none)
    (h : JR P cx ⟨(i, .tv (ab rt) ((xs.drop off).take n)) :: st.slots, hp⟩ k) : JR P cx st k := fun a w hi => h a w (j4 hs hn hle hsub hno hi)
theorem pq (nm i : Nat) {off n : Nat} {α : Type} {rt : RT α} [NM rt] {xs : List α} {l : List Oper} (hp : List (Nat × HB)) (hs : a8 st.slots i = some (.own nm rt.n off n)) (hn : az st.heap nm = some ⟨rt, xs⟩) (hle : off + n ≤ xs.length) (hsub : ∀ j s, az hp j = some s → az st.heap j = some s) (hno : az hp nm = none)
    (h : JG P cx ops ⟨(i, .tv (ab rt) ((xs.drop off).take n)) :: st.slots, hp⟩ l k) : JG P cx ops st l k := fun a w hi => h a w (j4 hs hn hle hsub hno hi)
theorem gh {α : Type} {rt : RT α} [NM rt] {x : Operand} {lo hi : Option Operand} {t e : TypeId} {xs : List α} {l h : Nat} (ht : P.underlying t = some (.slice e)) (he : Ty P e rt) (hx : Ev st x (.tv (ab rt) xs))
    (hlo : match lo with | none => l = 0 | some y => ∃ (k : IntKind) (i : Int), Ev st y (.raw (.int k i)) ∧ i = (l : Int)) (hhi : match hi with | none => h = xs.length | some y => ∃ (k : IntKind) (i : Int), Ev st y (.raw (.int k i)) ∧ i = (h : Int))
    (hlh : l ≤ h) (hle : h ≤ xs.length) : Adr P cx st ⟨dst, .slice t x lo hi none, ty, pos, aft, gd⟩ (.tv (ab rt) ((xs.take h).drop l)) :=
  bD fun st' hag β a w hiv => by
    obtain ⟨A, cap, h1, h2, h3, h4⟩ := la (hiv.ev (hag.ev (by simp [Op.operands]) hx))
    obtain ⟨_, i0, hi0, hs⟩ := he
    have hl : ((xs.take h).drop l).length = h - l := by simp; omega
    have hhc : (h : Int) ≤ (cap : Int) := by omega
    refine ⟨.slice (if cap = l then A else A.map (·.add (l * rt.n))) (h - l) (cap - l), ?_, [_], ⟨_, cap - l, by rw [hl], by omega, by omega, fun hne => ?_⟩, by simp [ab]; rfl⟩
    · have hlo' : ∀ m, (match lo.map a.eval with | some v => Instr.sliceBound v m (if (none : Option Value).isSome then .slice3C else .sliceB) | none => pure 0 : Sem Nat).run P w = .ok l w ∨ ¬ l ≤ m := by
        intro m
        by_cases hm : l ≤ m
        · left
          cases lo with
          | none => simp at hlo; simp [hlo]
          | some y =>
            obtain ⟨k, i, hy, hil⟩ := hlo
            have h5 := hiv.raw (hag.ev (by cases hi <;> simp [Op.operands]) hy)
            have hb : 0 ≤ i ∧ i ≤ (m : Int) := by omega
            have hn : i.toNat = l := by omega
            simp [h5, Instr.sliceBound, asIntOf, hb, hn]
        exact .inr hm
      have hbounds : (Instr.sliceBounds true xs.length cap (lo.map a.eval) (hi.map a.eval) none).run P w = .ok (l, h, cap) w := by
        cases hi with
        | none =>
          simp at hhi
          rcases hlo' xs.length with hl' | hl'
          · cases lo with
            | none => simp at hlo; simp [Instr.sliceBounds, hlo, hhi]
            | some y => simp at hl'; simp [Instr.sliceBounds, hl', hhi]
          omega
        | some y =>
          obtain ⟨k, i, hy, hih⟩ := hhi
          have h5 := hiv.raw (hag.ev (by cases lo <;> simp [Op.operands]) hy)
          have hb : 0 ≤ i ∧ i ≤ (cap : Int) := by omega
          have hn : i.toNat = h := by omega
          have hh' : (Instr.sliceBound (a.eval y) cap .sliceAcap).run P w = .ok h w := by simp [h5, Instr.sliceBound, asIntOf, hb, hn]
          rcases hlo' h with hl' | hl'
          · cases lo with
            | none => simp at hlo; simp [Instr.sliceBounds, hlo, hh']
            | some y => simp at hl'; simp [Instr.sliceBounds, hl', hh']
          omega
      simp [execOp, Instr.sliceAt, run_underlying ht, h1, Instr.slice, hbounds, dM hi0, hs]
    have hx0 : xs ≠ [] := by rintro rfl; simp at hne
    obtain ⟨b, o, rfl, hb, hc⟩ := h4 hx0
    have hlt : l < h := by
      rcases Nat.lt_or_ge l h with h' | h'
      · exact h'
      exfalso; apply hne; apply List.eq_nil_of_length_eq_zero; omega
    refine ⟨b, o + l * rt.n, by rw [if_neg (by omega)]; simp [Addr.add_lit], hb, fun i x hix => ?_⟩
    rw [List.getElem?_drop] at hix
    have hih : l + i < h := by
      have := (List.getElem?_eq_some_iff.1 hix).1
      simp at this; omega
    rw [List.getElem?_take_of_lt hih] at hix
    obtain ⟨cs, h5, h6⟩ := hc (l + i) x hix
    exact ⟨cs, h5, by rw [show o + l * rt.n + i * rt.n = o + (l + i) * rt.n by rw [Nat.add_mul]; omega]; exact h6⟩
end
end Go.Eng
