import Derived.Test.YthfhekohlmboiaaEngF
namespace Go.Eng

/-! ### a region that draws its order: each operation adds a slot, or sets a row, or both -/
section
variable {P : Program} {cx : Cx} {st st' : St} {β : Loc} {a : Act} {w w' : World} {ops : Array Oper} {o : Oper} {k : Kn}

/-- what an operation leaves: a slot, a row -/
abbrev Ef := Option (Nat × SV) × Option (Nat × HB)
def St.app (st : St) (e : Ef) : St := ⟨e.1.toList ++ st.slots, e.2.toList ++ st.heap⟩

structure AgrH (ops : Array Oper) (o : Oper) (R : List Nat) (st st' : St) : Prop where
  at_ : ∀ t ∈ o.looksAt ops, lookS st'.slots t = lookS st.slots t
  heap : ∀ nm ∈ R, lookH st'.heap nm = lookH st.heap nm

def GH (P : Program) (cx : Cx) (ops : Array Oper) (st : St) (o : Oper) (ef : Ef) (R N : List Nat) : Prop :=
  ∀ st', AgrH ops o R st st' → (∀ nm ∈ N, freeS nm st'.slots = true ∧ lookH st'.heap nm = none) → ∀ a w, Inv cx st' a w → ∀ Q,
    if Region.wanted o (yielded ops a.tmps) then o.wp P a w (fun a' w' => Inv cx (st'.app ef) a' w') Q else Inv cx (st'.app ef) (a.put o.dst undef) w

def SV.within (R : List Nat) : SV → Bool
  | .own k _ _ _ | .optr k _ _ _ | .mref k | .epown k _ _ _ => R.contains k
  | .both s _ => s.within R
  | .lnk s _ t => s.within R && t.within R
  | .fam s base _ ds => s.within R && (List.range ds.length).all (fun x => R.contains (x + base))
  | .gd _ s => s.within R
  | .tup2 a b => a.within R && b.within R
  | .tup3 a b c => a.within R && b.within R && c.within R
  | .tup4 a b c d => a.within R && b.within R && c.within R && d.within R
  | _ => true
theorem SV.within_mem {R : List Nat} {nm : Nat} : ∀ {s : SV}, s.within R = true → s.free nm = false → nm ∈ R
  | .own k _ _ _, h, hf | .optr k _ _ _, h, hf | .mref k, h, hf | .epown k _ _ _, h, hf => by
    simp only [SV.free, Bool.not_eq_false'] at hf
    have := Nat.eq_of_beq_eq_true hf
    subst this
    simpa [SV.within] using h
  | .both s _, h, hf => SV.within_mem (s := s) h hf
  | .lnk a _ b, h, hf => by
    simp only [SV.within, Bool.and_eq_true] at h
    simp only [SV.free, Bool.and_eq_false_iff] at hf
    rcases hf with hf | hf
    · exact SV.within_mem h.1 hf
    · exact SV.within_mem h.2 hf
  | .fam s base sz ds, h, hf => by
    simp only [SV.within, Bool.and_eq_true] at h
    simp only [SV.free, Bool.and_eq_false_iff] at hf
    rcases hf with hf | hf
    · exact SV.within_mem h.1 hf
    · rw [Bool.or_eq_false_iff] at hf
      obtain ⟨hf1, hf2⟩ := hf
      have hge : base ≤ nm := by
        rcases Nat.lt_or_ge nm base with g | g
        · rw [lt_blt g] at hf1; cases hf1
        · exact g
      have hlt : nm - base < ds.length := by
        rcases Nat.lt_or_ge (nm - base) ds.length with g | g
        · exact g
        · rw [List.getElem?_eq_none g] at hf2; cases hf2
      have := List.all_eq_true.1 h.2 (nm - base) (List.mem_range.2 hlt)
      rw [Nat.sub_add_cancel hge] at this
      simpa using this
  | .gd _ s, h, hf => SV.within_mem (s := s) h hf
  | .tup2 a b, h, hf => by
    simp only [SV.within, Bool.and_eq_true] at h
    simp only [SV.free, Bool.and_eq_false_iff] at hf
    rcases hf with hf | hf
    · exact SV.within_mem h.1 hf
    · exact SV.within_mem h.2 hf
  | .tup3 a b c, h, hf => by
    simp only [SV.within, Bool.and_eq_true] at h
    simp only [SV.free, Bool.and_eq_false_iff] at hf
    rcases hf with (hf | hf) | hf
    · exact SV.within_mem h.1.1 hf
    · exact SV.within_mem h.1.2 hf
    · exact SV.within_mem h.2 hf
  | .tup4 a b c d, h, hf => by
    simp only [SV.within, Bool.and_eq_true] at h
    simp only [SV.free, Bool.and_eq_false_iff] at hf
    rcases hf with ((hf | hf) | hf) | hf
    · exact SV.within_mem h.1.1.1 hf
    · exact SV.within_mem h.1.1.2 hf
    · exact SV.within_mem h.1.2 hf
    · exact SV.within_mem h.2 hf

def opsIn (st : St) (o : Oper) (R : List Nat) : Bool := o.op.operands.all fun x => match evS st x with | some s => s.within R | none => true

theorem gh_ga {d : Nat} {s : SV} (R : List Nat) (h : GA P cx ops st o d s) (hR : opsIn st o R = true) : GH P cx ops st o (some (d, s), none) R [] := by
  intro st' hag _ a w hi Q
  refine h st' ⟨hag.at_, fun x hx s nm he hf => hag.heap nm ?_⟩ a w hi Q
  have := Array.all_eq_true'.1 hR x hx
  rw [he] at this
  exact SV.within_mem this hf

theorem AgrH.evs {R : List Nat} (h : AgrH ops o R st st') {x : Operand} (hx : x ∈ o.op.operands) : evS st' x = evS st x := by
  cases x with
  | tmp t => exact h.at_ t (List.mem_append_left _ (List.mem_filterMap.2 ⟨.tmp t, by simpa using hx, rfl⟩))
  | _ => rfl
theorem AgrH.ev {R : List Nat} (h : AgrH ops o R st st') {x : Operand} {s : SV} (hx : x ∈ o.op.operands) (he : Ev st x s) : Ev st' x s := by
  exact he.tr (h.evs hx)

variable {ty : TypeId} {pos : String} {aft : Array Edge}
theorem gh_alloc {α : Type} {T : TypeId} {rt : RT α} [NM rt] (z : α) {d : Nat} (hz : TyZero P T rt z) (hd : Nat.blt d cx.n = true) :
    GH P cx ops st ⟨some d, .alloc T, ty, pos, aft, none⟩ (some (d, .optr d rt.n 0 0), some (d, ⟨rt, [z]⟩)) [d] [d] := by
  intro st' hag hN a w hi Q
  rw [if_pos (by simp [Region.wanted])]
  exact op_alloc z hz hd (hN d (by simp)).1 (hN d (by simp)).2 a w hi Q

theorem gh_box {α : Type} {T : TypeId} {rt : RT α} [NM rt] {x : Operand} {z : α} {d : Nat} (hx : Rd st x rt z) (hd : Nat.blt d cx.n = true) :
    GH P cx ops st ⟨some d, .box T x, ty, pos, aft, none⟩ (some (d, .optr d rt.n 0 0), some (d, ⟨rt, [z]⟩)) [d] [d] := by
  intro st' hag hN a w hi Q
  rw [if_pos (by simp [Region.wanted])]
  exact op_box (hx.tr (hag.evs (by simp [Op.operands]))) hd (hN d (by simp)).1 (hN d (by simp)).2 a w hi Q

theorem gh_store {α γ : Type} {rt : RT α} [NM rt] {rt' : RT γ} [NM rt'] {get : α → γ} {set : α → γ → α} {nm i f : Nat} {xs : List α} {y : α} {d : γ} {x v : Operand} {t : TypeId} (ht : Ty P t rt') (hx : Ev st x (.optr nm rt.n i f)) (hn : lookH st.heap nm = some ⟨rt, xs⟩) (hy : xs[i]? = some y) (hl : Lens rt f rt' get set) (hv : Rd st v rt' d) :
    GH P cx ops st ⟨none, .store t x v, ty, pos, aft, none⟩ (none, some (nm, ⟨rt, xs.set i (set y d)⟩)) [nm] [] := by
  intro st' hag _ a w hi Q
  rw [if_pos (by simp [Region.wanted])]
  exact op_ostore ht (hag.ev (by simp [Op.operands]) hx) ((hag.heap nm (by simp)).trans hn) hy hl (hv.tr (hag.evs (by simp [Op.operands]))) a w hi Q

/-! the state when some have run -/
def stE : St → List Ef → (Nat → Bool) → St
  | st, [], _ => st
  | st, c :: r, L => stE (bif L 0 then st.app c else st) r (fun i => L (i + 1))

def lookO {V : Type 1} : List (Option (Nat × V)) → (Nat → Bool) → Nat → Option V
  | [], _, _ => none
  | c :: r, L, t => match lookO r (fun i => L (i + 1)) t with
    | some s => some s
    | none => match c with | some (q, v) => if q = t ∧ L 0 = true then some v else none | none => none

theorem stE_slots : ∀ (cs : List Ef) (st : St) (L : Nat → Bool) (t : Nat), lookS (stE st cs L).slots t = (match lookO (cs.map (·.1)) L t with | some s => some s | none => lookS st.slots t)
  | [], _, _, _ => rfl
  | (c, e) :: r, st, L, t => by
    rw [stE, stE_slots r]
    simp only [List.map_cons, lookO]
    cases h : lookO (r.map (·.1)) (fun i => L (i + 1)) t with
    | some s => simp
    | none =>
      cases hL : L 0 with
      | false => cases c <;> simp
      | true =>
        cases c with
        | none => simp [St.app]
        | some c =>
          obtain ⟨q, v⟩ := c
          simp only [cond_true, St.app, Option.toList, List.cons_append, List.nil_append, lookS_cons, and_true]
          by_cases hq : q = t <;> simp [hq]
theorem stE_heap : ∀ (cs : List Ef) (st : St) (L : Nat → Bool) (t : Nat), lookH (stE st cs L).heap t = (match lookO (cs.map (·.2)) L t with | some s => some s | none => lookH st.heap t)
  | [], _, _, _ => rfl
  | (e, c) :: r, st, L, t => by
    rw [stE, stE_heap r]
    simp only [List.map_cons, lookO]
    cases h : lookO (r.map (·.2)) (fun i => L (i + 1)) t with
    | some s => simp
    | none =>
      cases hL : L 0 with
      | false => cases c <;> simp
      | true =>
        cases c with
        | none => simp [St.app]
        | some c =>
          obtain ⟨q, v⟩ := c
          simp only [cond_true, St.app, Option.toList, List.cons_append, List.nil_append, lookH_cons, and_true]
          by_cases hq : q = t <;> simp [hq]
theorem freeS_app {nm : Nat} : ∀ {l r : List (Nat × SV)}, freeS nm (l ++ r) = (freeS nm l && freeS nm r)
  | [], _ => by simp [freeS]
  | (_, s) :: l, r => by simp [freeS, freeS_app (l := l), Bool.and_assoc]
theorem stE_free {nm : Nat} : ∀ (cs : List Ef) (st : St) (L : Nat → Bool), freeS nm st.slots = true → (∀ j c q s, cs[j]? = some c → c.1 = some (q, s) → L j = true → s.free nm = true) → freeS nm (stE st cs L).slots = true
  | [], _, _, h, _ => h
  | (c, e) :: r, st, L, h, hc => by
    rw [stE]
    refine stE_free r _ _ ?_ (fun j c' q s hj he hl => hc (j + 1) c' q s (by simpa using hj) he hl)
    cases hL : L 0 with
    | false => exact h
    | true =>
      cases c with
      | none => exact h
      | some c => simp only [cond_true, St.app, Option.toList_some, freeS_app, freeS, Bool.and_true, Bool.and_eq_true]; exact ⟨hc 0 _ c.1 c.2 rfl rfl hL, h⟩

section
variable {V : Type 1}
theorem lookO_none : ∀ {cs : List (Option (Nat × V))} {L : Nat → Bool} {t : Nat}, (∀ j q v, cs[j]? = some (some (q, v)) → q = t → L j = false) → lookO cs L t = none
  | [], _, _, _ => rfl
  | c :: r, L, t, h => by
    simp only [lookO, lookO_none (cs := r) (L := fun i => L (i + 1)) (t := t) (fun j q v hj he => h (j + 1) q v (by simpa using hj) he)]
    cases c with
    | none => rfl
    | some c =>
      obtain ⟨q, v⟩ := c
      simp only []
      rw [if_neg]
      rintro ⟨e, hL⟩
      rw [h 0 q v rfl e] at hL; cases hL
theorem lookO_take : ∀ {cs : List (Option (Nat × V))} {L : Nat → Bool} {t i : Nat}, (∀ j q v, cs[j]? = some (some (q, v)) → q = t → (L j = true ↔ j < i)) → lookO cs L t = lookO (cs.take i) (fun _ => true) t
  | [], _, _, _, _ => by simp [lookO]
  | c :: r, L, t, 0, h => by
    rw [lookO_none fun j q v hj he => by
      have := h j q v hj he
      cases hL : L j with
      | false => rfl
      | true => have := this.1 hL; omega]
    rfl
  | c :: r, L, t, i + 1, h => by
    simp only [List.take_succ_cons, lookO, lookO_take (cs := r) (L := fun i => L (i + 1)) (t := t) (i := i) (fun j q v hj he => by have := h (j + 1) q v (by simpa using hj) he; rw [this]; omega)]
    cases h' : lookO (r.take i) (fun _ => true) t with
    | some s => rfl
    | none =>
      cases c with
      | none => rfl
      | some c =>
        obtain ⟨q, v⟩ := c
        by_cases e : q = t
        · have := h 0 q v rfl e
          simp [this.2 (by omega)]
        · simp [e]
theorem lookO_last : ∀ {cs : List (Option (Nat × V))} {L : Nat → Bool} {i q : Nat} {v : V}, cs[i]? = some (some (q, v)) → L i = true → (∀ j q' v', cs[j]? = some (some (q', v')) → q' = q → i < j → L j = false) → lookO cs L q = some v
  | [], _, _, _, _, h, _, _ => by simp at h
  | c0 :: r, L, 0, q, v, h, hL, hl => by
    simp at h; subst h
    simp [lookO, lookO_none (cs := r) (L := fun i => L (i + 1)) (t := q) (fun j q' v' hj he => hl (j + 1) q' v' (by simpa using hj) he (by omega)), hL]
  | c0 :: r, L, i + 1, q, v, h, hL, hl => by
    simp only [lookO, lookO_last (cs := r) (L := fun i => L (i + 1)) (i := i) (q := q) (v := v) (by simpa using h) hL (fun j q' v' hj he hij => hl (j + 1) q' v' (by simpa using hj) he (by omega))]
theorem lookO_other : ∀ {cs : List (Option (Nat × V))} {L L' : Nat → Bool} {t : Nat}, (∀ j q v, cs[j]? = some (some (q, v)) → q = t → L j = L' j) → lookO cs L t = lookO cs L' t
  | [], _, _, _, _ => rfl
  | c :: r, L, L', t, h => by
    simp only [lookO, lookO_other (cs := r) (L := fun i => L (i + 1)) (L' := fun i => L' (i + 1)) (t := t) (fun j q v hj he => h (j + 1) q v (by simpa using hj) he)]
    cases c with
    | none => rfl
    | some c =>
      obtain ⟨q, v⟩ := c
      by_cases e : q = t
      · rw [h 0 q v rfl e]
      · simp [e]
end

/-- the text's own order -/
inductive AE (P : Program) (cx : Cx) (ops : Array Oper) : St → List Oper → List Ef → List (List Nat) → List (List Nat) → Prop
  | nil {st : St} : AE P cx ops st [] [] [] []
  | cons {st : St} {o : Oper} {l : List Oper} {cs : List Ef} {Rs Ns : List (List Nat)} (ef : Ef) (R N : List Nat) (hd : o.dst = ef.1.map (·.1)) (h : GH P cx ops st o ef R N) (hr : AE P cx ops (st.app ef) l cs Rs Ns) : AE P cx ops st (o :: l) (ef :: cs) (R :: Rs) (N :: Ns)

theorem AE.at_ : ∀ {st : St} {l : List Oper} {cs : List Ef} {Rs Ns : List (List Nat)}, AE P cx ops st l cs Rs Ns → cs.length = l.length ∧ ∀ i o, l[i]? = some o → ∃ ef R N, cs[i]? = some ef ∧ Rs[i]? = some R ∧ Ns[i]? = some N ∧ o.dst = ef.1.map (·.1) ∧ GH P cx ops (stE st (cs.take i) (fun _ => true)) o ef R N
  | _, _, _, _, _, .nil => ⟨rfl, fun i o h => by simp at h⟩
  | _, _, _, _, _, .cons ef R N hd h hr => ⟨by simp [hr.at_.1], fun i o' hi => by
      cases i with
      | zero => simp at hi; subst hi; exact ⟨ef, R, N, rfl, rfl, rfl, hd, h⟩
      | succ i =>
        obtain ⟨ef', R', N', h1, h2, h3, h4, h5⟩ := hr.at_.2 i o' (by simpa using hi)
        exact ⟨ef', R', N', by simpa using h1, by simpa using h2, by simpa using h3, h4, by simpa [stE] using h5⟩⟩

/-- the checks on rows, by the kernel -/
def Ef.keeps (nm : Nat) (e : Ef) : Bool := (match e.1 with | some s => s.2.free nm | none => true) && (match e.2 with | some h => !(Nat.beq h.1 nm) | none => true)
def rowsB (ops : Array Oper) (st : St) (cs : List Ef) (Rs Ns : List (List Nat)) : Bool :=
  (List.range cs.length).all fun i =>
    (match cs[i]? with | some (_, some (nm, _)) => (Rs.getD i []).contains nm | _ => true) &&
    ((Ns.getD i []).all fun nm => freeS nm st.slots && (match lookH st.heap nm with | some _ => false | none => true)) &&
    (List.range cs.length).all fun j => Nat.beq i j ||
      ((match cs[j]? with | some (_, some (nm, _)) => !((Rs.getD i []).contains nm) || (if j < i then Region.waitsFor .any ops i j else Region.waitsFor .any ops j i) | _ => true) &&
      ((Ns.getD i []).all fun nm => (match cs[j]? with | some ef => Ef.keeps nm ef | none => true) || Region.waitsFor .any ops j i))

structure RowsOk (ops : Array Oper) (st : St) (cs : List Ef) (Rs Ns : List (List Nat)) : Prop where
  own : ∀ (i : Nat) (s : Option (Nat × SV)) (nm : Nat) (hb : HB) (R : List Nat), cs[i]? = some (s, some (nm, hb)) → Rs[i]? = some R → nm ∈ R
  new : ∀ (i : Nat) (N : List Nat) (nm : Nat), i < cs.length → Ns[i]? = some N → nm ∈ N → freeS nm st.slots = true ∧ lookH st.heap nm = none
  rows : ∀ (i j : Nat) (s : Option (Nat × SV)) (nm : Nat) (hb : HB) (R : List Nat), i < cs.length → i ≠ j → cs[j]? = some (s, some (nm, hb)) → Rs[i]? = some R → nm ∈ R → (j < i → Region.waitsFor .any ops i j = true) ∧ (i < j → Region.waitsFor .any ops j i = true)
  news : ∀ (i j : Nat) (N : List Nat) (nm : Nat) (ef : Ef), i < cs.length → i ≠ j → Ns[i]? = some N → nm ∈ N → cs[j]? = some ef → Ef.keeps nm ef = true ∨ Region.waitsFor .any ops j i = true

theorem rowsOk_of {cs : List Ef} {Rs Ns : List (List Nat)} (h : rowsB ops st cs Rs Ns = true) : RowsOk ops st cs Rs Ns := by
  unfold rowsB at h
  rw [List.all_eq_true] at h
  have h' : ∀ i, i < cs.length → _ := fun i hi => h i (List.mem_range.2 hi)
  simp only [Bool.and_eq_true] at h'
  have getD_of : ∀ {l : List (List Nat)} {i : Nat} {x : List Nat}, l[i]? = some x → l.getD i [] = x := by
    intro l i x hx; simp [hx]
  refine ⟨fun i s nm hb R hc hR => ?_, fun i N nm hi hN hm => ?_, fun i j s nm hb R hi hij hc hR hm => ?_, fun i j N nm ef hi hij hN hm hc => ?_⟩
  · have hi : i < cs.length := (List.getElem?_eq_some_iff.1 hc).1
    have := (h' i hi).1.1
    rw [hc, getD_of hR] at this
    simpa using this
  · have := (h' i hi).1.2
    rw [getD_of hN, List.all_eq_true] at this
    have := this nm hm
    rw [Bool.and_eq_true] at this
    refine ⟨this.1, ?_⟩
    cases hl : lookH st.heap nm with
    | none => rfl
    | some _ => rw [hl] at this; exact absurd this.2 (by simp)
  · have hj : j < cs.length := (List.getElem?_eq_some_iff.1 hc).1
    have := (h' i hi).2
    rw [List.all_eq_true] at this
    have := this j (List.mem_range.2 hj)
    rw [Bool.or_eq_true, Bool.and_eq_true] at this
    rcases this with h1 | h1
    · exact absurd (Nat.eq_of_beq_eq_true h1) hij
    · have h1 := h1.1
      rw [hc, getD_of hR] at h1
      simp only [Bool.or_eq_true, Bool.not_eq_true'] at h1
      rcases h1 with h1 | h1
      · exact absurd hm (by simpa using h1)
      · refine ⟨fun hlt => by rw [if_pos hlt] at h1; exact h1, fun hlt => by rw [if_neg (by omega)] at h1; exact h1⟩
  · have hj : j < cs.length := (List.getElem?_eq_some_iff.1 hc).1
    have := (h' i hi).2
    rw [List.all_eq_true] at this
    have := this j (List.mem_range.2 hj)
    rw [Bool.or_eq_true, Bool.and_eq_true] at this
    rcases this with h1 | h1
    · exact absurd (Nat.eq_of_beq_eq_true h1) hij
    · have h1 := h1.2
      rw [getD_of hN, List.all_eq_true] at h1
      have := h1 nm hm
      rw [hc] at this
      simpa using this

theorem waits_edge {i j : Nat} (h : Region.waitsFor .any ops j i = true) : ∃ oj, ops[j]? = some oj ∧ ∃ e ∈ oj.after, Region.binds .any e = true ∧ e.on = i := by
  obtain ⟨oj, hj, e, he, hb, hon⟩ := Region.waitsFor_spec h
  exact ⟨oj, hj, e, he, hb, hon⟩

theorem Ef.keeps_slot {nm q : Nat} {s : SV} {e : Option (Nat × HB)} (h : Ef.keeps nm (some (q, s), e) = true) : s.free nm = true := by
  simp only [Ef.keeps, Bool.and_eq_true] at h; exact h.1
theorem Ef.keeps_row {nm q : Nat} {hb : HB} {e : Option (Nat × SV)} (h : Ef.keeps nm (e, some (q, hb)) = true) : q ≠ nm := by
  simp only [Ef.keeps, Bool.and_eq_true, Bool.not_eq_true'] at h
  rintro rfl
  rw [show Nat.beq q q = true from Nat.beq_refl q] at h
  exact absurd h.2 (by simp)

/-- THE REGION, all of whose operations add a slot or set a row -/
theorem draw_all (dk : DrawOk ops) {Q : Exit → Act → World → Prop} {l : List Oper} {cs : List Ef} {Rs Ns : List (List Nat)} (hl : l.toArray = ops) (has : AE P cx ops st l cs Rs Ns) (rk : RowsOk ops st cs Rs Ns)
    (hK : ∀ a w, Inv cx (stE st cs (fun _ => true)) a w → Q .normal a w) :
    ∀ (f : Nat) (listed : Array Bool), Lst ops 0 ops.size listed → unl listed = f → ∀ a w, Inv cx (stE st cs (fun i => listed.getD i false)) a w → wpAny P .any ops Q f listed a w := by
  obtain ⟨hcl, hga⟩ := has.at_
  have hsz : l.length = ops.size := by rw [← hl]; simp
  have hat : ∀ i : Nat, l[i]? = ops[i]? := fun i => by rw [← hl]; simp
  have hidx : ∀ j c, cs[j]? = some c → ∃ oj, ops[j]? = some oj ∧ oj.dst = c.1.map (·.1) ∧ j < l.length := by
    intro j c hj
    have hjl : j < l.length := by rw [← hcl]; exact (List.getElem?_eq_some_iff.1 hj).1
    obtain ⟨ef, _, _, h1, _, _, h2, _⟩ := hga j l[j] (List.getElem?_eq_getElem hjl)
    rw [hj] at h1
    injection h1 with h1
    subst h1
    exact ⟨l[j], by rw [← hat j]; exact List.getElem?_eq_getElem hjl, h2, hjl⟩
  have mapS : ∀ {j q : Nat} {s : SV}, (cs.map (·.1))[j]? = some (some (q, s)) → ∃ e, cs[j]? = some (some (q, s), e) := by
    intro j q s h
    rw [List.getElem?_map] at h
    cases hc : cs[j]? with
    | none => rw [hc] at h; cases h
    | some c => rw [hc] at h; injection h with h; exact ⟨c.2, by rw [← h]⟩
  have mapH : ∀ {j q : Nat} {s : HB}, (cs.map (·.2))[j]? = some (some (q, s)) → ∃ e, cs[j]? = some (e, some (q, s)) := by
    intro j q s h
    rw [List.getElem?_map] at h
    cases hc : cs[j]? with
    | none => rw [hc] at h; cases h
    | some c => rw [hc] at h; injection h with h; exact ⟨c.1, by rw [← h]⟩
  intro f
  induction f with
  | zero =>
    intro listed hL hu a w hi'
    have he := unl_zero hL rfl (Nat.le_refl _) (by omega)
    subst he
    refine ⟨?_, hK a w ?_⟩
    · cases hr : Region.ready .any ops (mkL ops.size ops.size) with
      | nil => rfl
      | cons i r =>
        exfalso
        have hmem : i ∈ Region.ready .any ops (mkL ops.size ops.size) := by rw [hr]; simp
        obtain ⟨hun, oi, hoi, _⟩ := mem_ready.1 hmem
        have := (Array.getElem?_eq_some_iff.1 hoi).1
        rw [mkL_getD true this] at hun
        simp at hun
        omega
    · have hall : ∀ j c, cs[j]? = some c → (mkL ops.size ops.size).getD j false = true := by
        intro j c hj
        obtain ⟨_, _, _, hjl⟩ := hidx j c hj
        rw [mkL_getD false (by omega)]; simp; omega
      refine Sub.inv ⟨fun i s hs => ?_, fun i s hs => ?_⟩ hi'
      · rw [stE_slots] at hs ⊢
        rw [← hs]
        congr 1
        exact lookO_other fun j q v hj _ => by obtain ⟨e, hc⟩ := mapS hj; exact hall j _ hc
      · rw [stE_heap] at hs ⊢
        rw [← hs]
        congr 1
        exact lookO_other fun j q v hj _ => by obtain ⟨e, hc⟩ := mapH hj; exact hall j _ hc
  | succ f ih =>
    intro listed hL hu a w hi'
    have hready : ∀ i ∈ Region.ready .any ops listed, i < ops.size := by
      intro i hr
      obtain ⟨_, oi, hoi, _⟩ := mem_ready.1 hr
      exact (Array.getElem?_eq_some_iff.1 hoi).1
    refine ⟨fun hnil => ?_, fun i hr => ?_⟩
    · exfalso
      have hex : ∃ i, i < ops.size ∧ listed.getD i false = false := by
        rcases Classical.em (∃ i, i < ops.size ∧ listed.getD i false = false) with h | h
        · exact h
        · exfalso
          have : listed = mkL ops.size ops.size := eq_mkL hL.size fun i his => by
            simp only [his, decide_true]
            cases hl' : listed.getD i false with
            | true => rfl
            | false => exact absurd ⟨i, his, hl'⟩ h
          rw [this] at hu
          have hz : unl (mkL ops.size ops.size) = 0 := by
            unfold unl mkL
            rw [Array.toList_map, Array.toList_range, List.countP_map, List.countP_eq_zero]
            intro x hx
            have := List.mem_range.1 hx
            simp [this]
          omega
      obtain ⟨n0, ⟨h1, h2⟩, hmin⟩ := exists_least hex
      have : n0 ∈ Region.ready .any ops listed := by
        have hs : n0 < listed.size := by rw [hL.size]; exact h1
        refine mem_ready.2 ⟨by rw [getD_tf hs]; exact h2, ops[n0], Array.getElem?_eq_getElem h1, fun e he hb => ?_⟩
        have hlt := dk.back n0 _ (Array.getElem?_eq_getElem h1) e he hb
        cases hl' : listed.getD e.on false with
        | true => rfl
        | false =>
          have := hmin e.on ⟨by omega, hl'⟩
          omega
      rw [hnil] at this
      cases this
    · have hih := hready i hr
      obtain ⟨hun, oi, hoi, hdeps⟩ := mem_ready.1 hr
      have his : i < listed.size := by rw [hL.size]; exact hih
      have hunf : listed.getD i false = false := by rw [← getD_tf his]; exact hun
      have hli : l[i]? = some oi := by rw [hat i]; exact hoi
      obtain ⟨ef, R, N, hcs, hRs, hNs, hdst, hG⟩ := hga i oi hli
      have hicl : i < cs.length := (List.getElem?_eq_some_iff.1 hcs).1
      -- what waits for i has not run; what i waits for has run
      have hw1 : ∀ j : Nat, Region.waitsFor .any ops j i = true → listed.getD j false = false := by
        intro j hwj
        obtain ⟨oj, hoj, e, he, hb, hon⟩ := waits_edge hwj
        cases hlj : listed.getD j false with
        | false => rfl
        | true =>
          have := hL.closed j oj hoj hlj e he hb
          rw [hon, hunf] at this
          cases this
      have hw2 : ∀ j : Nat, Region.waitsFor .any ops i j = true → listed.getD j false = true := by
        intro j hwj
        obtain ⟨oi', hoi', e, he, hb, hon⟩ := waits_edge hwj
        rw [hoi] at hoi'
        injection hoi' with hoi'
        subst hoi'
        have := hdeps e he hb
        rwa [hon] at this
      -- which others write a slot that this one touches
      have hwr : ∀ (j q : Nat) (s : SV) (e : Option (Nat × HB)), cs[j]? = some (some (q, s), e) → j ≠ i → (q ∈ oi.looksAt ops ∨ oi.dst = some q) → (listed.getD j false = true ↔ j < i) := by
        intro j q s e0 hj hne hc
        obtain ⟨oj, hoj, hdj, hjl⟩ := hidx j _ hj
        have hdj : oj.dst = some q := hdj
        rcases Nat.lt_or_ge j i with h | h
        · have hap : oj.apart ops oi = false := by
            cases hb : oj.apart ops oi with
            | false => rfl
            | true =>
              obtain ⟨h1, h2, h3⟩ := Oper.apart_spec hb
              rcases hc with hc | hc
              · exact absurd hc (h1 q hdj)
              · exact absurd hc (h2 q hdj)
          obtain ⟨e, he, hb, hon⟩ := dk.order j i oj oi h hoj hoi hap
          have := hdeps e he hb
          rw [hon] at this
          simp [this, h]
        · have hgt : i < j := by omega
          have hap : oi.apart ops oj = false := by
            cases hb : oi.apart ops oj with
            | false => rfl
            | true =>
              obtain ⟨h1, h2, h3⟩ := Oper.apart_spec hb
              rcases hc with hc | hc
              · exact absurd hc (h3 q hdj)
              · exact absurd hdj (h2 q hc)
          obtain ⟨e, he, hb, hon⟩ := dk.order i j oi oj hgt hoi hoj hap
          cases hlj : listed.getD j false with
          | false => simp; omega
          | true =>
            have := hL.closed j oj hoj hlj e he hb
            rw [hon, hunf] at this
            cases this
      have hrow : ∀ (j : Nat) (s : Option (Nat × SV)) (nm : Nat) (hb : HB), cs[j]? = some (s, some (nm, hb)) → j ≠ i → nm ∈ R → (listed.getD j false = true ↔ j < i) := by
        intro j s nm hb hj hne hm
        obtain ⟨h1, h2⟩ := rk.rows i j s nm hb R hicl (by omega) hj hRs hm
        rcases Nat.lt_or_ge j i with h | h
        · simp [hw2 j (h1 h), h]
        · have := hw1 j (h2 (by omega)); simp [this]; omega
      have hagr : AgrH ops oi R (stE st (cs.take i) (fun _ => true)) (stE st cs (fun j => listed.getD j false)) := by
        refine ⟨fun t ht => ?_, fun nm hnm => ?_⟩
        · rw [stE_slots, stE_slots, List.map_take]
          congr 1
          refine lookO_take fun j q v hj he => ?_
          obtain ⟨e, hc⟩ := mapS hj
          by_cases hne : j = i
          · subst hne; rw [hunf]; simp
          · exact hwr j q v e hc hne (.inl (by rw [he]; exact ht))
        · rw [stE_heap, stE_heap, List.map_take]
          congr 1
          refine lookO_take fun j q v hj he => ?_
          obtain ⟨e, hc⟩ := mapH hj
          by_cases hne : j = i
          · subst hne; rw [hunf]; simp
          · exact hrow j e q v hc hne (by rw [he]; exact hnm)
      have hnew : ∀ nm ∈ N, freeS nm (stE st cs (fun j => listed.getD j false)).slots = true ∧ lookH (stE st cs (fun j => listed.getD j false)).heap nm = none := by
        intro nm hnm
        obtain ⟨h1, h2⟩ := rk.new i N nm hicl hNs hnm
        refine ⟨stE_free _ _ _ h1 fun j c q s hj he hlj => ?_, ?_⟩
        · have hne : i ≠ j := by rintro rfl; rw [hunf] at hlj; cases hlj
          rcases rk.news i j N nm c hicl hne hNs hnm hj with hk | hk
          · obtain ⟨c1, c2⟩ := c
            simp only at he
            subst he
            exact Ef.keeps_slot hk
          · rw [hw1 j hk] at hlj; cases hlj
        · rw [stE_heap, lookO_none, h2]
          intro j q v hj he
          obtain ⟨e, hc⟩ := mapH hj
          by_cases hne : i = j
          · subst hne; exact hunf
          · rcases rk.news i j N nm _ hicl hne hNs hnm hc with hk | hk
            · exact absurd he (Ef.keeps_row hk)
            · exact hw1 j hk
      have hstep := hG _ hagr hnew a w hi' (Q := Q)
      have hnext : ∀ a' w', Inv cx ((stE st cs (fun j => listed.getD j false)).app ef) a' w' → wpAny P .any ops Q f (listed.setIfInBounds i true) a' w' := by
        intro a' w' hi''
        refine ih _ (hL.set hr hih) (by have := unl_set his hunf; omega) a' w' ?_
        have hset : ∀ j, (listed.setIfInBounds i true).getD j false = if j = i then true else listed.getD j false := by
          intro j
          by_cases hne : j = i
          · subst hne
            rw [if_pos rfl]
            simp [his]
          · rw [if_neg hne, getD_set_ne false (by omega)]
        refine Sub.inv ⟨fun t s' hs => ?_, fun t s' hs => ?_⟩ hi''
        · rw [stE_slots] at hs
          have hoth : (∀ q v, ef.1 = some (q, v) → q ≠ t) → lookS (stE st cs (fun j => listed.getD j false)).slots t = some s' := fun hn => by
            rw [stE_slots, ← hs]
            congr 1
            refine lookO_other fun j q v hj he => ?_
            simp only [hset]
            rw [if_neg]
            rintro rfl
            obtain ⟨e, hc⟩ := mapS hj
            rw [hcs] at hc
            injection hc with hc
            exact hn q v (by rw [hc]) he
          rcases h1 : ef.1 with _ | ⟨d, s⟩
          · simp only [St.app, h1, Option.toList, List.nil_append]
            exact hoth (fun q v h => by rw [h1] at h; cases h)
          · simp only [St.app, h1, Option.toList, List.cons_append, List.nil_append, lookS_cons]
            by_cases e : d = t
            · subst e
              rw [if_pos rfl]
              have := lookO_last (cs := cs.map (·.1)) (L := fun j => (listed.setIfInBounds i true).getD j false) (i := i) (q := d) (v := s) (by rw [List.getElem?_map, hcs]; simp [h1]) (by simp only [hset]; simp) (fun j q' v' hj he hij => by
                obtain ⟨e', hc⟩ := mapS hj
                simp only [hset]
                rw [if_neg (by omega)]
                have := hwr j q' v' e' hc (by omega) (.inr (by rw [hdst, h1, he]; rfl))
                cases hlj : listed.getD j false with
                | false => rfl
                | true => have := this.1 hlj; omega)
              rw [this] at hs
              exact hs
            · rw [if_neg e]
              exact hoth (fun q v h => by rw [h1] at h; injection h with h; injection h with h _; subst h; exact e)
        · rw [stE_heap] at hs
          have hoth : (∀ q v, ef.2 = some (q, v) → q ≠ t) → lookH (stE st cs (fun j => listed.getD j false)).heap t = some s' := fun hn => by
            rw [stE_heap, ← hs]
            congr 1
            refine lookO_other fun j q v hj he => ?_
            simp only [hset]
            rw [if_neg]
            rintro rfl
            obtain ⟨e, hc⟩ := mapH hj
            rw [hcs] at hc
            injection hc with hc
            exact hn q v (by rw [hc]) he
          rcases h1 : ef.2 with _ | ⟨d, s⟩
          · simp only [St.app, h1, Option.toList, List.nil_append]
            exact hoth (fun q v h => by rw [h1] at h; cases h)
          · simp only [St.app, h1, Option.toList, List.cons_append, List.nil_append, lookH_cons]
            by_cases e : d = t
            · subst e
              rw [if_pos rfl]
              have hdR : d ∈ R := rk.own i ef.1 d s R (by rw [hcs, ← h1]) hRs
              have := lookO_last (cs := cs.map (·.2)) (L := fun j => (listed.setIfInBounds i true).getD j false) (i := i) (q := d) (v := s) (by rw [List.getElem?_map, hcs]; simp [h1]) (by simp only [hset]; simp) (fun j q' v' hj he hij => by
                obtain ⟨e', hc⟩ := mapH hj
                simp only [hset]
                rw [if_neg (by omega)]
                have := hrow j e' q' v' hc (by omega) (by rw [he]; exact hdR)
                cases hlj : listed.getD j false with
                | false => rfl
                | true => have := this.1 hlj; omega)
              rw [this] at hs
              exact hs
            · rw [if_neg e]
              exact hoth (fun q v h => by rw [h1] at h; injection h with h; injection h with h _; subst h; exact e)
      unfold wpOp
      simp only [hoi]
      split
      · rename_i hw
        rw [if_pos hw] at hstep
        exact .inl (Oper.wp_mono hnext hstep)
      · rename_i hw
        rw [if_neg hw] at hstep
        exact hnext _ _ hstep

theorem j_drawE {id : Nat} {l : List Oper} {cs : List Ef} {Rs Ns : List (List Nat)} (hm : P.follows .mixedOrders = true) (hB : drawB l.toArray = true) (has : AE P cx l.toArray st l cs Rs Ns) (hrw : rowsB l.toArray st cs Rs Ns = true)
    (hn : JN P cx (stE st cs (fun _ => true)) k) : J P cx st (.region id l.toArray true) k := by
  intro a w hi
  refine wp_region_any hm ?_
  obtain ⟨β, hb⟩ := hi
  have hi0 : Inv cx st a w.drew := ⟨β, hb.later (Below.drew' w)⟩
  have hst0 : Inv cx (stE st cs (fun i => (Array.replicate l.toArray.size false).getD i false)) a w.drew := by
    refine Sub.inv ⟨fun i s hs => ?_, fun i s hs => ?_⟩ hi0
    · rw [stE_slots, lookO_none (fun j _ _ _ _ => getD_replicate_false _ _)] at hs; simpa using hs
    · rw [stE_heap, lookO_none (fun j _ _ _ _ => getD_replicate_false _ _)] at hs; simpa using hs
  have hL : Lst l.toArray 0 l.toArray.size (Array.replicate l.toArray.size false) :=
    ⟨by simp, fun i h => by omega, fun i h1 h2 => by omega, fun j oj hj hl => by rw [getD_replicate_false] at hl; cases hl⟩
  exact draw_all (Q := k.post P) (drawOk_of hB) rfl has (rowsOk_of hrw) (fun a w hi => hn a w hi) l.toArray.size _ hL (unl_rep _) a w.drew hst0
end
end Go.Eng
