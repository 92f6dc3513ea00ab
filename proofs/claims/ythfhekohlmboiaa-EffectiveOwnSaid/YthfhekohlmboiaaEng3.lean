import Derived.Test.YthfhekohlmboiaaEng2
import Derived.Deep.LoopGhost
import Derived.StillTail
namespace Go.Eng

def evS (st : St) : Operand → Option SV
  | .tmp t => lookS st.slots t
  | .const v => some (.raw v)
  | .func f => some (.raw (.func (.func f) #[] #[]))
  | .global g => some (.raw (.pointer (some ⟨g, 0, none⟩)))

/-- the operand reads as s (under a guard that holds: what is known under it) -/
inductive Ev (st : St) (x : Operand) (s : SV) : Prop
  | base (h : evS st x = some s)
  | gd {c : Bool} (h : evS st x = some (.gd c s)) (hc : c = true)
  | b1 {u : Value} (h : evS st x = some (.both s u))
  | b2 {s' : SV} {u : Value} (h : evS st x = some (.both s' u)) (e : s = .raw u)
  | l1 {u : Value} {t : SV} (h : evS st x = some (.lnk s u t))
  | f1 {base sz : Nat} {ds : List (Option (Option Addr × Nat × Nat))} (h : evS st x = some (.fam s base sz ds))

section
variable {P : Program} {cx : Cx} {st st' : St} {β : Loc} {a : Act} {w w' : World} {ops : Array Oper} {o : Oper}

theorem InvB.evS (hi : InvB cx st β a w) {x : Operand} {s : SV} (h : Eng.evS st x = some s) : s.holds β w (okOf cx st.heap β w) (a.eval x) := by
  cases x with
  | tmp t =>
    obtain ⟨v, h1, h2⟩ := hi.slots t s h
    have : a.eval (.tmp t) = v := by simp [Act.eval, h1]
    rw [this]; exact h2
  | const v => simp only [Eng.evS] at h; injection h with h; subst h; rfl
  | func f => simp only [Eng.evS] at h; injection h with h; subst h; rfl
  | global g => simp only [Eng.evS] at h; injection h with h; subst h; rfl

theorem InvB.ev (hi : InvB cx st β a w) {x : Operand} {s : SV} (h : Ev st x s) : s.holds β w (okOf cx st.heap β w) (a.eval x) := by
  cases h with
  | base h => exact hi.evS h
  | gd h hc => exact (hi.evS h).1 hc
  | b1 h => exact (hi.evS h).1
  | b2 h e => subst e; exact (hi.evS h).2
  | l1 h => exact (hi.evS h).1
  | f1 h => exact (hi.evS h).1

theorem InvB.raw (hi : InvB cx st β a w) {x : Operand} {v : Value} (h : Ev st x (.raw v)) : a.eval x = v := hi.ev h

/-- two states that say the same of what an operation looks at -/
structure Agr (o : Oper) (st st' : St) : Prop where
  ops : ∀ x ∈ o.op.operands, evS st' x = evS st x
  heap : ∀ x ∈ o.op.operands, ∀ s nm, evS st x = some s → s.free nm = false → lookH st'.heap nm = lookH st.heap nm

theorem Agr.refl (o : Oper) (st : St) : Agr o st st := ⟨fun _ _ => rfl, fun _ _ _ _ _ _ => rfl⟩
theorem Agr.look (h : Agr o st st') {x : Operand} {s : SV} {nm : Nat} (hx : x ∈ o.op.operands) (he : Ev st x s) (hf : s.free nm = false) : lookH st'.heap nm = lookH st.heap nm := by
  cases he with
  | base e => exact h.heap x hx _ nm e hf
  | gd e hc => exact h.heap x hx _ nm e hf
  | b1 e => exact h.heap x hx _ nm e hf
  | b2 e hs => subst hs; cases hf
  | l1 e => exact h.heap x hx _ nm e (by simp [SV.free, hf])
  | f1 e => exact h.heap x hx _ nm e (by simp [SV.free, hf])
theorem Agr.ev (h : Agr o st st') {x : Operand} {s : SV} (hx : x ∈ o.op.operands) (he : Ev st x s) : Ev st' x s := by
  cases he with
  | base e => exact .base ((h.ops x hx).trans e)
  | gd e hc => exact .gd ((h.ops x hx).trans e) hc
  | b1 e => exact .b1 ((h.ops x hx).trans e)
  | b2 e hs => exact .b2 ((h.ops x hx).trans e) hs
  | l1 e => exact .l1 ((h.ops x hx).trans e)
  | f1 e => exact .f1 ((h.ops x hx).trans e)

/-- AN OPERATION THAT ADDS A SLOT, and turns nothing else that is known -/
def Adr (P : Program) (cx : Cx) (st : St) (o : Oper) (s : SV) : Prop :=
  ∀ st', Agr o st st' → ∀ d, o.dst = some d → d < cx.n → ∀ a w, Inv cx st' a w → ∀ Q, o.wp P a w (fun a' w' => Inv cx (st'.put d s) a' w') Q
/-- an operation that leads from one state to another -/
def OS (P : Program) (cx : Cx) (o : Oper) (st st' : St) : Prop :=
  ∀ a w, Inv cx st a w → ∀ Q, o.wp P a w (fun a' w' => Inv cx st' a' w') Q

/-- the run of an operation that yields a value and leaves the world -/
theorem adr_still {s : SV} (h : ∀ st', Agr o st st' → ∀ β a w, InvB cx st' β a w → ∃ v, (execOp a.eval o).run P w = .ok (.value v) w ∧ s.holds β w (okOf cx st'.heap β w) v) : Adr P cx st o s := by
  intro st' hag d hd hdn a w ⟨β, hi⟩ Q
  obtain ⟨v, h1, h2⟩ := h st' hag β a w hi
  unfold Oper.wp
  rw [h1, Oper.upon_value, hd]
  exact ⟨β, hi.put hdn h2⟩

/-- the run of an operation that yields a value and makes memory, or draws -/
theorem adr_later {s : SV} (h : ∀ st', Agr o st st' → ∀ β a w, InvB cx st' β a w → ∃ v w', (execOp a.eval o).run P w = .ok (.value v) w' ∧ Below w.heap.size w w' ∧ s.holds β w' (okOf cx st'.heap β w') v) : Adr P cx st o s := by
  intro st' hag d hd hdn a w ⟨β, hi⟩ Q
  obtain ⟨v, w', h1, h3, h2⟩ := h st' hag β a w hi
  unfold Oper.wp
  rw [h1, Oper.upon_value, hd]
  exact ⟨β, (hi.later h3).put hdn h2⟩

/-! ### code: what stands behind it, as a stack -/
inductive Kn
  | fin (fn : Func) (R : Ending → World → Prop)
  | seq (c : Code) (k : Kn)
  | blk (id : Nat) (k : Kn)
  | loop (I : Act → World → Prop) (k : Kn)

def Kn.post (P : Program) : Kn → Exit → Act → World → Prop
  | .fin fn R => bodyPost P fn R
  | .seq c k => Exit.then (c.wp P (k.post P)) (k.post P)
  | .blk id k => Exit.inBlock id (k.post P)
  | .loop I k => Exit.then I (k.post P)

def J (P : Program) (cx : Cx) (st : St) (c : Code) (k : Kn) : Prop := ∀ a w, Inv cx st a w → c.wp P (k.post P) a w
def JN (P : Program) (cx : Cx) (st : St) (k : Kn) : Prop := ∀ a w, Inv cx st a w → k.post P .normal a w
def JE (P : Program) (cx : Cx) (id : Nat) (st : St) (k : Kn) : Prop := ∀ a w, Inv cx st a w → k.post P (.exit id) a w
def JR (P : Program) (cx : Cx) (st : St) (k : Kn) : Prop := ∀ a w, Inv cx st a w → k.post P .ret a w

variable {c c' : Code} {k : Kn} {id id' : Nat} {I : Act → World → Prop}
theorem j_seq (h : J P cx st c (.seq c' k)) : J P cx st (.seq c c') k := fun a w hi => wp_seq (h a w hi)
theorem j_skip (h : JN P cx st k) : J P cx st .skip k := fun a w hi => wp_skip (h a w hi)
theorem j_ret (h : JR P cx st k) : J P cx st .ret k := fun a w hi => wp_ret (h a w hi)
theorem j_exit (h : JE P cx id st k) : J P cx st (.exit id) k := fun a w hi => wp_exit (h a w hi)
theorem j_block (h : J P cx st c (.blk id k)) : J P cx st (.block id c) k := fun a w hi => wp_block (h a w hi)

/-! ### a region, in the order of its text -/
def JG (P : Program) (cx : Cx) (ops : Array Oper) (st : St) (l : List Oper) (k : Kn) : Prop := ∀ a w, Inv cx st a w → wpList P ops (k.post P) l a w

theorem j_region {l : List Oper} (h : JG P cx l.toArray st l k) : J P cx st (.region id l.toArray false) k := fun a w hi => wp_region_lit (h a w hi)
theorem jg_nil (h : JN P cx st k) : JG P cx ops st [] k := h

theorem jg_adr {rest : List Oper} (s : SV) (hg : o.guard = none) (d : Nat) (hd : o.dst = some d) (hdn : Nat.blt d cx.n = true) (h : Adr P cx st o s) (hr : JG P cx ops (st.put d s) rest k) : JG P cx ops st (o :: rest) k := by
  intro a w hi
  refine wpList_plain hg fun K hK => ?_
  exact Oper.wp_mono (fun a' w' hi' => hK _ _ (hr a' w' hi')) (h st (.refl o st) d hd (by simpa using hdn) a w hi _)

theorem jg_os {rest : List Oper} (st1 : St) (hg : o.guard = none) (h : OS P cx o st st1) (hr : JG P cx ops st1 rest k) : JG P cx ops st (o :: rest) k := by
  intro a w hi
  refine wpList_plain hg fun K hK => ?_
  exact Oper.wp_mono (fun a' w' hi' => hK _ _ (hr a' w' hi')) (h a w hi _)

/-- an operation under a guard that is not decided: what it yields is known where the guard holds -/
theorem jg_gd {rest : List Oper} (s : SV) (j : Nat) (want c : Bool) (g d : Nat) (hg : o.guard = some (j, want)) (hj : (ops[j]?).bind (·.dst) = some g) (hc : lookS st.slots g = some (.raw (.bool c)))
    (hd : o.dst = some d) (hdn : Nat.blt d cx.n = true) (h : (c == want) = true → Adr P cx st o s) (hr : JG P cx ops (st.put d (.gd (c == want) s)) rest k) : JG P cx ops st (o :: rest) k := by
  intro a w hi
  have hdn' : d < cx.n := by simpa using hdn
  obtain ⟨β, hb⟩ := hi
  obtain ⟨v, h1, h2⟩ := hb.slots g _ hc
  have h2 : v = .bool c := h2
  subst h2
  have hw : Region.wanted o (yielded ops a.tmps) = (c == want) := by
    have : yielded ops a.tmps j = some c := by simp only [yielded, hj, Option.bind_some, h1]
    simp only [Region.wanted, hg, this]
    cases c <;> cases want <;> rfl
  refine wpList_step fun K hK => ?_
  cases hcw : (c == want) with
  | true =>
    rw [hw, hcw, if_pos rfl]
    refine Oper.wp_mono (fun a' w' hi' => hK _ _ (hr a' w' ?_)) (h hcw st (.refl o st) d hd hdn' a w ⟨β, hb⟩ _)
    obtain ⟨β', hb'⟩ := hi'
    obtain ⟨u, h3, h4⟩ := hb'.slots d s (by simp [St.put, lookS_cons])
    refine ⟨β', hb'.below, hb'.old, hb'.defers, hb'.size, hb'.own, hb'.sep, hb'.rows, fun i s' hs' => ?_⟩
    simp only [St.put, lookS_cons] at hs'
    split at hs'
    · rename_i e; subst e; injection hs' with hs'; subst hs'
      exact ⟨u, h3, fun _ => h4, fun h => by rw [hcw] at h; cases h⟩
    · rename_i e
      exact hb'.slots i s' (by simp [St.put, lookS_cons, e, hs'])
  | false =>
    rw [hw, hcw, if_neg (by simp)]
    refine hK _ _ (hr _ _ ⟨β, ?_⟩)
    rw [hd]
    exact hb.put hdn' ⟨(fun h => by rw [hcw] at h; cases h), fun _ => rfl⟩

/-- the same, where the guard itself stands under a guard -/
theorem jg_gd2 {rest : List Oper} (s : SV) (j : Nat) (want c c0 : Bool) (g d : Nat) (hg : o.guard = some (j, want)) (hj : (ops[j]?).bind (·.dst) = some g) (hc : lookS st.slots g = some (.gd c0 (.raw (.bool c))))
    (hd : o.dst = some d) (hdn : Nat.blt d cx.n = true) (h : (c0 && (c == want)) = true → Adr P cx st o s) (hr : JG P cx ops (st.put d (.gd (c0 && (c == want)) s)) rest k) : JG P cx ops st (o :: rest) k := by
  intro a w hi
  have hdn' : d < cx.n := by simpa using hdn
  obtain ⟨β, hb⟩ := hi
  obtain ⟨v, h1, h2, h2'⟩ := hb.slots g _ hc
  have hw : Region.wanted o (yielded ops a.tmps) = (c0 && (c == want)) := by
    cases c0 with
    | true =>
      have h2 : v = .bool c := h2 rfl
      subst h2
      have : yielded ops a.tmps j = some c := by simp only [yielded, hj, Option.bind_some, h1]
      simp only [Region.wanted, hg, this]
      cases c <;> cases want <;> rfl
    | false =>
      have h2 : v = undef := h2' rfl
      subst h2
      have : yielded ops a.tmps j = none := by simp only [yielded, hj, Option.bind_some, h1, undef]
      simp only [Region.wanted, hg, this]
      rfl
  refine wpList_step fun K hK => ?_
  cases hcw : (c0 && (c == want)) with
  | true =>
    rw [hw, hcw, if_pos rfl]
    refine Oper.wp_mono (fun a' w' hi' => hK _ _ (hr a' w' ?_)) (h hcw st (.refl o st) d hd hdn' a w ⟨β, hb⟩ _)
    obtain ⟨β', hb'⟩ := hi'
    obtain ⟨u, h3, h4⟩ := hb'.slots d s (by simp [St.put, lookS_cons])
    refine ⟨β', hb'.below, hb'.old, hb'.defers, hb'.size, hb'.own, hb'.sep, hb'.rows, fun i s' hs' => ?_⟩
    simp only [St.put, lookS_cons] at hs'
    split at hs'
    · rename_i e; subst e; injection hs' with hs'; subst hs'
      exact ⟨u, h3, fun _ => h4, fun h => by rw [hcw] at h; cases h⟩
    · rename_i e
      exact hb'.slots i s' (by simp [St.put, lookS_cons, e, hs'])
  | false =>
    rw [hw, hcw, if_neg (by simp)]
    refine hK _ _ (hr _ _ ⟨β, ?_⟩)
    rw [hd]
    exact hb.put hdn' ⟨(fun h => by rw [hcw] at h; cases h), fun _ => rfl⟩

/-- the same, the guard decided -/
theorem jg_gd_yes {rest : List Oper} (s : SV) (j : Nat) (want : Bool) (g d : Nat) (hg : o.guard = some (j, want)) (hj : (ops[j]?).bind (·.dst) = some g) (hc : lookS st.slots g = some (.raw (.bool want)))
    (hd : o.dst = some d) (hdn : Nat.blt d cx.n = true) (h : Adr P cx st o s) (hr : JG P cx ops (st.put d s) rest k) : JG P cx ops st (o :: rest) k := by
  rintro a w ⟨β, hb⟩
  obtain ⟨v, h1, h2⟩ := hb.slots g _ hc
  have h2 : v = .bool want := h2
  subst h2
  have hw : Region.wanted o (yielded ops a.tmps) = true := by
    have : yielded ops a.tmps j = some want := by simp only [yielded, hj, Option.bind_some, h1]
    simp only [Region.wanted, hg, this]
    cases want <;> rfl
  refine wpList_step fun K hK => ?_
  rw [if_pos hw]
  exact Oper.wp_mono (fun a' w' hi' => hK _ _ (hr a' w' hi')) (h st (.refl o st) d hd (by simpa using hdn) a w ⟨β, hb⟩ _)
theorem jg_gd_no {rest : List Oper} (j : Nat) (want c : Bool) (g d : Nat) (hg : o.guard = some (j, want)) (hj : (ops[j]?).bind (·.dst) = some g) (hc : lookS st.slots g = some (.raw (.bool c))) (hcw : (c == want) = false)
    (hd : o.dst = some d) (hdn : Nat.blt d cx.n = true) (hr : JG P cx ops (st.put d (.raw undef)) rest k) : JG P cx ops st (o :: rest) k := by
  rintro a w ⟨β, hb⟩
  obtain ⟨v, h1, h2⟩ := hb.slots g _ hc
  have h2 : v = .bool c := h2
  subst h2
  have hw : ¬ Region.wanted o (yielded ops a.tmps) = true := by
    have : yielded ops a.tmps j = some c := by simp only [yielded, hj, Option.bind_some, h1]
    simp only [Region.wanted, hg, this]
    cases want <;> cases c <;> simp at hcw ⊢
  refine wpList_step fun K hK => ?_
  rw [if_neg hw, hd]
  exact hK _ _ (hr _ _ ⟨β, hb.put (by simpa using hdn) rfl⟩)

theorem j_cond {x : Operand} {t e : Code} {b : Bool} (hx : evS st x = some (.raw (.bool b))) (ht : b = true → J P cx st t k) (he : b = false → J P cx st e k) : J P cx st (.cond x t e) k := by
  rintro a w ⟨β, hi⟩
  have hv : a.eval x = .bool b := hi.raw (.base hx)
  exact wp_cond_split hv (fun hb => ht hb a w ⟨β, hi⟩) (fun hb => he hb a w ⟨β, hi⟩)
theorem j_cond_t {x : Operand} {t e : Code} {b : Bool} (hx : evS st x = some (.raw (.bool b))) (hb : b = true) (ht : J P cx st t k) : J P cx st (.cond x t e) k :=
  j_cond hx (fun _ => ht) (fun h => by rw [hb] at h; cases h)
theorem j_cond_f {x : Operand} {t e : Code} {b : Bool} (hx : evS st x = some (.raw (.bool b))) (hb : b = false) (he : J P cx st e k) : J P cx st (.cond x t e) k :=
  j_cond hx (fun h => by rw [hb] at h; cases h) (fun _ => he)
theorem jn_seq (h : J P cx st c k) : JN P cx st (.seq c k) := fun a w hi => h a w hi
theorem jn_blk (h : JN P cx st k) : JN P cx st (.blk id k) := fun a w hi => h a w hi
theorem jn_loop (h : ∀ a w, Inv cx st a w → I a w) : JN P cx st (.loop I k) := fun a w hi => h a w hi
theorem je_seq (h : JE P cx id st k) : JE P cx id st (.seq c k) := fun a w hi => h a w hi
theorem je_loop (h : JE P cx id st k) : JE P cx id st (.loop I k) := fun a w hi => h a w hi
theorem je_blk (h : JN P cx st k) : JE P cx id st (.blk id k) := fun a w hi => by
  simp only [Kn.post, Exit.inBlock, if_true]; exact h a w hi
theorem je_other (hne : Nat.beq id id' = false) (h : JE P cx id st k) : JE P cx id st (.blk id' k) := fun a w hi => by
  have : ¬ id = id' := fun e => by subst e; simp at hne
  simp only [Kn.post, Exit.inBlock, if_neg this]; exact h a w hi
theorem jr_seq (h : JR P cx st k) : JR P cx st (.seq c k) := fun a w hi => h a w hi
theorem jr_blk (h : JR P cx st k) : JR P cx st (.blk id k) := fun a w hi => h a w hi
theorem jr_loop (h : JR P cx st k) : JR P cx st (.loop I k) := fun a w hi => h a w hi

/-- what is known at a loop's head: a family of states; each round leads to one of a smaller number -/
theorem j_loop {ι : Type} (inv : ι → St) (μ : ι → Nat) (i0 : ι) (h0 : ∀ a w, Inv cx st a w → Inv cx (inv i0) a w)
    (round : ∀ i, J P cx (inv i) c (.loop (fun a w => ∃ j, μ j < μ i ∧ Inv cx (inv j) a w) k)) : J P cx st (.loop c) k := by
  intro a w hi
  refine wp_loop_ghost (fun n a w => ∃ i, μ i = n ∧ Inv cx (inv i) a w) (μ i0) ⟨i0, rfl, h0 a w hi⟩ ?_
  rintro n a w ⟨i, rfl, hi⟩
  refine wp_mono (round i a w hi) ?_
  intro e a' w' hq
  cases e with
  | normal =>
    obtain ⟨j, hj, hi'⟩ := hq
    exact ⟨μ j, hj, j, rfl, hi'⟩
  | _ => exact hq

/-! ### a state that says less -/
/-- each slot and each row of st' is one of st -/
structure Sub (st st' : St) : Prop where
  slots : ∀ i s, lookS st'.slots i = some s → lookS st.slots i = some s
  heap : ∀ i s, lookH st'.heap i = some s → lookH st.heap i = some s

theorem Sub.inv (h : Sub st st') (hi : Inv cx st a w) : Inv cx st' a w := by
  obtain ⟨β, hb⟩ := hi
  have hok : ∀ b, okOf cx st.heap β w b → okOf cx st'.heap β w b ∧ w.heap[b]? = w.heap[b]? := fun b ⟨h1, h2, h3⟩ => ⟨⟨h1, h2, fun nm hb hh => h3 nm hb (h.heap _ _ hh)⟩, rfl⟩
  refine ⟨β, hb.below, hb.old, hb.defers, hb.size, fun nm x hx => hb.own nm x (h.heap _ _ hx), fun nm nm' x y hx hy => hb.sep nm nm' x y (h.heap _ _ hx) (h.heap _ _ hy), fun nm x hx => HB.keep hok (fun _ _ => rfl) (hb.rows nm x (h.heap _ _ hx)), fun i s hs => ?_⟩
  obtain ⟨v, h1, h2⟩ := hb.slots i s (h.slots _ _ hs)
  exact ⟨v, h1, SV.keep hok (fun nm _ => ⟨rfl, fun b o _ cur e fr hc => ⟨cur, e, fr, hc, rfl⟩⟩) h2⟩

theorem SubS_nil {l : List (Nat × SV)} : ∀ i s, lookS [] i = some s → lookS l i = some s := fun _ _ h => by simp [lookS] at h
theorem SubS_cons {l r : List (Nat × SV)} {j : Nat} {t t' : SV} (h : lookS l j = some t) (e : t = t') (hr : ∀ i s, lookS r i = some s → lookS l i = some s) : ∀ i s, lookS ((j, t') :: r) i = some s → lookS l i = some s := by
  intro i s hs
  subst e
  rw [lookS_cons] at hs
  split at hs
  · rename_i e; subst e; rw [h]; exact hs
  · exact hr i s hs
theorem SubH_nil {l : List (Nat × HB)} : ∀ i s, lookH [] i = some s → lookH l i = some s := fun _ _ h => by simp [lookH] at h
theorem SubH_cons {l r : List (Nat × HB)} {j : Nat} {t t' : HB} (h : lookH l j = some t) (e : t = t') (hr : ∀ i s, lookH r i = some s → lookH l i = some s) : ∀ i s, lookH ((j, t') :: r) i = some s → lookH l i = some s := by
  intro i s hs
  subst e
  rw [lookH_cons] at hs
  split at hs
  · rename_i e; subst e; rw [h]; exact hs
  · exact hr i s hs

theorem j_sub (h : Sub st st') (hj : J P cx st' c k) : J P cx st c k := fun a w hi => hj a w (h.inv hi)
theorem jn_sub (h : Sub st st') (hj : JN P cx st' k) : JN P cx st k := fun a w hi => hj a w (h.inv hi)

/-- the slots ks, and no other -/
inductive Keep (l : List (Nat × SV)) : List Nat → List (Nat × SV) → Prop
  | nil : Keep l [] []
  | cons {j : Nat} {ks : List Nat} {t : SV} {r : List (Nat × SV)} (h : lookS l j = some t) (hr : Keep l ks r) : Keep l (j :: ks) ((j, t) :: r)
theorem Keep.sub {l : List (Nat × SV)} {ks : List Nat} {r : List (Nat × SV)} (h : Keep l ks r) : ∀ i s, lookS r i = some s → lookS l i = some s := by
  induction h with
  | nil => exact SubS_nil
  | cons h _ ih => exact SubS_cons h rfl ih
inductive KeepH (l : List (Nat × HB)) : List Nat → List (Nat × HB) → Prop
  | nil : KeepH l [] []
  | cons {j : Nat} {ks : List Nat} {t : HB} {r : List (Nat × HB)} (h : lookH l j = some t) (hr : KeepH l ks r) : KeepH l (j :: ks) ((j, t) :: r)
theorem KeepH.sub {l : List (Nat × HB)} {ks : List Nat} {r : List (Nat × HB)} (h : KeepH l ks r) : ∀ i s, lookH r i = some s → lookH l i = some s := by
  induction h with
  | nil => exact SubH_nil
  | cons h _ ih => exact SubH_cons h rfl ih
theorem jn_keep (ks hs : List Nat) {r : List (Nat × SV)} {hp : List (Nat × HB)} (h : Keep st.slots ks r) (hh : KeepH st.heap hs hp) (hj : JN P cx ⟨r, hp⟩ k) : JN P cx st k :=
  jn_sub (st' := ⟨r, hp⟩) ⟨h.sub, hh.sub⟩ hj
theorem j_keep (ks hs : List Nat) {r : List (Nat × SV)} {hp : List (Nat × HB)} (h : Keep st.slots ks r) (hh : KeepH st.heap hs hp) (hj : J P cx ⟨r, hp⟩ c k) : J P cx st c k :=
  j_sub (st' := ⟨r, hp⟩) ⟨h.sub, hh.sub⟩ hj

/-- a loop whose states are bound by p -/
theorem j_loopp {ι : Type} (inv : ι → St) (p : ι → Prop) (μ : ι → Nat) (i0 : ι) (p0 : p i0) (h0 : ∀ a w, Inv cx st a w → Inv cx (inv i0) a w)
    (round : ∀ i, p i → J P cx (inv i) c (.loop (fun a w => ∃ j, μ j < μ i ∧ p j ∧ Inv cx (inv j) a w) k)) : J P cx st (.loop c) k :=
  j_loop (ι := {i : ι // p i}) (fun i => inv i.1) (fun i => μ i.1) ⟨i0, p0⟩ h0 (fun i => by
    have := round i.1 i.2
    intro a w hi
    refine wp_mono (this a w hi) ?_
    intro e a' w' hq
    cases e with
    | normal =>
      obtain ⟨j, h1, h2, h3⟩ := hq
      exact ⟨⟨j, h2⟩, h1, h3⟩
    | _ => exact hq)

end
end Go.Eng
