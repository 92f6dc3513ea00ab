import Derived.Test.YthfhekohlmboiaaEng1
namespace Go.Eng

/-- WHAT IS KNOWN OF A VALUE IN A SLOT. 'raw': the value itself; 'tv': it reads as d; 'eptr': a pointer to where d lies (and stays as it is); 'own': the head of the call's own row nm, from element off, n long; 'optr': a pointer into the call's own row nm. -/
inductive SV : Type 1
  | raw (v : Value)
  | tv {α : Type} (rt : RT α) (d : α)
  | eptr {α : Type} (rt : RT α) (d : α)
  | own (nm sz off n : Nat)
  | optr (nm sz i f : Nat)
  | mref (nm : Nat)
  | epown (nm sz off n : Nat)
  | both (s : SV) (v : Value)
  | lnk (s : SV) (u : Value) (t : SV)
  | fam (s : SV) (base sz : Nat) (ds : List (Option (Option Addr × Nat × Nat)))
  | gd (c : Bool) (s : SV)
  | tup2 (a b : SV)
  | tup3 (a b c : SV)
  | tup4 (a b c d : SV)

/-- a datum in a slot: exact where it can be -/
def SV.of {α : Type} (rt : RT α) (d : α) : SV := match rt.raw d with | some v => .raw v | none => .tv rt d

/-- where the call's own rows lie: block and first cell -/
abbrev Loc := Nat → Option (Nat × Nat)

def hdr (β : Loc) (w : World) (nm sz off n : Nat) (v : Value) : Prop :=
  match β nm with
  | none => v = .slice none 0 0 ∧ n = 0
  | some (b, o) => ∃ A cap, v = .slice A n cap ∧ n ≤ cap ∧ cap ≤ maxLen ∧
      ((n = 0 ∧ cap = 0) ∨ (A = some ⟨b, o + off * sz, none⟩ ∧ ∃ cur e fr, w.heap[b]? = some (.cells cur e fr) ∧ o + (off + cap) * sz ≤ cur.size))

def SV.holds (β : Loc) (w : World) (ok : Ok) : SV → Value → Prop
  | .raw u, v => v = u
  | .tv rt d, v => rt.val w ok v d
  | .eptr rt d, v => ∃ b o cs, v = .pointer (some ⟨b, o, none⟩) ∧ ok b ∧ rt.rep w ok cs d ∧ CellsAt w b o cs
  | .own nm sz off n, v => hdr β w nm sz off n v
  | .optr nm sz i f, v => ∃ b o, β nm = some (b, o) ∧ v = .pointer (some ⟨b, o + i * sz + f, none⟩)
  | .mref nm, v => ∃ b o, β nm = some (b, o) ∧ v = .map (some b)
  | .epown nm sz off n, v => ∃ b o u, v = .pointer (some ⟨b, o, none⟩) ∧ ok b ∧ CellsAt w b o [u] ∧ hdr β w nm sz off n u
  | .both s u, v => s.holds β w ok v ∧ v = u
  | .lnk s u t, v => s.holds β w ok v ∧ t.holds β w ok u
  | .fam s base sz ds, v => s.holds β w ok v ∧ ∀ x A m cap, ds[x]? = some (some (A, m, cap)) → hdr β w (x + base) sz 0 m (.slice A m cap)
  | .gd c s, v => (c = true → s.holds β w ok v) ∧ (c = false → v = undef)
  | .tup2 a b, v => ∃ x y, v = .tuple #[x, y] ∧ a.holds β w ok x ∧ b.holds β w ok y
  | .tup3 a b c, v => ∃ x y z, v = .tuple #[x, y, z] ∧ a.holds β w ok x ∧ b.holds β w ok y ∧ c.holds β w ok z
  | .tup4 a b c d, v => ∃ x y z u, v = .tuple #[x, y, z, u] ∧ a.holds β w ok x ∧ b.holds β w ok y ∧ c.holds β w ok z ∧ d.holds β w ok u

/-- does it not speak of the call's own row nm? -/
def SV.free (nm : Nat) : SV → Bool
  | .own k _ _ _ | .optr k _ _ _ | .mref k | .epown k _ _ _ => !(Nat.beq k nm)
  | .both s _ => s.free nm
  | .lnk s _ t => s.free nm && t.free nm
  | .fam s base _ ds => s.free nm && (Nat.blt nm base || (match ds[nm - base]? with | some (some _) => false | _ => true))
  | .gd _ s => s.free nm
  | .tup2 a b => a.free nm && b.free nm
  | .tup3 a b c => a.free nm && b.free nm && c.free nm
  | .tup4 a b c d => a.free nm && b.free nm && c.free nm && d.free nm
  | _ => true

/-- it speaks of none of the call's own rows -/
def SV.plain : SV → Bool
  | .own .. | .optr .. | .mref .. | .epown .. | .fam .. => false
  | .both s _ => s.plain
  | .lnk s _ t => s.plain && t.plain
  | .gd _ s => s.plain
  | .tup2 a b => a.plain && b.plain
  | .tup3 a b c => a.plain && b.plain && c.plain
  | .tup4 a b c d => a.plain && b.plain && c.plain && d.plain
  | _ => true

/-- one of the call's own rows: its elements -/
structure HB : Type 1 where
  {α : Type}
  rt : RT α
  xs : List α

def RowRep {α : Type} (rt : RT α) (w : World) (ok : Ok) (b o : Nat) (xs : List α) : Prop :=
  ∃ cur e, w.heap[b]? = some (.cells cur e (0, 0)) ∧ o + xs.length * rt.n ≤ cur.size ∧
    ∀ i x, xs[i]? = some x → ∃ cs, rt.rep w ok cs x ∧ ∀ j v, cs[j]? = some v → cur[o + i * rt.n + j]? = some v

def HB.holds (w : World) (ok : Ok) (hb : HB) : Option (Nat × Nat) → Prop
  | none => hb.xs = []
  | some (b, o) => (hb.rt.mp = false → RowRep hb.rt w ok b o hb.xs) ∧ (hb.rt.mp = true → ∃ D obj, hb.xs = [D] ∧ w.heap[b]? = some obj ∧ hb.rt.mrep obj D)

structure St : Type 1 where
  slots : List (Nat × SV)
  heap : List (Nat × HB)

def lookS : List (Nat × SV) → Nat → Option SV
  | [], _ => none
  | (i, s) :: r, n => bif Nat.beq i n then some s else lookS r n
def lookH : List (Nat × HB) → Nat → Option HB
  | [], _ => none
  | (i, s) :: r, n => bif Nat.beq i n then some s else lookH r n

theorem lookS_cons (i : Nat) (s : SV) (r : List (Nat × SV)) (n : Nat) : lookS ((i, s) :: r) n = if i = n then some s else lookS r n := by
  rw [show lookS ((i, s) :: r) n = bif Nat.beq i n then some s else lookS r n from rfl]
  by_cases h : i = n
  · subst h; simp
  · have : Nat.beq i n = false := by cases hb : Nat.beq i n with | false => rfl | true => exact absurd (Nat.eq_of_beq_eq_true hb) h
    simp [this, h]
theorem lookH_cons (i : Nat) (s : HB) (r : List (Nat × HB)) (n : Nat) : lookH ((i, s) :: r) n = if i = n then some s else lookH r n := by
  rw [show lookH ((i, s) :: r) n = bif Nat.beq i n then some s else lookH r n from rfl]
  by_cases h : i = n
  · subst h; simp
  · have : Nat.beq i n = false := by cases hb : Nat.beq i n with | false => rfl | true => exact absurd (Nat.eq_of_beq_eq_true hb) h
    simp [this, h]

def St.put (st : St) (d : Nat) (s : SV) : St := ⟨(d, s) :: st.slots, st.heap⟩

def freeS (nm : Nat) : List (Nat × SV) → Bool
  | [] => true
  | (_, s) :: r => s.free nm && freeS nm r
theorem freeS_look {nm : Nat} : ∀ {l : List (Nat × SV)} {i : Nat} {s : SV}, freeS nm l = true → lookS l i = some s → s.free nm = true
  | [], _, _, _, h => by simp [lookS] at h
  | (j, t) :: r, i, s, hf, h => by
    simp only [freeS, Bool.and_eq_true] at hf
    rw [lookS_cons] at h
    split at h
    · injection h with h; subst h; exact hf.1
    · exact freeS_look hf.2 h

/-- a call's own frame: the world and what was readable when it began; how many slots -/
structure Cx where
  w0 : World
  ok0 : Ok
  n : Nat
  ex : Nat → Prop
/-- nothing that was there is lent -/
abbrev Cx.of (w0 : World) (ok0 : Ok) (n : Nat) : Cx := ⟨w0, ok0, n, fun _ => False⟩
/-- a block that the call may write: it came later, or it was lent -/
def Cx.new (cx : Cx) (b : Nat) : Prop := cx.w0.heap.size ≤ b ∨ cx.ex b
theorem Cx.new_of {w : World} {ok0 : Ok} {n b : Nat} (h : (Cx.of w ok0 n).new b) : w.heap.size ≤ b := h.elim id False.elim

def okOf (cx : Cx) (hp : List (Nat × HB)) (β : Loc) (w : World) : Ok := fun b =>
  (cx.ok0 b ∨ cx.new b) ∧ b < w.heap.size ∧ ∀ nm hb, lookH hp nm = some hb → ∀ x, β nm = some x → x.1 ≠ b

structure InvB (cx : Cx) (st : St) (β : Loc) (a : Act) (w : World) : Prop where
  below : BelowX cx.ex cx.w0.heap.size cx.w0 w
  old : ∀ b, cx.ok0 b → b < cx.w0.heap.size
  defers : a.defers = []
  size : a.tmps.size = cx.n
  own : ∀ nm hb, lookH st.heap nm = some hb → ∀ x, β nm = some x → cx.new x.1 ∧ x.1 < w.heap.size
  sep : ∀ nm nm' hb hb', lookH st.heap nm = some hb → lookH st.heap nm' = some hb' → ∀ x y, β nm = some x → β nm' = some y → x.1 = y.1 → nm = nm'
  rows : ∀ nm hb, lookH st.heap nm = some hb → hb.holds w (okOf cx st.heap β w) (β nm)
  slots : ∀ i s, lookS st.slots i = some s → ∃ v, a.tmps[i]? = some v ∧ s.holds β w (okOf cx st.heap β w) v

def Inv (cx : Cx) (st : St) (a : Act) (w : World) : Prop := ∃ β, InvB cx st β a w

section
variable {cx : Cx} {st : St} {β : Loc} {a : Act} {w w' : World}

theorem blt_lt {a b : Nat} (h : Nat.blt a b = true) : a < b := by rwa [Nat.blt_eq] at h
theorem lt_blt {a b : Nat} (h : a < b) : Nat.blt a b = true := by rwa [Nat.blt_eq]
theorem fam_not {x base : Nat} : Nat.blt (x + base) base = false := by
  cases h : Nat.blt (x + base) base with
  | false => rfl
  | true => exact absurd (blt_lt h) (by omega)
theorem hdr_keep {β' : Loc} {nm sz off n : Nat} {v : Value} (hf : β' nm = β nm ∧ ∀ b o, β nm = some (b, o) → ∀ cur e fr, w.heap[b]? = some (.cells cur e fr) → ∃ cur' e' fr', w'.heap[b]? = some (.cells cur' e' fr') ∧ cur'.size = cur.size) (hv : hdr β w nm sz off n v) : hdr β' w' nm sz off n v := by
  simp only [hdr] at hv ⊢
  rw [hf.1]
  cases hb : β nm with
  | none => rw [hb] at hv; exact hv
  | some x =>
    obtain ⟨b, o⟩ := x
    rw [hb] at hv
    obtain ⟨A, cap, h1, h2, h3, h4⟩ := hv
    refine ⟨A, cap, h1, h2, h3, ?_⟩
    rcases h4 with h4 | ⟨h4, cur, e, fr, h5, h6⟩
    · exact .inl h4
    · obtain ⟨cur', e', fr', h7, h8⟩ := hf.2 b o hb cur e fr h5
      exact .inr ⟨h4, cur', e', fr', h7, by omega⟩
/-- what a value needs of the world, when that turns: its own blocks stay, or keep their size -/
theorem SV.keep {β' : Loc} {ok ok' : Ok} (h : ∀ b, ok b → ok' b ∧ w'.heap[b]? = w.heap[b]?) :
    ∀ {s : SV} {v : Value}, (∀ nm, s.free nm = false → β' nm = β nm ∧ ∀ b o, β nm = some (b, o) → ∀ cur e fr, w.heap[b]? = some (.cells cur e fr) → ∃ cur' e' fr', w'.heap[b]? = some (.cells cur' e' fr') ∧ cur'.size = cur.size) →
      s.holds β w ok v → s.holds β' w' ok' v
  | .raw _, _, _, hv => hv
  | .tv rt _, _, _, hv => rt.val_keep h hv
  | .eptr rt _, _, _, ⟨b, o, cs, h1, h2, h3, h4⟩ => ⟨b, o, cs, h1, (h b h2).1, rt.keep h h3, h4.keep (h b h2).2⟩
  | .own nm sz off n, v, hf, hv => hdr_keep (hf nm (by simp [SV.free])) hv
  | .epown nm sz off n, v, hf, ⟨b, o, u, h1, h2, h3, h4⟩ => ⟨b, o, u, h1, (h b h2).1, h3.keep (h b h2).2, hdr_keep (hf nm (by simp [SV.free])) h4⟩
  | .optr nm sz i f, v, hf, ⟨b, o, h1, h2⟩ => ⟨b, o, by rw [(hf nm (by simp [SV.free])).1]; exact h1, h2⟩
  | .mref nm, v, hf, ⟨b, o, h1, h2⟩ => ⟨b, o, by rw [(hf nm (by simp [SV.free])).1]; exact h1, h2⟩
  | .both s u, v, hf, hv => ⟨SV.keep h (fun nm hn => hf nm (by simpa [SV.free] using hn)) hv.1, hv.2⟩
  | .lnk s u t, v, hf, hv => ⟨SV.keep h (fun nm hn => hf nm (by simp [SV.free, hn])) hv.1, SV.keep h (fun nm hn => hf nm (by simp [SV.free, hn])) hv.2⟩
  | .fam s base sz ds, v, hf, hv => ⟨SV.keep h (fun nm hn => hf nm (by simp [SV.free, hn])) hv.1, fun x A m cap hx => hdr_keep (hf (x + base) (by simp only [SV.free, fam_not, Nat.add_sub_cancel, hx, Bool.false_or, Bool.and_false])) (hv.2 x A m cap hx)⟩
  | .gd c s, v, hf, hv => ⟨fun hc => SV.keep h (fun nm hn => hf nm (by simpa [SV.free] using hn)) (hv.1 hc), hv.2⟩
  | .tup2 a b, v, hf, ⟨x, y, h1, h2, h3⟩ => ⟨x, y, h1, SV.keep h (fun nm hn => hf nm (by simp [SV.free, hn])) h2, SV.keep h (fun nm hn => hf nm (by simp [SV.free, hn])) h3⟩
  | .tup3 a b c, v, hf, ⟨x, y, z, h1, h2, h3, h4⟩ => ⟨x, y, z, h1, SV.keep h (fun nm hn => hf nm (by simp [SV.free, hn])) h2, SV.keep h (fun nm hn => hf nm (by simp [SV.free, hn])) h3, SV.keep h (fun nm hn => hf nm (by simp [SV.free, hn])) h4⟩
  | .tup4 a b c d, v, hf, ⟨x, y, z, u, h1, h2, h3, h4, h5⟩ => ⟨x, y, z, u, h1, SV.keep h (fun nm hn => hf nm (by simp [SV.free, hn])) h2, SV.keep h (fun nm hn => hf nm (by simp [SV.free, hn])) h3, SV.keep h (fun nm hn => hf nm (by simp [SV.free, hn])) h4, SV.keep h (fun nm hn => hf nm (by simp [SV.free, hn])) h5⟩

theorem HB.keep {ok ok' : Ok} (h : ∀ b, ok b → ok' b ∧ w'.heap[b]? = w.heap[b]?) {hb : HB} {l : Option (Nat × Nat)} (hl : ∀ x, l = some x → w'.heap[x.1]? = w.heap[x.1]?) (hh : hb.holds w ok l) : hb.holds w' ok' l := by
  cases l with
  | none => exact hh
  | some x =>
    obtain ⟨b, o⟩ := x
    refine ⟨fun hm => ?_, fun hm => ?_⟩
    · obtain ⟨cur, e, h1, h2, h3⟩ := hh.1 hm
      refine ⟨cur, e, (hl _ rfl).trans h1, h2, fun i x hi => ?_⟩
      obtain ⟨cs, h4, h5⟩ := h3 i x hi
      exact ⟨cs, hb.rt.keep h h4, h5⟩
    · obtain ⟨D, obj, h1, h2, h3⟩ := hh.2 hm
      exact ⟨D, obj, h1, (hl _ rfl).trans h2, h3⟩

/-- the same world below its size: nothing that was known is lost -/
theorem InvB.later (hi : InvB cx st β a w) (hb : Below w.heap.size w w') : InvB cx st β a w' := by
  have hok : ∀ b, okOf cx st.heap β w b → okOf cx st.heap β w' b ∧ w'.heap[b]? = w.heap[b]? := fun b ⟨h1, h2, h3⟩ =>
    ⟨⟨h1, Nat.lt_of_lt_of_le h2 hb.size, h3⟩, hb.block b h2⟩
  refine ⟨hi.below.trans (hb.mono hi.below.size), hi.old, hi.defers, hi.size, fun nm h hh x hx => ?_, hi.sep, fun nm h hh => ?_, fun i s hs => ?_⟩
  · have := hi.own nm h hh x hx
    exact ⟨this.1, Nat.lt_of_lt_of_le this.2 hb.size⟩
  · exact HB.keep hok (fun x hx => hb.block _ (hi.own nm h hh x hx).2) (hi.rows nm h hh)
  · obtain ⟨v, h1, h2⟩ := hi.slots i s hs
    refine ⟨v, h1, SV.keep hok (fun nm _ => ⟨rfl, fun b o hbo cur e fr hc => ⟨cur, e, fr, ?_, rfl⟩⟩) h2⟩
    have : b < w.heap.size := by
      rcases Nat.lt_or_ge b w.heap.size with h | h
      · exact h
      · rw [Array.getElem?_eq_none h] at hc; cases hc
    rw [hb.block b this]; exact hc

theorem Below.drew' (w : World) : Below w.heap.size w w.drew := (Below.refl _ _).drew

theorem InvB.put (hi : InvB cx st β a w) {d : Nat} {s : SV} {v : Value} (hd : d < cx.n) (hs : s.holds β w (okOf cx st.heap β w) v) : InvB cx (st.put d s) β (a.put (some d) v) w := by
  refine ⟨hi.below, hi.old, by simp [Act.put, hi.defers], by simp [Act.put, hi.size], hi.own, hi.sep, hi.rows, fun i s' h => ?_⟩
  simp only [St.put, lookS_cons] at h
  split at h
  · rename_i e; subst e; injection h with h; subst h
    exact ⟨v, by simp [Act.put, hi.size, hd], hs⟩
  · rename_i e
    obtain ⟨u, h1, h2⟩ := hi.slots i s' h
    exact ⟨u, by simp [Act.put, Array.getElem?_setIfInBounds_ne e, h1], h2⟩

theorem InvB.put_none (hi : InvB cx st β a w) (v : Value) : InvB cx st β (a.put none v) w := hi

theorem InvB.cell_lt {b : Nat} {cur : Array Value} {e : TypeId} {fr : Nat × Nat} (h : w.heap[b]? = some (.cells cur e fr)) : b < w.heap.size := by
  rcases Nat.lt_or_ge b w.heap.size with h' | h'
  · exact h'
  · rw [Array.getElem?_eq_none h'] at h; cases h

/-- a new block of the call's own -/
theorem InvB.alloc (hi : InvB cx st β a w) {nm : Nat} {α : Type} {rt : RT α} [NM rt] {xs : List α} {cs : Array Value} {e : TypeId} (hf : freeS nm st.slots = true) (hn : lookH st.heap nm = none)
    (hlen : xs.length * rt.n ≤ cs.size) (hc : ∀ i x, xs[i]? = some x → ∃ c, rt.rep w (okOf cx st.heap β w) c x ∧ ∀ j v, c[j]? = some v → cs[i * rt.n + j]? = some v) :
    InvB cx ⟨st.slots, (nm, ⟨rt, xs⟩) :: st.heap⟩ (fun k => if k = nm then some (w.heap.size, 0) else β k) a (w.alloc (.cells cs e)) := by
  have hbel : Below w.heap.size w (w.alloc (.cells cs e)) := (Below.refl _ _).alloc (Nat.le_refl _) _
  have hok : ∀ b, okOf cx st.heap β w b → okOf cx ((nm, ⟨rt, xs⟩) :: st.heap) (fun k => if k = nm then some (w.heap.size, 0) else β k) (w.alloc (.cells cs e)) b ∧ (w.alloc (.cells cs e)).heap[b]? = w.heap[b]? := by
    rintro b ⟨h1, h2, h3⟩
    refine ⟨⟨h1, by simp; omega, fun k hb hk x hx => ?_⟩, hbel.block b h2⟩
    rw [lookH_cons] at hk
    by_cases e1 : k = nm
    · subst e1; simp at hx; subst hx; simp only; omega
    · rw [if_neg (Ne.symm e1)] at hk
      simp only [if_neg e1] at hx
      exact h3 k hb hk x hx
  refine ⟨hi.below.trans (hbel.mono hi.below.size), hi.old, hi.defers, hi.size, fun k hb hk x hx => ?_, fun k k' hb hb' hk hk' x y hx hy hxy => ?_, fun k hb hk => ?_, fun i s hs => ?_⟩
  · by_cases e1 : k = nm
    · subst e1; simp at hx; subst hx; exact ⟨.inl hi.below.size, by simp⟩
    · rw [lookH_cons, if_neg (Ne.symm e1)] at hk
      simp only [if_neg e1] at hx
      have := hi.own k hb hk x hx
      exact ⟨this.1, by simp; omega⟩
  · rw [lookH_cons] at hk hk'
    by_cases e1 : k = nm <;> by_cases e2 : k' = nm
    · rw [e1, e2]
    · subst e1
      rw [if_neg (Ne.symm e2)] at hk'
      simp at hx; subst hx
      simp only [if_neg e2] at hy
      have := hi.own k' hb' hk' y hy
      simp only at hxy; omega
    · subst e2
      rw [if_neg (Ne.symm e1)] at hk
      simp at hy; subst hy
      simp only [if_neg e1] at hx
      have := hi.own k hb hk x hx
      simp only at hxy; omega
    · rw [if_neg (Ne.symm e1)] at hk
      rw [if_neg (Ne.symm e2)] at hk'
      simp only [if_neg e1] at hx
      simp only [if_neg e2] at hy
      exact hi.sep k k' hb hb' hk hk' x y hx hy hxy
  · rw [lookH_cons] at hk
    by_cases e1 : k = nm
    · subst e1
      rw [if_pos rfl] at hk
      injection hk with hk; subst hk
      simp only [if_pos]
      refine ⟨fun _ => ⟨cs, e, heap_alloc_new w _, by simpa using hlen, fun i x hx => ?_⟩, fun hm => by rw [show rt.mp = false from NM.no] at hm; cases hm⟩
      obtain ⟨c, h1, h2⟩ := hc i x hx
      exact ⟨c, rt.keep hok h1, fun j v hj => by rw [Nat.zero_add]; exact h2 j v hj⟩
    · rw [if_neg (Ne.symm e1)] at hk
      simp only [if_neg e1]
      exact HB.keep hok (fun x hx => hbel.block _ (hi.own k hb hk x hx).2) (hi.rows k hb hk)
  · obtain ⟨v, h1, h2⟩ := hi.slots i s hs
    have hfree := freeS_look hf hs
    refine ⟨v, h1, SV.keep hok (fun k hk => ?_) h2⟩
    have hne : k ≠ nm := by rintro rfl; rw [hfree] at hk; cases hk
    refine ⟨by simp [hne], fun b o hbo cur e' fr hcur => ⟨cur, e', fr, ?_, rfl⟩⟩
    rw [hbel.block b (InvB.cell_lt hcur)]; exact hcur

end
end Go.Eng
