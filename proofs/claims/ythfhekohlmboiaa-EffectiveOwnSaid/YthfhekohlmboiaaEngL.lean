import Derived.Test.YthfhekohlmboiaaEng21
namespace Go.Eng
set_option linter.unusedSimpArgs false

/-! ### a row of the call's own whose head lies in a field of a variable: the head's value u and what it leads to ride on a slot as a link -/
section
variable {P : Program} {cx : Cx} {st st' : St} {β : Loc} {a : Act} {w w' : World} {ops : Array Oper} {k : Kn} {c : Code}
variable {dst : Option Tmp} {ty : TypeId} {pos : String} {aft : Array Edge} {gd : Option (Nat × Bool)}
variable {α γ δ : Type}

/-- a slot's knowledge turned, where the same value has it -/
theorem InvB.turnS (hb : InvB cx st β a w) {i : Nat} {s s' : SV} (hs : lookS st.slots i = some s) (h : ∀ v, s.holds β w (okOf cx st.heap β w) v → s'.holds β w (okOf cx st.heap β w) v) : InvB cx ⟨(i, s') :: st.slots, st.heap⟩ β a w := by
  refine ⟨hb.below, hb.old, hb.defers, hb.size, hb.own, hb.sep, hb.rows, fun q t hq => ?_⟩
  rw [lookS_cons] at hq
  split at hq
  · rename_i e; subst e; injection hq with hq; subst hq
    obtain ⟨v, h1, h2⟩ := hb.slots i _ hs
    exact ⟨v, h1, h v h2⟩
  · exact hb.slots q t hq

/-- a new row, empty, that no variable's head leads to yet but nil -/
theorem inv_vacL {c0 nm : Nat} {s : SV} (rt : RT α) [NM rt] (hs : lookS st.slots c0 = some s) (hf : freeS nm st.slots = true) (hno : lookH st.heap nm = none) (hi : Inv cx st a w) :
    Inv cx ⟨(c0, .lnk s (.slice none 0 0) (.own nm rt.n 0 0)) :: st.slots, (nm, ⟨rt, ([] : List α)⟩) :: st.heap⟩ a w := by
  obtain ⟨β, hb⟩ := hi
  have hk : ∀ k h, lookH ((nm, HB.mk rt ([] : List α)) :: st.heap) k = some h → (k = nm ∧ h = ⟨rt, []⟩) ∨ (k ≠ nm ∧ lookH st.heap k = some h) := fun k h hh => by
    rw [lookH_cons] at hh
    split at hh
    · rename_i e; injection hh with hh; exact .inl ⟨e.symm, hh.symm⟩
    · rename_i e; exact .inr ⟨fun e2 => e e2.symm, hh⟩
  let β' : Loc := fun k => if k = nm then none else β k
  have hβ : ∀ k, k ≠ nm → β' k = β k := fun k hk => by simp [β', hk]
  have hβn : β' nm = none := by simp [β']
  have hok : ∀ b, okOf cx st.heap β w b → okOf cx ((nm, HB.mk rt ([] : List α)) :: st.heap) β' w b ∧ w.heap[b]? = w.heap[b]? := fun b ⟨h1, h2, h3⟩ => ⟨⟨h1, h2, fun k h hh x hx => by
    rcases hk k h hh with ⟨rfl, _⟩ | ⟨hne, hh⟩
    · rw [hβn] at hx; cases hx
    · rw [hβ k hne] at hx; exact h3 k h hh x hx⟩, rfl⟩
  have hfree : ∀ (t : SV) (v : Value), t.free nm = true → t.holds β w (okOf cx st.heap β w) v → t.holds β' w (okOf cx ((nm, HB.mk rt ([] : List α)) :: st.heap) β' w) v := fun t v ht hv =>
    SV.keep hok (fun k hkf => ⟨hβ k (fun e => by subst e; rw [ht] at hkf; cases hkf), fun b o _ cur e fr hc => ⟨cur, e, fr, hc, rfl⟩⟩) hv
  refine ⟨β', hb.below, hb.old, hb.defers, hb.size, fun k h hh x hx => ?_, fun k k' h h' hh hh' x y hx hy he => ?_, fun k h hh => ?_, fun q t hq => ?_⟩
  · rcases hk k h hh with ⟨rfl, _⟩ | ⟨hne, hh⟩
    · rw [hβn] at hx; cases hx
    · rw [hβ k hne] at hx; exact hb.own k h hh x hx
  · rcases hk k h hh with ⟨rfl, _⟩ | ⟨hne, hh⟩
    · rw [hβn] at hx; cases hx
    · rcases hk k' h' hh' with ⟨rfl, _⟩ | ⟨hne', hh'⟩
      · rw [hβn] at hy; cases hy
      · rw [hβ k hne] at hx; rw [hβ k' hne'] at hy; exact hb.sep k k' h h' hh hh' x y hx hy he
  · rcases hk k h hh with ⟨rfl, rfl⟩ | ⟨hne, hh⟩
    · rw [hβn]; rfl
    · rw [hβ k hne]; exact HB.keep hok (fun x hx => rfl) (hb.rows k h hh)
  · rw [lookS_cons] at hq
    split at hq
    · rename_i e; subst e; injection hq with hq; subst hq
      obtain ⟨v, h1, h2⟩ := hb.slots c0 _ hs
      refine ⟨v, h1, hfree s v (freeS_look hf hs) h2, ?_⟩
      simp only [SV.holds, hdr, hβn]
      exact ⟨trivial, trivial⟩
    · obtain ⟨v, h1, h2⟩ := hb.slots q t hq
      exact ⟨v, h1, hfree t v (freeS_look hf hq) h2⟩
theorem j_vacL (c0 nm : Nat) {s : SV} (rt : RT α) [NM rt] (hs : lookS st.slots c0 = some s) (hf : freeS nm st.slots = true) (hno : lookH st.heap nm = none)
    (h : J P cx ⟨(c0, .lnk s (.slice none 0 0) (.own nm rt.n 0 0)) :: st.slots, (nm, ⟨rt, ([] : List α)⟩) :: st.heap⟩ c k) : J P cx st c k := fun a w hi => h a w (inv_vacL rt hs hf hno hi)

/-- slot j holds the linked value: it takes over what is known of it -/
theorem inv_takeL {c0 j : Nat} {s t : SV} {u : Value} (hc : lookS st.slots c0 = some (.lnk s u t)) (hj : lookS st.slots j = some (.raw u)) (hne : Nat.beq j c0 = false) (hi : Inv cx st a w) : Inv cx ⟨(c0, s) :: (j, t) :: st.slots, st.heap⟩ a w := by
  obtain ⟨β, hb⟩ := hi
  obtain ⟨_, _, _, ht⟩ := hb.slots c0 _ hc
  have h1 := hb.turnS (s' := t) hj fun v hv => by have hv : v = u := hv; subst hv; exact ht
  have hc' : lookS ((j, t) :: st.slots) c0 = some (.lnk s u t) := by rw [show lookS ((j, t) :: st.slots) c0 = bif Nat.beq j c0 then some t else lookS st.slots c0 from rfl, hne]; exact hc
  exact ⟨β, h1.turnS (s' := s) hc' fun v hv => hv.1⟩
theorem jg_takeL (c0 j : Nat) {s t : SV} {u : Value} {l : List Oper} (hc : lookS st.slots c0 = some (.lnk s u t)) (hj : lookS st.slots j = some (.raw u)) (hne : Nat.beq j c0 = false) (h : JG P cx ops ⟨(c0, s) :: (j, t) :: st.slots, st.heap⟩ l k) : JG P cx ops st l k := fun a w hi => h a w (inv_takeL hc hj hne hi)

/-- slot j holds the head of an own row: from here on it is known by its value, and the link leads to the row -/
theorem inv_giveL {c0 j : Nat} {s : SV} {nm sz off n : Nat} (hc : lookS st.slots c0 = some s) (hj : lookS st.slots j = some (.own nm sz off n)) (hi : Inv cx st a w) :
    ∃ A cap, Inv cx ⟨(c0, .lnk s (.slice A n cap) (.own nm sz off n)) :: (j, .raw (.slice A n cap)) :: st.slots, st.heap⟩ a w := by
  obtain ⟨β, hb⟩ := hi
  obtain ⟨v, h1, h2⟩ := hb.slots j _ hj
  obtain ⟨A, cap, rfl⟩ := hdr_form h2
  obtain ⟨v0, h3, h4⟩ := hb.slots c0 _ hc
  refine ⟨A, cap, β, hb.below, hb.old, hb.defers, hb.size, hb.own, hb.sep, hb.rows, fun q t hq => ?_⟩
  rw [lookS_cons] at hq
  split at hq
  · rename_i e; subst e; injection hq with hq; subst hq
    exact ⟨v0, h3, h4, h2⟩
  · rw [lookS_cons] at hq
    split at hq
    · rename_i e; subst e; injection hq with hq; subst hq
      exact ⟨_, h1, rfl⟩
    · exact hb.slots q t hq
theorem jg_giveL (c0 j : Nat) {s : SV} {nm sz off n : Nat} {l : List Oper} (hc : lookS st.slots c0 = some s) (hj : lookS st.slots j = some (.own nm sz off n))
    (h : ∀ A cap, JG P cx ops ⟨(c0, .lnk s (.slice A n cap) (.own nm sz off n)) :: (j, .raw (.slice A n cap)) :: st.slots, st.heap⟩ l k) : JG P cx ops st l k := fun a w hi => by
  obtain ⟨A, cap, h1⟩ := inv_giveL hc hj hi
  exact h A cap a w h1

/-- the linked row is sealed: what the head leads to is a plain list -/
theorem inv_sealL {nm c0 off n : Nat} {rt : RT α} [NM rt] {xs : List α} {s : SV} {u : Value} {hp : List (Nat × HB)} (hs : lookS st.slots c0 = some (.lnk s u (.own nm rt.n off n))) (hn : lookH st.heap nm = some ⟨rt, xs⟩) (hle : off + n ≤ xs.length) (hsub : ∀ j s, lookH hp j = some s → lookH st.heap j = some s) (hno : lookH hp nm = none) (hi : Inv cx st a w) :
    Inv cx ⟨(c0, .lnk s u (.tv (rSlice rt) ((xs.drop off).take n))) :: st.slots, hp⟩ a w := by
  obtain ⟨β, hb⟩ := hi
  have hok : ∀ b, okOf cx st.heap β w b → okOf cx hp β w b := fun b ⟨h1, h2, h3⟩ => ⟨h1, h2, fun k h hk => h3 k h (hsub _ _ hk)⟩
  have hb' : InvB cx ⟨st.slots, hp⟩ β a w := hb.toHeap hsub
  obtain ⟨v, h1, h2, h3⟩ := hb.slots c0 _ hs
  obtain ⟨v', h1', h2', _⟩ := hb'.slots c0 _ hs
  refine ⟨β, hb'.below, hb'.old, hb'.defers, hb'.size, hb'.own, hb'.sep, hb'.rows, fun j s hj => ?_⟩
  simp only [lookS_cons] at hj
  split at hj
  · rename_i e1
    subst e1
    injection hj with hj; subst hj
    refine ⟨v', h1', h2', own_sliceRep hb hn h3 hle hok (fun b o hbo => ?_)⟩
    have := hb.own nm _ hn _ hbo
    exact ⟨.inr this.1, this.2, fun k h hk x hx e1 => by
      have : k = nm := hb.sep k nm _ _ (hsub _ _ hk) hn x (b, o) hx hbo e1
      subst this
      rw [hno] at hk; cases hk⟩
  · exact hb'.slots j s hj
theorem j_sealL (nm c0 : Nat) {off n : Nat} {rt : RT α} [NM rt] {xs : List α} {s : SV} {u : Value} (hp : List (Nat × HB)) (hs : lookS st.slots c0 = some (.lnk s u (.own nm rt.n off n))) (hn : lookH st.heap nm = some ⟨rt, xs⟩) (hle : off + n ≤ xs.length) (hsub : ∀ j s, lookH hp j = some s → lookH st.heap j = some s) (hno : lookH hp nm = none)
    (h : J P cx ⟨(c0, .lnk s u (.tv (rSlice rt) ((xs.drop off).take n))) :: st.slots, hp⟩ c k) : J P cx st c k := fun a w hi => h a w (inv_sealL hs hn hle hsub hno hi)
theorem jg_sealL (nm c0 : Nat) {off n : Nat} {rt : RT α} [NM rt] {xs : List α} {s : SV} {u : Value} {l : List Oper} (hp : List (Nat × HB)) (hs : lookS st.slots c0 = some (.lnk s u (.own nm rt.n off n))) (hn : lookH st.heap nm = some ⟨rt, xs⟩) (hle : off + n ≤ xs.length) (hsub : ∀ j s, lookH hp j = some s → lookH st.heap j = some s) (hno : lookH hp nm = none)
    (h : JG P cx ops ⟨(c0, .lnk s u (.tv (rSlice rt) ((xs.drop off).take n))) :: st.slots, hp⟩ l k) : JG P cx ops st l k := fun a w hi => h a w (inv_sealL hs hn hle hsub hno hi)

/-- the variable's own block reads with the list in its field; the link is dropped -/
theorem inv_castL {c0 nb : Nat} {s : SV} {u : Value} {rt : RT α} {ys : List α} {r1 : RT γ} [NM r1] {d1 : γ} {r2 : RT δ} [NM r2] {d2 : δ} (hc : Casts rt ys u r1 d1 r2 d2) (hnn : r1.n = r2.n) (hs : lookS st.slots c0 = some (.lnk s u (.tv (rSlice rt) ys))) (hn : lookH st.heap nb = some ⟨r1, [d1]⟩) (hi : Inv cx st a w) :
    Inv cx ⟨(c0, s) :: st.slots, (nb, ⟨r2, [d2]⟩) :: st.heap⟩ a w := by
  obtain ⟨β, hb⟩ := hi
  obtain ⟨v0, h0, h1, h2⟩ := hb.slots c0 _ hs
  have hk : ∀ k h, lookH ((nb, HB.mk r2 [d2]) :: st.heap) k = some h → (k = nb ∧ h = ⟨r2, [d2]⟩) ∨ (k ≠ nb ∧ lookH st.heap k = some h) := fun k h hh => by
    rw [lookH_cons] at hh
    split at hh
    · rename_i e; injection hh with hh; exact .inl ⟨e.symm, hh.symm⟩
    · rename_i e; exact .inr ⟨fun e2 => e e2.symm, hh⟩
  have hk' : ∀ k h, lookH ((nb, HB.mk r2 [d2]) :: st.heap) k = some h → ∃ h', lookH st.heap k = some h' := fun k h hh => by
    rcases hk k h hh with ⟨rfl, _⟩ | ⟨_, hh⟩
    · exact ⟨_, hn⟩
    · exact ⟨_, hh⟩
  have hok : ∀ b, okOf cx st.heap β w b → okOf cx ((nb, HB.mk r2 [d2]) :: st.heap) β w b ∧ w.heap[b]? = w.heap[b]? := fun b ⟨g1, g2, g3⟩ => ⟨⟨g1, g2, fun k h hh x hx => by
    obtain ⟨h', hh'⟩ := hk' k h hh
    exact g3 k h' hh' x hx⟩, rfl⟩
  have hkeep : ∀ (t : SV) (v : Value), t.holds β w (okOf cx st.heap β w) v → t.holds β w (okOf cx ((nb, HB.mk r2 [d2]) :: st.heap) β w) v := fun t v hv =>
    SV.keep hok (fun k _ => ⟨rfl, fun b o _ cur e fr hc => ⟨cur, e, fr, hc, rfl⟩⟩) hv
  refine ⟨β, hb.below, hb.old, hb.defers, hb.size, fun k h hh x hx => ?_, fun k k' h h' hh hh' x y hx hy he => ?_, fun k h hh => ?_, fun q t hq => ?_⟩
  · obtain ⟨h', hh'⟩ := hk' k h hh
    exact hb.own k h' hh' x hx
  · obtain ⟨g, hg⟩ := hk' k h hh
    obtain ⟨g', hg'⟩ := hk' k' h' hh'
    exact hb.sep k k' g g' hg hg' x y hx hy he
  · rcases hk k h hh with ⟨rfl, rfl⟩ | ⟨hne, hh⟩
    · have hr := hb.rows k _ hn
      cases hβ : β k with
      | none => rw [hβ] at hr; cases hr
      | some bo =>
        obtain ⟨b, o⟩ := bo
        rw [hβ] at hr
        refine ⟨fun _ => ?_, fun hm => by rw [show r2.mp = false from NM.no] at hm; cases hm⟩
        obtain ⟨cur, e, g1, g2, g3⟩ := hr.1 NM.no
        refine ⟨cur, e, g1, by simpa [← hnn] using g2, fun i x hx => ?_⟩
        cases i with
        | succ i => simp at hx
        | zero =>
          simp at hx; subst hx
          obtain ⟨cs, g4, g5⟩ := g3 0 d1 rfl
          exact ⟨cs, hc.2 _ _ _ ((rSlice rt).val_keep hok h2) (r1.keep hok g4), by simpa [← hnn] using g5⟩
    · exact HB.keep hok (fun x hx => rfl) (hb.rows k h hh)
  · rw [lookS_cons] at hq
    split at hq
    · rename_i e; subst e; injection hq with hq; subst hq
      exact ⟨v0, h0, hkeep _ _ h1⟩
    · obtain ⟨v, g1, g2⟩ := hb.slots q t hq
      exact ⟨v, g1, hkeep _ _ g2⟩
theorem j_castL (c0 nb : Nat) {s : SV} {u : Value} {rt : RT α} {ys : List α} {r1 : RT γ} [NM r1] {d1 : γ} (r2 : RT δ) [NM r2] (d2 : δ) (hc : Casts rt ys u r1 d1 r2 d2) (hnn : r1.n = r2.n) (hs : lookS st.slots c0 = some (.lnk s u (.tv (rSlice rt) ys))) (hn : lookH st.heap nb = some ⟨r1, [d1]⟩)
    (h : J P cx ⟨(c0, s) :: st.slots, (nb, ⟨r2, [d2]⟩) :: st.heap⟩ c k) : J P cx st c k := fun a w hi => h a w (inv_castL hc hnn hs hn hi)
theorem jg_castL (c0 nb : Nat) {s : SV} {u : Value} {rt : RT α} {ys : List α} {r1 : RT γ} [NM r1] {d1 : γ} {l : List Oper} (r2 : RT δ) [NM r2] (d2 : δ) (hc : Casts rt ys u r1 d1 r2 d2) (hnn : r1.n = r2.n) (hs : lookS st.slots c0 = some (.lnk s u (.tv (rSlice rt) ys))) (hn : lookH st.heap nb = some ⟨r1, [d1]⟩)
    (h : JG P cx ops ⟨(c0, s) :: st.slots, (nb, ⟨r2, [d2]⟩) :: st.heap⟩ l k) : JG P cx ops st l k := fun a w hi => h a w (inv_castL hc hnn hs hn hi)
theorem casts_fst {rt : RT α} {ys : List α} {v : Value} {ε : Type} {r0 : RT ε} {r1 : RT γ} {d1 : γ} {r2 : RT δ} {d2 : δ} (x : ε) (h : Casts rt ys v r1 d1 r2 d2) : Casts rt ys v (rPair r1 r0) (d1, x) (rPair r2 r0) (d2, x) :=
  ⟨rfl, fun w ok _ hv ⟨c1, c2, e, g1, g2⟩ => ⟨c1, c2, e, h.2 w ok c1 hv g1, g2⟩⟩

/-- a list in a field of the variable's own block, known by its head from here on -/
def OpenH (r1 : RT γ) (d1 : γ) (r2 : RT δ) (f : Option Addr × Nat × Nat → δ) : Prop :=
  r1.agg = r2.agg ∧ ∀ (w : World) (ok : Ok) (cs : List Value), r1.rep w ok cs d1 → ∃ h, r2.rep w ok cs (f h)
theorem openH_hd {rt : RT α} {ys : List α} : OpenH (rSlice rt) ys rHd (fun h => h) := by
  refine ⟨rfl, fun w ok cs h => ?_⟩
  obtain ⟨A, cap, e, _⟩ := h
  exact ⟨(A, ys.length, cap), e⟩
theorem openH_pair {ε : Type} {r0 : RT ε} {r1 : RT γ} {d1 : γ} {r2 : RT δ} {f : Option Addr × Nat × Nat → δ} (x : ε) (h : OpenH r1 d1 r2 f) : OpenH (rPair r0 r1) (x, d1) (rPair r0 r2) (fun y => (x, f y)) :=
  ⟨rfl, fun w ok _ ⟨c1, c2, e, g1, g2⟩ => by obtain ⟨y, hy⟩ := h.2 w ok c2 g2; exact ⟨y, c1, c2, e, g1, hy⟩⟩
theorem openH_fst {ε : Type} {r0 : RT ε} {r1 : RT γ} {d1 : γ} {r2 : RT δ} {f : Option Addr × Nat × Nat → δ} (x : ε) (h : OpenH r1 d1 r2 f) : OpenH (rPair r1 r0) (d1, x) (rPair r2 r0) (fun y => (f y, x)) :=
  ⟨rfl, fun w ok _ ⟨c1, c2, e, g1, g2⟩ => by obtain ⟨y, hy⟩ := h.2 w ok c1 g1; exact ⟨y, c1, c2, e, hy, g2⟩⟩
theorem inv_openH {nb : Nat} {r1 : RT γ} [NM r1] {d1 : γ} {r2 : RT δ} [NM r2] {f : Option Addr × Nat × Nat → δ} (hc : OpenH r1 d1 r2 f) (hnn : r1.n = r2.n) (hn : lookH st.heap nb = some ⟨r1, [d1]⟩) (hi : Inv cx st a w) :
    ∃ h, Inv cx ⟨st.slots, (nb, ⟨r2, [f h]⟩) :: st.heap⟩ a w := by
  obtain ⟨β, hb⟩ := hi
  have hr := hb.rows nb _ hn
  cases hβ : β nb with
  | none => rw [hβ] at hr; cases hr
  | some bo =>
  obtain ⟨b, o⟩ := bo
  rw [hβ] at hr
  obtain ⟨cur, e, g1, g2, g3⟩ := hr.1 NM.no
  obtain ⟨cs, g4, g5⟩ := g3 0 d1 rfl
  obtain ⟨h, hh2⟩ := hc.2 _ _ _ g4
  refine ⟨h, ?_⟩
  have hk : ∀ k h', lookH ((nb, HB.mk r2 [f h]) :: st.heap) k = some h' → (k = nb ∧ h' = ⟨r2, [f h]⟩) ∨ (k ≠ nb ∧ lookH st.heap k = some h') := fun k h' hh => by
    rw [lookH_cons] at hh
    split at hh
    · rename_i e; injection hh with hh; exact .inl ⟨e.symm, hh.symm⟩
    · rename_i e; exact .inr ⟨fun e2 => e e2.symm, hh⟩
  have hk' : ∀ k h', lookH ((nb, HB.mk r2 [f h]) :: st.heap) k = some h' → ∃ h'', lookH st.heap k = some h'' := fun k h' hh => by
    rcases hk k h' hh with ⟨rfl, _⟩ | ⟨_, hh⟩
    · exact ⟨_, hn⟩
    · exact ⟨_, hh⟩
  have hok : ∀ b, okOf cx st.heap β w b → okOf cx ((nb, HB.mk r2 [f h]) :: st.heap) β w b ∧ w.heap[b]? = w.heap[b]? := fun b ⟨g1, g2, g3⟩ => ⟨⟨g1, g2, fun k h' hh x hx => by
    obtain ⟨h'', hh'⟩ := hk' k h' hh
    exact g3 k h'' hh' x hx⟩, rfl⟩
  have hkeep : ∀ (t : SV) (v : Value), t.holds β w (okOf cx st.heap β w) v → t.holds β w (okOf cx ((nb, HB.mk r2 [f h]) :: st.heap) β w) v := fun t v hv =>
    SV.keep hok (fun k _ => ⟨rfl, fun b o _ cur e fr hc => ⟨cur, e, fr, hc, rfl⟩⟩) hv
  refine ⟨β, hb.below, hb.old, hb.defers, hb.size, fun k h' hh x hx => ?_, fun k k' h' h'' hh hh' x y hx hy he => ?_, fun k h' hh => ?_, fun q t hq => ?_⟩
  · obtain ⟨g, hg⟩ := hk' k h' hh
    exact hb.own k g hg x hx
  · obtain ⟨q, hg⟩ := hk' k h' hh
    obtain ⟨q', hg'⟩ := hk' k' h'' hh'
    exact hb.sep k k' q q' hg hg' x y hx hy he
  · rcases hk k h' hh with ⟨rfl, rfl⟩ | ⟨hne, hh⟩
    · rw [hβ]
      refine ⟨fun _ => ?_, fun hm => by rw [show r2.mp = false from NM.no] at hm; cases hm⟩
      refine ⟨cur, e, g1, by simpa [← hnn] using g2, fun i x hx => ?_⟩
      cases i with
      | succ i => simp at hx
      | zero =>
        simp at hx; subst hx
        exact ⟨cs, r2.keep hok hh2, by simpa [← hnn] using g5⟩
    · exact HB.keep hok (fun x hx => rfl) (hb.rows k h' hh)
  · obtain ⟨v, g1, g2⟩ := hb.slots q t hq
    exact ⟨v, g1, hkeep _ _ g2⟩
theorem j_openH (nb : Nat) {r1 : RT γ} [NM r1] {d1 : γ} (r2 : RT δ) [NM r2] {f : Option Addr × Nat × Nat → δ} (hc : OpenH r1 d1 r2 f) (hnn : r1.n = r2.n) (hn : lookH st.heap nb = some ⟨r1, [d1]⟩)
    (h : ∀ y, J P cx ⟨st.slots, (nb, ⟨r2, [f y]⟩) :: st.heap⟩ c k) : J P cx st c k := fun a w hi => by
  obtain ⟨y, h1⟩ := inv_openH hc hnn hn hi
  exact h y a w h1

/-! ### a region that draws its order, but for its end: from operation m on the order is forced -/
def JT (P : Program) (cx : Cx) (l : List Oper) (i : Nat) (st : St) (k : Kn) : Prop := ∀ a w, Inv cx st a w → wpAny P .any l.toArray (k.post P) (l.length - i) (mkL l.toArray.size i) a w
theorem jt_nil {l : List Oper} {i : Nat} (hi' : i = l.length) (hn : JN P cx st k) : JT P cx l i st k := by
  subst hi'
  intro a w hi
  rw [Nat.sub_self]
  refine ⟨?_, hn a w hi⟩
  cases hr : Region.ready .any l.toArray (mkL l.toArray.size l.length) with
  | nil => rfl
  | cons i r =>
    exfalso
    have hmem : i ∈ Region.ready .any l.toArray (mkL l.toArray.size l.length) := by rw [hr]; simp
    obtain ⟨hun, oi, hoi, _⟩ := mem_ready.1 hmem
    have := (Array.getElem?_eq_some_iff.1 hoi).1
    rw [mkL_getD true this] at hun
    simp at hun
    simp at this
    omega
theorem jt_step {l : List Oper} {i : Nat} {om : Oper} (hom : l[i]? = some om) (hg : om.guard = none) (hrd : Region.ready .any l.toArray (mkL l.toArray.size i) = [i])
    (h : ∀ a w, Inv cx st a w → ∀ Q, om.wp P a w (fun a' w' => Inv cx st' a' w') Q) (hn : JT P cx l (i + 1) st' k) : JT P cx l i st k := by
  intro a w hi
  have hil : i < l.length := (List.getElem?_eq_some_iff.1 hom).1
  have homs : l.toArray[i]? = some om := by simpa using hom
  rw [show l.length - i = l.length - (i + 1) + 1 by omega]
  refine ⟨fun hnil => (by rw [hrd] at hnil; cases hnil), fun j hr => ?_⟩
  rw [hrd] at hr
  obtain rfl : j = i := by simpa using hr
  have hset : (mkL l.toArray.size j).setIfInBounds j true = mkL l.toArray.size (j + 1) := by
    refine eq_mkL (by simp [mkL]) fun q hq => ?_
    by_cases e : j = q
    · subst e
      simp [mkL, hil]
    · rw [getD_set_ne false e, mkL_getD false hq]
      simp; omega
  rw [hset]
  unfold wpOp
  simp only [homs]
  rw [if_pos (by simp [Region.wanted, hg])]
  exact .inl (Oper.wp_mono hn (h a w hi _))
theorem jt_os {l : List Oper} {i : Nat} {om : Oper} (st1 : St) (hom : l[i]? = some om) (hg : om.guard = none) (hrd : Region.ready .any l.toArray (mkL l.toArray.size i) = [i]) (h : OS P cx om st st1) (hn : JT P cx l (i + 1) st1 k) : JT P cx l i st k :=
  jt_step hom hg hrd (fun a w hi Q => h a w hi Q) hn
theorem jt_adr {l : List Oper} {i : Nat} {om : Oper} (s : SV) (d : Nat) (hom : l[i]? = some om) (hg : om.guard = none) (hd : om.dst = some d) (hdn : Nat.blt d cx.n = true) (hrd : Region.ready .any l.toArray (mkL l.toArray.size i) = [i]) (h : Adr P cx st om s) (hn : JT P cx l (i + 1) (st.put d s) k) : JT P cx l i st k :=
  jt_step hom hg hrd (fun a w hi Q => h st (.refl om st) d hd (by simpa using hdn) a w hi Q) hn
theorem jt_takeL (c0 j : Nat) {s t : SV} {u : Value} {l : List Oper} {i : Nat} (hc : lookS st.slots c0 = some (.lnk s u t)) (hj : lookS st.slots j = some (.raw u)) (hne : Nat.beq j c0 = false) (h : JT P cx l i ⟨(c0, s) :: (j, t) :: st.slots, st.heap⟩ k) : JT P cx l i st k := fun a w hi => h a w (inv_takeL hc hj hne hi)
theorem jt_giveL (c0 j : Nat) {s : SV} {nm sz off n : Nat} {l : List Oper} {i : Nat} (hc : lookS st.slots c0 = some s) (hj : lookS st.slots j = some (.own nm sz off n))
    (h : ∀ A cap, JT P cx l i ⟨(c0, .lnk s (.slice A n cap) (.own nm sz off n)) :: (j, .raw (.slice A n cap)) :: st.slots, st.heap⟩ k) : JT P cx l i st k := fun a w hi => by
  obtain ⟨A, cap, h1⟩ := inv_giveL hc hj hi
  exact h A cap a w h1
theorem j_draw_tail {id : Nat} {l : List Oper} {cs1 : List (Nat × SV)} (m : Nat) (hm : P.follows .mixedOrders = true) (hB : drawB l.toArray = true) (hbar : barB l.toArray m = true) (hml : m < l.length)
    (has1 : AS P cx l.toArray st (l.take m) cs1) (ht : JT P cx l m (stOf st cs1 (fun _ => true)) k) : J P cx st (.region id l.toArray true) k := by
  have dk := drawOk_of hB
  unfold barB at hbar
  rw [Bool.and_eq_true, List.all_eq_true, List.all_eq_true] at hbar
  obtain ⟨hb1, hb2⟩ := hbar
  intro a w hi
  refine wp_region_any hm ?_
  obtain ⟨β, hb⟩ := hi
  have hi0 : Inv cx st a w.drew := ⟨β, hb.later (Below.drew' w)⟩
  have hst0 : Inv cx (stOf st cs1 (fun i => (Array.replicate l.toArray.size false).getD (0 + i) false)) a w.drew := by
    refine Sub.inv ⟨fun i s hs => ?_, fun i s hs => ?_⟩ hi0
    · rw [stOf_look, lookC_none (fun j c _ _ => getD_replicate_false _ _)] at hs; simpa using hs
    · rw [stOf_heap] at hs; exact hs
  have hL : Lst l.toArray 0 m (Array.replicate l.toArray.size false) :=
    ⟨by simp, fun i h => by omega, fun i h1 h2 => by simp only [List.size_toArray] at h2; simp [h2], fun j oj hj hl => by rw [getD_replicate_false] at hl; cases hl⟩
  have hu : unl (Array.replicate l.toArray.size false) = m + (l.toArray.size - m) := by rw [unl_rep]; simp; omega
  -- behind m nothing runs ahead of m
  have hbehind : ∀ (hi' : Nat) (listed : Array Bool), hi' ≤ m → Lst l.toArray 0 hi' listed → ∀ i ∈ Region.ready .any l.toArray listed, m < i → False := by
    intro hi' listed hh hL i hr hgt
    obtain ⟨_, oi, hoi, hdeps⟩ := mem_ready.1 hr
    have his := (Array.getElem?_eq_some_iff.1 hoi).1
    have := hb2 i (List.mem_range.2 his)
    simp only [hoi, Bool.or_eq_true, decide_eq_true_eq] at this
    rcases this with h | h
    · omega
    · obtain ⟨e, he, hbe⟩ := Array.any_eq_true'.1 h
      simp only [Bool.and_eq_true, decide_eq_true_eq] at hbe
      have hlt := dk.back i oi hoi e he hbe.1
      have h1 := hdeps e he hbe.1
      have h2 := hL.high e.on (by omega) (by omega)
      rw [getD_tf (by rw [hL.size]; omega), h1] at h2
      cases h2
  have hmid : ∀ a w, Inv cx (stOf st cs1 (fun _ => true)) a w → wpAny P .any l.toArray (k.post P) (l.length - (m + 1) + 1) (mkL l.toArray.size m) a w := by
    intro a w hi
    have := ht a w hi
    rwa [show l.length - m = l.length - (m + 1) + 1 by omega] at this
  have := draw_seg (P := P) (Q := k.post P) (g := l.length - (m + 1) + 1) dk (lo := 0) (hi := m) (Nat.zero_le _) (by simp; omega) (by simp; omega) (fun i hi => by
      simp only [List.length_take] at hi
      rw [List.getElem?_take_of_lt (by omega)]; simp) has1
    (fun listed hL i hr hge => by
      have him : i = m := by
        rcases Nat.lt_or_ge m i with h | h
        · exact absurd h (fun h => hbehind m _ (Nat.le_refl _) hL i hr h)
        · omega
      subst him
      obtain ⟨_, oi, hoi, hdeps⟩ := mem_ready.1 hr
      have hall : ∀ d j, i - j = d → j < i → listed.getD j false = true := by
        intro d
        induction d using Nat.strongRecOn with
        | _ d ihd =>
          intro j hd hj
          have h1 := hb1 j (List.mem_range.2 hj)
          obtain ⟨j', hj', hj2⟩ := List.any_eq_true.1 h1
          simp only [Bool.and_eq_true, decide_eq_true_eq] at hj2
          obtain ⟨oj, hoj, e, he, hbe, hon⟩ := Region.waitsFor_spec hj2.2
          have hle : j' ≤ i := by have := List.mem_range.1 hj'; omega
          by_cases hji : j' = i
          · subst hji
            rw [hoj] at hoi
            injection hoi with hoi
            subst hoi
            rw [← hon]; exact hdeps e he hbe
          · have := ihd (i - j') (by omega) j' rfl (by omega)
            rw [← hon]; exact hL.closed j' oj hoj this e he hbe
      have he : listed = mkL l.toArray.size i := eq_mkL hL.size fun j hj => by
        by_cases e : j < i
        · simp [e, hall (i - j) j rfl e]
        · have hh := hL.high j (by omega) hj
          rw [getD_tf (by rw [hL.size]; exact hj)] at hh
          simp [e, hh]
      have hcnt : ∀ n mm : Nat, unl (mkL n mm) = n - mm := by
        intro n mm
        unfold unl mkL
        rw [Array.toList_map, Array.toList_range, List.countP_map]
        induction n with
        | zero => simp
        | succ n ih =>
          rw [List.range_succ, List.countP_append, ih]
          simp only [List.countP_cons, List.countP_nil, Function.comp]
          by_cases e : n < mm
          · simp [e]; omega
          · simp [e]; omega
      rw [he, hcnt])
    hmid m _ hL hu a w.drew hst0
  have e2 : l.toArray.size = m + (l.length - (m + 1) + 1) := by simp; omega
  rw [e2]
  rw [e2] at this
  exact this
end
end Go.Eng
