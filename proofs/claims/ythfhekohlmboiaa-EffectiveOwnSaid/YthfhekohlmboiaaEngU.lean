import Derived.Test.YthfhekohlmboiaaEngO
set_option maxRecDepth 100000
set_option linter.unusedVariables false
set_option linter.unusedSimpArgs false
namespace Go.Eng
/-! ### worlds that differ in numbers and texts alone -/
inductive CS : Value → Value → Prop
  | refl (v : Value) : CS v v
  | int (k : IntKind) (x y : Int) : CS (.int k x) (.int k y)
  | str (s t : List UInt8) : CS (strV s) (strV t)
structure CSL (cs cs' : List Value) : Prop where
  len : cs'.length = cs.length
  at_ : ∀ (i : Nat) c, cs[i]? = some c → ∃ c', cs'[i]? = some c' ∧ CS c c'
structure WS (w w' : World) : Prop where
  size : w'.heap.size = w.heap.size
  blk : ∀ (b : Nat) cur e fr, w.heap[b]? = some (.cells cur e fr) → ∃ cur', w'.heap[b]? = some (.cells cur' e fr) ∧ cur'.size = cur.size ∧ ∀ (j : Nat) c, cur[j]? = some c → ∃ c', cur'[j]? = some c' ∧ CS c c'
theorem CSL.refl (cs : List Value) : CSL cs cs := ⟨rfl, fun i c h => ⟨c, h, .refl c⟩⟩
theorem CSL.one {c : Value} {cs' : List Value} (h : CSL [c] cs') : ∃ c', cs' = [c'] ∧ CS c c' := by
  obtain ⟨c', h1, h2⟩ := h.at_ 0 c rfl
  have hl := h.len
  match cs', hl, h1 with
  | [x], _, h1 => simp at h1; subst h1; exact ⟨_, rfl, h2⟩
theorem CSL.left {c1 c2 cs' : List Value} (h : CSL (c1 ++ c2) cs') : CSL c1 (cs'.take c1.length) := by
  refine ⟨by have := h.len; simp at this ⊢; omega, fun i c hi => ?_⟩
  have hil := (List.getElem?_eq_some_iff.1 hi).1
  obtain ⟨c', h1, h2⟩ := h.at_ i c (by rw [List.getElem?_append_left hil]; exact hi)
  exact ⟨c', by rw [List.getElem?_take_of_lt hil]; exact h1, h2⟩
theorem CSL.right {c1 c2 cs' : List Value} (h : CSL (c1 ++ c2) cs') : CSL c2 (cs'.drop c1.length) := by
  refine ⟨by have := h.len; simp at this ⊢; omega, fun i c hi => ?_⟩
  obtain ⟨c', h1, h2⟩ := h.at_ (c1.length + i) c (by rw [List.getElem?_append_right (by omega)]; simpa using hi)
  exact ⟨c', by rw [List.getElem?_drop]; exact h1, h2⟩
theorem WS.cells {w w' : World} (h : WS w w') {b o : Nat} {cs : List Value} (hc : CellsAt w b o cs) : ∃ cs', CellsAt w' b o cs' ∧ CSL cs cs' := by
  have key : ∀ j v, cs[j]? = some v → ∃ v', w'.cell? ⟨b, o + j, none⟩ = some v' ∧ CS v v' := fun j v hj => by
    have h1 := hc j v hj
    unfold World.cell? at h1 ⊢
    split at h1
    · rename_i cur e fr hb
      obtain ⟨cur', g1, g2, g3⟩ := h.blk b cur e fr hb
      have h1 : cur[o + j]? = some v := by simpa using h1
      obtain ⟨v', g4, g5⟩ := g3 _ _ h1
      have hb' : w'.heap[b]? = some (.cells cur' e fr) := g1
      exact ⟨v', by simp only [hb']; simpa using g4, g5⟩
    · cases h1
  refine ⟨(List.range cs.length).map fun j => (w'.cell? ⟨b, o + j, none⟩).getD undef, fun j v hj => ?_, ?_, fun i c hi => ?_⟩
  · have hjl : j < cs.length := by have := (List.getElem?_eq_some_iff.1 hj).1; simpa using this
    obtain ⟨v', h1, _⟩ := key j cs[j] (List.getElem?_eq_getElem hjl)
    simp [hjl, h1] at hj
    rw [h1, hj]
  · simp
  · have hil := (List.getElem?_eq_some_iff.1 hi).1
    obtain ⟨v', h1, h2⟩ := key i c hi
    exact ⟨v', by simp [hil, h1], h2⟩
/-- what reads as d reads as something of the same shape -/
structure Stab {α : Type} (rt : RT α) (sh : α → α → Prop) : Prop where
  st : ∀ {w w' : World} {ok : Ok} {cs cs' : List Value} {d : α}, WS w w' → CSL cs cs' → rt.rep w ok cs d → ∃ d', rt.rep w' ok cs' d' ∧ sh d d'
/-- the same list, element for element -/
structure ShL {α : Type} (sh : α → α → Prop) (xs ys : List α) : Prop where
  len : ys.length = xs.length
  at_ : ∀ (i : Nat) x y, xs[i]? = some x → ys[i]? = some y → sh x y
abbrev ShT {α : Type} (_ _ : α) : Prop := True
theorem stab_int (k : IntKind) : Stab (rInt k) ShT := ⟨fun {w w' ok cs cs' d} _ hc h => by
  have h : cs = [.int k d] := h
  subst h
  obtain ⟨c', rfl, h2⟩ := hc.one
  cases h2 with
  | refl => exact ⟨d, rfl, trivial⟩
  | int _ _ y => exact ⟨y, rfl, trivial⟩⟩
theorem stab_bool : Stab rBool ShT := ⟨fun {w w' ok cs cs' d} _ hc h => by
  have h : cs = [.bool d] := h
  subst h
  obtain ⟨c', rfl, h2⟩ := hc.one
  cases h2 with
  | refl => exact ⟨d, rfl, trivial⟩⟩
theorem stab_str : Stab rStr ShT := ⟨fun {w w' ok cs cs' d} _ hc h => by
  have h : cs = [strV d] := h
  subst h
  obtain ⟨c', rfl, h2⟩ := hc.one
  generalize hv : strV d = v at h2
  cases h2 with
  | refl => subst hv; exact ⟨d, rfl, trivial⟩
  | int => cases hv
  | str _ t => exact ⟨t, rfl, trivial⟩⟩
def ShP {α β : Type} (sa : α → α → Prop) (sb : β → β → Prop) (x y : α × β) : Prop := sa x.1 y.1 ∧ sb x.2 y.2
theorem Stab.pair {α β : Type} {a : RT α} {b : RT β} {sa : α → α → Prop} {sb : β → β → Prop} (h1 : Stab a sa) (h2 : Stab b sb) : Stab (rPair a b) (ShP sa sb) := ⟨fun {w w' ok cs cs' d} hw hc h => by
  obtain ⟨c1, c2, rfl, g1, g2⟩ := h
  obtain ⟨x, k1, k2⟩ := h1.st hw hc.left g1
  obtain ⟨y, k3, k4⟩ := h2.st hw hc.right g2
  exact ⟨(x, y), ⟨_, _, (List.take_append_drop _ _).symm, k1, k3⟩, k2, k4⟩⟩
theorem exL {α : Type} {R : Nat → α → α → Prop} : ∀ (xs : List α) (n : Nat), (∀ (i : Nat) x, xs[i]? = some x → ∃ y, R (n + i) x y) → ∃ ys : List α, ys.length = xs.length ∧ ∀ (i : Nat) x y, xs[i]? = some x → ys[i]? = some y → R (n + i) x y
  | [], n, _ => ⟨[], rfl, fun i x y h => by simp at h⟩
  | x :: xs, n, h => by
    obtain ⟨y, hy⟩ := h 0 x rfl
    obtain ⟨ys, h1, h2⟩ := exL xs (n + 1) (fun i z hz => by rw [show n + 1 + i = n + (i + 1) by omega]; exact h (i + 1) z (by simpa using hz))
    refine ⟨y :: ys, by simp [h1], fun i a b ha hb => ?_⟩
    cases i with
    | zero => simp at ha hb; subst ha; subst hb; exact hy
    | succ i => rw [show n + (i + 1) = n + 1 + i by omega]; exact h2 i a b (by simpa using ha) (by simpa using hb)
theorem Stab.slice {α : Type} {e : RT α} {sh : α → α → Prop} (h : Stab e sh) : Stab (rSlice e) (ShL sh) := ⟨fun {w w' ok cs cs' d} hw hc hr => by
  obtain ⟨A, cap, rfl, h1, h2, h3⟩ := hr
  obtain ⟨c', rfl, hcs⟩ := hc.one
  cases hcs with
  | refl =>
    by_cases hne : d = []
    · subst hne
      exact ⟨[], ⟨A, cap, rfl, h1, h2, fun q => absurd rfl q⟩, rfl, fun i x y q => by simp at q⟩
    · obtain ⟨b, o, rfl, hb, hx⟩ := h3 hne
      obtain ⟨ys, hl, hy⟩ := exL (R := fun i x y => (∃ cs, e.rep w' ok cs y ∧ CellsAt w' b (o + i * e.n) cs) ∧ sh x y) d 0 (fun i x hi => by
        obtain ⟨cs, g1, g2⟩ := hx i x hi
        rw [Nat.zero_add]
        obtain ⟨cs', g3, g4⟩ := hw.cells g2
        obtain ⟨y, g5, g6⟩ := h.st hw g4 g1
        exact ⟨y, ⟨cs', g5, g3⟩, g6⟩)
      refine ⟨ys, ⟨_, cap, by rw [hl], by omega, h2, fun _ => ⟨b, o, rfl, hb, fun i y hi => ?_⟩⟩, hl, fun i x y hi hj => by have := (hy i x y hi hj).2; exact this⟩
      have hil : i < d.length := by rw [← hl]; exact (List.getElem?_eq_some_iff.1 hi).1
      have := (hy i _ y (List.getElem?_eq_getElem hil) hi).1
      rw [Nat.zero_add] at this; exact this⟩
theorem Stab.sliceF {α : Type} {B : Nat} {e : RT α} {sh : α → α → Prop} (h : Stab e sh) : Stab (rSliceF B e) (ShL sh) := ⟨fun {w w' ok cs cs' d} hw hc hr => by
  obtain ⟨A, cap, rfl, h1, h2, h3⟩ := hr
  obtain ⟨c', rfl, hcs⟩ := hc.one
  cases hcs with
  | refl =>
    by_cases hne : d = []
    · subst hne
      exact ⟨[], ⟨A, cap, rfl, h1, h2, fun q => absurd rfl q⟩, rfl, fun i x y q => by simp at q⟩
    · obtain ⟨b, o, rfl, hb, hB, ⟨cur, ty, hh⟩, hx⟩ := h3 hne
      obtain ⟨ys, hl, hy⟩ := exL (R := fun i x y => (∃ cs, e.rep w' ok cs y ∧ CellsAt w' b (o + i * e.n) cs) ∧ sh x y) d 0 (fun i x hi => by
        obtain ⟨cs, g1, g2⟩ := hx i x hi
        rw [Nat.zero_add]
        obtain ⟨cs', g3, g4⟩ := hw.cells g2
        obtain ⟨y, g5, g6⟩ := h.st hw g4 g1
        exact ⟨y, ⟨cs', g5, g3⟩, g6⟩)
      obtain ⟨cur', k1, _, _⟩ := hw.blk b cur ty _ hh
      refine ⟨ys, ⟨_, cap, by rw [hl], by omega, h2, fun _ => ⟨b, o, rfl, hb, hB, ⟨cur', ty, k1⟩, fun i y hi => ?_⟩⟩, hl, fun i x y hi hj => by have := (hy i x y hi hj).2; exact this⟩
      have hil : i < d.length := by rw [← hl]; exact (List.getElem?_eq_some_iff.1 hi).1
      have := (hy i _ y (List.getElem?_eq_getElem hil) hi).1
      rw [Nat.zero_add] at this; exact this⟩

section
variable {P : Program} {cx : Cx} {st st' : St} {β : Loc} {a : Act} {w w' : World} {ops : Array Oper} {k : Kn} {c : Code}
variable {ty : TypeId} {pos : String} {aft : Array Edge}
/-- what is known whatever the world holds -/
def SV.fixd : SV → Bool
  | .raw _ => true
  | .optr _ _ _ _ => true
  | _ => false
theorem SV.fixd_holds {s : SV} (h : s.fixd = true) {ok ok' : Ok} {v : Value} (hv : s.holds β w ok v) : s.holds β w' ok' v := by
  cases s with
  | raw u => exact hv
  | optr nm sz i f => exact hv
  | _ => cases h
/-- a cell of a late block is written: each variable reads as something of the same shape -/
theorem run_storeF {γ : Type} {B : Nat} {rc : RT γ} {z : γ} {u : Value} {x v : Operand} {t : TypeId} (hi : InvB cx st β a w) (hB : cx.w0.heap.size ≤ B) (ht : Ty P t rc) (hcs : ∀ w ok cs, rc.rep w ok cs z → ∃ c, cs = [c] ∧ CS c u) (hu : u.cells = #[u] ∧ u.oneCell' = true) (hx : Ev st x (.tv (rPtrF B rc) z)) (hv : Ev st v (.raw u)) :
    ∃ w', (execOp a.eval ⟨none, .store t x v, ty, pos, aft, none⟩).run P w = .ok .skip w' ∧ WS w w' ∧ BelowX cx.ex cx.w0.heap.size cx.w0 w' ∧ ∃ b, okOf cx st.heap β w b ∧ ∀ q, q ≠ b → w'.heap[q]? = w.heap[q]? := by
  obtain ⟨cs, ⟨b, p, rfl, hb, hBb, ⟨cur, ety, hh⟩, cs', h6, h7⟩, h1⟩ := hi.ev hx
  have h1 : a.eval x = .pointer (some ⟨b, p, none⟩) := by rw [h1]; simp [rPtrF]
  have h2 := hi.raw hv
  obtain ⟨cc, rfl, hcc⟩ := hcs _ _ _ h6
  have hcell := h7 0 cc rfl
  have hcur : cur[p]? = some cc := by simpa [World.cell?, hh] using hcell
  have hpl : p < cur.size := (Array.getElem?_eq_some_iff.1 hcur).1
  have hn1 : rc.n = 1 := by have := rc.len h6; simpa using this.symm
  obtain ⟨_, i0, hi0, hs⟩ := ht
  have hst := run_storeCells_at P b p ety [u] 0 cur w hh (by simp; omega) (by simp [hu.2])
  simp only [Nat.add_zero, List.length_singleton] at hst
  refine ⟨w.setRow b (cur.toList.take p ++ [u] ++ cur.toList.drop (p + 1)).toArray, ?_, ?_, ?_, b, hb, fun q hq => setRow_other _ _ _ _ hq⟩
  · simp only [execOp, Instr.storeAt, h1, h2, Instr.sureAddr, Sem.run_bind, Sem.run_pure, Result.andThen_ok, storeVar, run_sizeOf hi0, hs]
    rw [if_neg (by rw [hu.1, hn1]; simp)]
    rw [hu.1, hst]
    rfl
  · have hget : ∀ (j : Nat) (c : Value), cur[j]? = some c → ∃ c', (cur.toList.take p ++ [u] ++ cur.toList.drop (p + 1)).toArray[j]? = some c' ∧ CS c c' := by
      intro j c hj
      have hjl : j < cur.size := (Array.getElem?_eq_some_iff.1 hj).1
      have e1 : (cur.toList.take p).length = p := by simp; omega
      rw [List.getElem?_toArray, List.append_assoc]
      by_cases q1 : j < p
      · exact ⟨c, by rw [List.getElem?_append_left (by omega), List.getElem?_take_of_lt q1]; simpa using hj, .refl c⟩
      · by_cases q2 : j = p
        · subst q2
          rw [hcur] at hj; injection hj with hj; subst hj
          exact ⟨u, by rw [List.getElem?_append_right (by omega), e1]; simp, hcc⟩
        · refine ⟨c, ?_, .refl c⟩
          rw [List.getElem?_append_right (by omega), e1, List.getElem?_append_right (by simp; omega), List.getElem?_drop]
          rw [show p + 1 + (j - p - [u].length) = j by simp; omega]
          simpa using hj
    refine ⟨by simp [World.setRow], fun q cur1 e1 fr1 hq => ?_⟩
    by_cases e : q = b
    · subst e
      rw [hh] at hq
      injection hq with hq
      injection hq with g1 g2 g3
      subst g1; subst g2; subst g3
      exact ⟨_, setRow_heap _ _ _ _ _ _ hh, by simp; omega, hget⟩
    · exact ⟨cur1, by rw [setRow_other _ _ _ _ e]; exact hq, rfl, fun j c hj => ⟨c, hj, .refl c⟩⟩
  · refine ⟨hi.below.os, hi.below.tape, hi.below.output, by simpa [World.setRow] using hi.below.size, fun q hq hx => ?_, hi.below.drawn⟩
    rw [setRow_other _ _ _ _ (by omega)]
    exact hi.below.blockX q hq hx
/-- all that is left is known anew -/
theorem inv_after {sl : List (Nat × SV)} {hp : List (Nat × HB)} (hi : InvB cx st β a w) (hw : WS w w') (hbel : BelowX cx.ex cx.w0.heap.size cx.w0 w') (hsl : ∀ i s, lookS sl i = some s → lookS st.slots i = some s ∧ s.fixd = true)
    (hnm : ∀ nm h', lookH hp nm = some h' → ∃ h, lookH st.heap nm = some h) (hnm2 : ∀ nm h, lookH st.heap nm = some h → ∃ h', lookH hp nm = some h') (hrows : ∀ nm h', lookH hp nm = some h' → h'.holds w' (okOf cx st.heap β w) (β nm)) : InvB cx ⟨sl, hp⟩ β a w' := by
  have hok : ∀ b, okOf cx st.heap β w b → okOf cx hp β w' b := fun b ⟨h1, h2, h3⟩ => ⟨h1, by rw [hw.size]; exact h2, fun nm h' hh => by obtain ⟨h, g⟩ := hnm nm h' hh; exact h3 nm h g⟩
  refine ⟨hbel, hi.old, hi.defers, hi.size, fun nm h' hh x hx => ?_, fun nm nm' h1 h2 g1 g2 => ?_, fun nm h' hh => HB.keep (fun b hb => ⟨hok b hb, rfl⟩) (fun _ _ => rfl) (hrows nm h' hh), fun i s hs => ?_⟩
  · obtain ⟨h, g⟩ := hnm nm h' hh
    rw [hw.size]; exact hi.own nm h g x hx
  · obtain ⟨_, k1⟩ := hnm nm h1 g1
    obtain ⟨_, k2⟩ := hnm nm' h2 g2
    exact hi.sep nm nm' _ _ k1 k2
  · obtain ⟨h1, h2⟩ := hsl i s hs
    obtain ⟨v, g1, g2⟩ := hi.slots i s h1
    exact ⟨v, g1, SV.fixd_holds h2 g2⟩
theorem row_after {α : Type} {rt : RT α} [NM rt] {sh : α → α → Prop} {d : α} {nm b : Nat} (hst : Stab rt sh) (hi : InvB cx st β a w) (hw : WS w w') (hn : lookH st.heap nm = some ⟨rt, [d]⟩) (hb : okOf cx st.heap β w b) (hq : ∀ q, q ≠ b → w'.heap[q]? = w.heap[q]?) :
    ∃ d', (HB.mk rt [d']).holds w' (okOf cx st.heap β w) (β nm) ∧ sh d d' := by
  have h0 := hi.rows nm _ hn
  cases hβ : β nm with
  | none => rw [hβ] at h0; cases h0
  | some x =>
    obtain ⟨b', o⟩ := x
    rw [hβ] at h0
    obtain ⟨cur, e, h1, h2, h3⟩ := h0.1 (NM.no (rt := rt))
    have hne : b' ≠ b := hb.2.2 nm _ hn _ hβ
    obtain ⟨cs, h4, h5⟩ := h3 0 d rfl
    obtain ⟨d', g1, g2⟩ := hst.st hw (CSL.refl cs) h4
    refine ⟨d', ⟨fun _ => ⟨cur, e, by rw [hq _ hne]; exact h1, by simpa using h2, fun i x hx => ?_⟩, fun q => absurd q (by show rt.mp ≠ true; rw [NM.no (rt := rt)]; decide)⟩, g2⟩
    have hi0 : i = 0 := by have := (List.getElem?_eq_some_iff.1 hx).1; simpa using this
    subst hi0
    simp at hx; subst hx
    exact ⟨cs, g1, h5⟩
/-- the store, with one variable -/
theorem inv_storeF1 {γ : Type} {B : Nat} {rc : RT γ} {z : γ} {u : Value} {x v : Operand} {t : TypeId} {α : Type} {rt : RT α} [NM rt] {sh : α → α → Prop} {d : α} {nm : Nat} {sl : List (Nat × SV)} (hB : cx.w0.heap.size ≤ B) (ht : Ty P t rc) (hcs : ∀ w ok cs, rc.rep w ok cs z → ∃ c, cs = [c] ∧ CS c u) (hu : u.cells = #[u] ∧ u.oneCell' = true) (hx : Ev st x (.tv (rPtrF B rc) z)) (hv : Ev st v (.raw u))
    (hst : Stab rt sh) (hh : st.heap = [(nm, ⟨rt, [d]⟩)]) (hsl : ∀ i s, lookS sl i = some s → lookS st.slots i = some s ∧ s.fixd = true) (hi : Inv cx st a w) (Q) :
    (⟨none, .store t x v, ty, pos, aft, none⟩ : Oper).wp P a w (fun a' w' => ∃ d', sh d d' ∧ Inv cx ⟨sl, [(nm, ⟨rt, [d']⟩)]⟩ a' w') Q := by
  obtain ⟨β, hb⟩ := hi
  obtain ⟨w', h1, h2, h3, b, h4, h5⟩ := run_storeF (ty := ty) (pos := pos) (aft := aft) hb hB ht hcs hu hx hv
  have hn : lookH st.heap nm = some ⟨rt, [d]⟩ := by rw [hh, lookH_cons, if_pos rfl]
  obtain ⟨d', g1, g2⟩ := row_after hst hb h2 hn h4 h5
  unfold Oper.wp
  rw [h1, Oper.upon_skip]
  refine ⟨d', g2, β, inv_after hb h2 h3 hsl (fun k h' hk => ?_) (fun k h hk => ?_) (fun k h' hk => ?_)⟩
  · rw [lookH_cons] at hk; split at hk
    · rename_i e; subst e; exact ⟨_, hn⟩
    · simp [lookH] at hk
  · rw [hh, lookH_cons] at hk; split at hk
    · rename_i e; subst e; exact ⟨_, by rw [lookH_cons, if_pos rfl]⟩
    · simp [lookH] at hk
  · rw [lookH_cons] at hk; split at hk
    · rename_i e; subst e; injection hk with hk; subst hk; exact g1
    · simp [lookH] at hk
/-- with two -/
theorem inv_storeF2 {γ : Type} {B : Nat} {rc : RT γ} {z : γ} {u : Value} {x v : Operand} {t : TypeId} {α1 α2 : Type} {r1 : RT α1} [NM r1] {r2 : RT α2} [NM r2] {sh1 : α1 → α1 → Prop} {sh2 : α2 → α2 → Prop} {d1 : α1} {d2 : α2} {n1 n2 : Nat} {sl : List (Nat × SV)} (hB : cx.w0.heap.size ≤ B) (ht : Ty P t rc) (hcs : ∀ w ok cs, rc.rep w ok cs z → ∃ c, cs = [c] ∧ CS c u) (hu : u.cells = #[u] ∧ u.oneCell' = true) (hx : Ev st x (.tv (rPtrF B rc) z)) (hv : Ev st v (.raw u))
    (hst1 : Stab r1 sh1) (hst2 : Stab r2 sh2) (hne : n1 ≠ n2) (hh : st.heap = [(n1, ⟨r1, [d1]⟩), (n2, ⟨r2, [d2]⟩)]) (hsl : ∀ i s, lookS sl i = some s → lookS st.slots i = some s ∧ s.fixd = true) (hi : Inv cx st a w) (Q) :
    (⟨none, .store t x v, ty, pos, aft, none⟩ : Oper).wp P a w (fun a' w' => ∃ d1' d2', (sh1 d1 d1' ∧ sh2 d2 d2') ∧ Inv cx ⟨sl, [(n1, ⟨r1, [d1']⟩), (n2, ⟨r2, [d2']⟩)]⟩ a' w') Q := by
  obtain ⟨β, hb⟩ := hi
  obtain ⟨w', h1, h2, h3, b, h4, h5⟩ := run_storeF (ty := ty) (pos := pos) (aft := aft) hb hB ht hcs hu hx hv
  have hn1 : lookH st.heap n1 = some ⟨r1, [d1]⟩ := by rw [hh, lookH_cons, if_pos rfl]
  have hn2 : lookH st.heap n2 = some ⟨r2, [d2]⟩ := by rw [hh, lookH_cons, if_neg hne, lookH_cons, if_pos rfl]
  obtain ⟨d1', g1, g2⟩ := row_after hst1 hb h2 hn1 h4 h5
  obtain ⟨d2', g3, g4⟩ := row_after hst2 hb h2 hn2 h4 h5
  unfold Oper.wp
  rw [h1, Oper.upon_skip]
  refine ⟨d1', d2', ⟨g2, g4⟩, β, inv_after hb h2 h3 hsl (fun k h' hk => ?_) (fun k h hk => ?_) (fun k h' hk => ?_)⟩
  · rw [lookH_cons] at hk; split at hk
    · rename_i e; subst e; exact ⟨_, hn1⟩
    · rw [lookH_cons] at hk; split at hk
      · rename_i e; subst e; exact ⟨_, hn2⟩
      · simp [lookH] at hk
  · rw [hh, lookH_cons] at hk; split at hk
    · rename_i e; subst e; exact ⟨_, by rw [lookH_cons, if_pos rfl]⟩
    · rename_i e0; rw [lookH_cons] at hk; split at hk
      · rename_i e; subst e; exact ⟨_, by rw [lookH_cons, if_neg hne, lookH_cons, if_pos rfl]⟩
      · simp [lookH] at hk
  · rw [lookH_cons] at hk; split at hk
    · rename_i e; subst e; injection hk with hk; subst hk; exact g1
    · rw [lookH_cons] at hk; split at hk
      · rename_i e; subst e; injection hk with hk; subst hk; exact g3
      · simp [lookH] at hk
theorem jg_stepK {rest : List Oper} {om : Oper} {K : Act → World → Prop} (hg : om.guard = none) (h : ∀ a w, Inv cx st a w → ∀ Q, om.wp P a w K Q) (hn : ∀ a w, K a w → wpList P ops (k.post P) rest a w) : JG P cx ops st (om :: rest) k := by
  intro a w hi
  refine wpList_plain hg fun K' hK => ?_
  exact Oper.wp_mono (fun a' w' hi' => hK _ _ (hn a' w' hi')) (h a w hi _)
theorem jt_stepK {l : List Oper} {i : Nat} {om : Oper} {K : Act → World → Prop} (hom : l[i]? = some om) (hg : om.guard = none) (hrd : Region.ready .any l.toArray (mkL l.toArray.size i) = [i])
    (h : ∀ a w, Inv cx st a w → ∀ Q, om.wp P a w K Q) (hn : ∀ a w, K a w → wpAny P .any l.toArray (k.post P) (l.length - (i + 1)) (mkL l.toArray.size (i + 1)) a w) : JT P cx l i st k := by
  intro a w hi
  have hil : i < l.length := (List.getElem?_eq_some_iff.1 hom).1
  have homs : l.toArray[i]? = some om := by simpa using hom
  rw [show l.length - i = l.length - (i + 1) + 1 by omega]
  refine ⟨fun hnil => (by rw [hrd] at hnil; cases hnil), fun j hr => ?_⟩
  rw [hrd] at hr
  obtain rfl : j = i := by simpa using hr
  have hset : (mkL l.toArray.size j).setIfInBounds j true = mkL l.toArray.size (j + 1) := by
    refine eq_mkL (by simp [mkL]) fun q hq => ?_
    by_cases e : j = q
    · subst e
      simp [mkL, hil]
    · rw [getD_set_ne false e, mkL_getD false hq]
      simp; omega
  rw [hset]
  unfold wpOp
  simp only [homs]
  rw [if_pos (by simp [Region.wanted, hg])]
  exact .inl (Oper.wp_mono hn (h a w hi _))
/-- the store as the last of a drawn region -/
theorem jt_storeF2 {γ : Type} {B : Nat} {rc : RT γ} {z : γ} {u : Value} {x v : Operand} {t : TypeId} {α1 α2 : Type} {r1 : RT α1} [NM r1] {r2 : RT α2} [NM r2] {sh1 : α1 → α1 → Prop} {sh2 : α2 → α2 → Prop} {d1 : α1} {d2 : α2} {n1 n2 : Nat} {l : List Oper} {i : Nat} (sl : List (Nat × SV)) (hom : l[i]? = some ⟨none, .store t x v, ty, pos, aft, none⟩) (hrd : Region.ready .any l.toArray (mkL l.toArray.size i) = [i])
    (hB : cx.w0.heap.size ≤ B) (ht : Ty P t rc) (hcs : ∀ w ok cs, rc.rep w ok cs z → ∃ c, cs = [c] ∧ CS c u) (hu : u.cells = #[u] ∧ u.oneCell' = true) (hx : Ev st x (.tv (rPtrF B rc) z)) (hv : Ev st v (.raw u))
    (hst1 : Stab r1 sh1) (hst2 : Stab r2 sh2) (hne : n1 ≠ n2) (hh : st.heap = [(n1, ⟨r1, [d1]⟩), (n2, ⟨r2, [d2]⟩)]) (hsl : ∀ i s, lookS sl i = some s → lookS st.slots i = some s ∧ s.fixd = true)
    (hn : ∀ d1' d2', sh1 d1 d1' → sh2 d2 d2' → JT P cx l (i + 1) ⟨sl, [(n1, ⟨r1, [d1']⟩), (n2, ⟨r2, [d2']⟩)]⟩ k) : JT P cx l i st k :=
  jt_stepK hom rfl hrd (fun a w hi Q => inv_storeF2 hB ht hcs hu hx hv hst1 hst2 hne hh hsl hi Q) (fun a w ⟨d1', d2', ⟨g1, g2⟩, h⟩ => hn d1' d2' g1 g2 a w h)
theorem jg_storeF1 {γ : Type} {B : Nat} {rc : RT γ} {z : γ} {u : Value} {x v : Operand} {t : TypeId} {α : Type} {rt : RT α} [NM rt] {sh : α → α → Prop} {d : α} {nm : Nat} {rest : List Oper} (sl : List (Nat × SV))
    (hB : cx.w0.heap.size ≤ B) (ht : Ty P t rc) (hcs : ∀ w ok cs, rc.rep w ok cs z → ∃ c, cs = [c] ∧ CS c u) (hu : u.cells = #[u] ∧ u.oneCell' = true) (hx : Ev st x (.tv (rPtrF B rc) z)) (hv : Ev st v (.raw u))
    (hst : Stab rt sh) (hh : st.heap = [(nm, ⟨rt, [d]⟩)]) (hsl : ∀ i s, lookS sl i = some s → lookS st.slots i = some s ∧ s.fixd = true)
    (hn : ∀ d', sh d d' → JG P cx ops ⟨sl, [(nm, ⟨rt, [d']⟩)]⟩ rest k) : JG P cx ops st (⟨none, .store t x v, ty, pos, aft, none⟩ :: rest) k :=
  jg_stepK rfl (fun a w hi Q => inv_storeF1 hB ht hcs hu hx hv hst hh hsl hi Q) (fun a w ⟨d', g, h⟩ => hn d' g a w h)

/-! ### a part of a walk that starts anew at a later world, and the way back -/
theorem jg_restart {l : List Oper} (ks : List (Nat × SV)) (rs : List Nat) (hks : ∀ i s, lookS ks i = some s → lookS st.slots i = some s ∧ s.plain = true) (hrs : ∀ i ∈ rs, (lookS st.slots i).isSome = true)
    (h : ∀ (w1 : World) (a1 : Act) (β : Loc) (f : Nat → Value), InvB cx st β a1 w1 → (∀ i ∈ rs, a1.tmps[i]? = some (f i)) → JG P ⟨w1, fun b => b < w1.heap.size, cx.n, fun _ => False⟩ ops ⟨rs.map (fun i => (i, .raw (f i))) ++ ks, []⟩ l k) : JG P cx ops st l k := by
  rintro a1 w1 ⟨β, hi⟩
  have hf : ∀ i ∈ rs, a1.tmps[i]? = some (a1.tmps.getD i undef) := fun i him => by
    obtain ⟨s, hs⟩ := Option.isSome_iff_exists.1 (hrs i him)
    obtain ⟨v, h1, _⟩ := hi.slots i s hs
    rw [h1, Array.getD_eq_getD_getElem?, h1]; rfl
  refine h w1 a1 β (fun i => a1.tmps.getD i undef) hi hf a1 w1 ⟨noLoc, (Below.refl _ _).toX, fun b hb => hb, hi.defers, hi.size, fun nm hb hh => by simp [lookH] at hh, fun nm nm' hb hb' hh => by simp [lookH] at hh, fun nm hb hh => by simp [lookH] at hh, fun i s hs => ?_⟩
  have key : ∀ (rs : List Nat), (∀ i ∈ rs, a1.tmps[i]? = some (a1.tmps.getD i undef)) → ∀ s, lookS (rs.map (fun i => (i, SV.raw (a1.tmps.getD i undef))) ++ ks) i = some s → (s = .raw (a1.tmps.getD i undef) ∧ i ∈ rs) ∨ lookS ks i = some s := by
    intro rs
    induction rs with
    | nil => intro _ s h; exact .inr h
    | cons r rs ih =>
      intro hf s h
      simp only [List.map_cons, List.cons_append, lookS_cons] at h
      split at h
      · rename_i e; subst e; injection h with h; exact .inl ⟨h.symm, by simp⟩
      · rcases ih (fun i him => hf i (by simp [him])) s h with ⟨q1, q2⟩ | q
        · exact .inl ⟨q1, by simp [q2]⟩
        · exact .inr q
  rcases key rs hf s hs with ⟨rfl, him⟩ | h2
  · exact ⟨_, hf i him, rfl⟩
  · obtain ⟨g1, g2⟩ := hks i s h2
    obtain ⟨v, k1, k2⟩ := hi.slots i s g1
    exact ⟨v, k1, SV.plain_keep g2 (fun b hb => ⟨⟨.inl hb.2.1, hb.2.1, fun nm x hx => by simp [lookH] at hx⟩, rfl⟩) k2⟩
theorem inv_back {stA stB : St} {w1 : World} {a1 : Act} {n : Nat} {ok1 : Ok} (h1 : InvB cx st β a1 w1) (hA : ∀ i s, lookS stA.slots i = some s → lookS st.slots i = some s ∧ ∃ v, a1.tmps[i]? = some v ∧ lookS stB.slots i = some (.raw v)) (hH : ∀ i s, lookH stA.heap i = some s → lookH st.heap i = some s)
    (hi : Inv ⟨w1, ok1, cx.n, fun _ => False⟩ stB a w) : Inv cx stA a w := by
  obtain ⟨β2, hb⟩ := hi
  have hbel := hb.below.plain (fun _ h => h)
  have h2 := InvB.sub (st' := stA) ⟨fun i s hs => (hA i s hs).1, hH⟩ (h1.later hbel)
  refine ⟨β, h2.below, h2.old, hb.defers, hb.size, h2.own, h2.sep, h2.rows, fun i s hs => ?_⟩
  obtain ⟨_, v, g1, g2⟩ := hA i s hs
  obtain ⟨v1, k1, k2⟩ := h2.slots i s hs
  rw [g1] at k1; injection k1 with k1; subst k1
  obtain ⟨v2, k3, k4⟩ := hb.slots i _ g2
  have k4 : v2 = v := k4
  subst k4
  exact ⟨_, k3, k2⟩
theorem j_back {stA stB : St} {w1 : World} {a1 : Act} {ok1 : Ok} (h1 : InvB cx st β a1 w1) (hA : ∀ i s, lookS stA.slots i = some s → lookS st.slots i = some s ∧ ∃ v, a1.tmps[i]? = some v ∧ lookS stB.slots i = some (.raw v)) (hH : ∀ i s, lookH stA.heap i = some s → lookH st.heap i = some s)
    (h : J P cx stA c k) : J P ⟨w1, ok1, cx.n, fun _ => False⟩ stB c k := fun a w hi => h a w (inv_back (n := 0) h1 hA hH hi)
end
end Go.Eng
