import Derived.Test.YthfhekohlmboiaaEng19
import Derived.Test.YthfhekohlmboiaaEngK
namespace Go.Eng
set_option linter.unusedSimpArgs false
open Go.Sort (SWO pdq Holds putRow putCells mapBlock)

theorem Below.grow {w w' : World} (h : Below w.heap.size w w') : ∃ q os, w' = Sort.grow (w.drewN q) os := by
  refine ⟨w'.drawn - w.drawn, (w'.heap.toList.drop w.heap.size).toArray, ?_⟩
  obtain ⟨h1, h2, h3, h4, h5, h6⟩ := h
  obtain ⟨hp, tp, dr, os, ou⟩ := w'
  obtain ⟨hp0, tp0, dr0, os0, ou0⟩ := w
  simp only at h1 h2 h3 h4 h5 h6
  subst h1 h2 h3
  simp only [Sort.grow, World.drewN, World.mk.injEq, and_true, true_and]
  refine ⟨?_, by omega⟩
  apply Array.ext'
  have e : hp0.toList = hp.toList.take hp0.size := by
    apply List.ext_getElem?
    intro i
    by_cases hi : i < hp0.size
    · have := h5 i hi
      rw [List.getElem?_take_of_lt hi]; simpa using this.symm
    · rw [List.getElem?_eq_none (by simpa using hi), List.getElem?_eq_none (by simp; omega)]
  rw [Array.toList_append]
  show hp.toList = hp0.toList ++ hp.toList.drop hp0.size
  rw [e]
  exact (List.take_append_drop hp0.size hp.toList).symm

section
variable {P : Program} {cx : Cx} {st st' : St} {β : Loc} {a : Act} {w w' : World} {ops : Array Oper} {k : Kn} {c : Code}
variable {dst : Option Tmp} {ty : TypeId} {pos : String} {aft : Array Edge} {gd : Option (Nat × Bool)}
variable {α γ : Type}

/-- a cell that holds just this value -/
def rFix (u : Value) (h : u.oneCell' = true) : RT Unit where
  n := 1
  agg := false
  raw _ := none
  rep _ _ cs _ := cs = [u]
  len := by rintro w ok cs d rfl; rfl
  one := by rintro w ok cs d rfl v hv; simp at hv; rw [hv]; exact h
  keep := fun _ h => h
  scal _ := rfl
  exact_ h := by simp at h
  exact' h := by simp at h

theorem hdr_slice {nm sz off n : Nat} {v : Value} (h : hdr β w nm sz off n v) : ∃ A k c, v = .slice A k c := by
  unfold hdr at h
  split at h
  · exact ⟨_, _, _, h.1⟩
  · obtain ⟨A, cap, h1, _⟩ := h; exact ⟨_, _, _, h1⟩

/-- a variable's own block with a row's head in it: from here on it stays as it is -/
theorem inv_sealx {nb i nm sz off n : Nat} {u : Value} {hu : u.oneCell' = true} {hp : List (Nat × HB)} (hb : InvB cx st β a w) (hs : lookS st.slots i = some (.optr nb 1 0 0)) (hn : lookH st.heap nb = some ⟨rFix u hu, [()]⟩) (hh : hdr β w nm sz off n u)
    (hsub : ∀ j s, lookH hp j = some s → lookH st.heap j = some s) (hno : lookH hp nb = none) : Inv cx ⟨(i, .epown nm sz off n) :: st.slots, hp⟩ a w := by
  have hok : ∀ b, okOf cx st.heap β w b → okOf cx hp β w b := fun b ⟨h1, h2, h3⟩ => ⟨h1, h2, fun k h hk => h3 k h (hsub _ _ hk)⟩
  have hb' : InvB cx ⟨st.slots, hp⟩ β a w := hb.toHeap hsub
  obtain ⟨v, h1, b, o, h2, h3⟩ := hb.slots i _ hs
  refine ⟨β, hb'.below, hb'.old, hb'.defers, hb'.size, hb'.own, hb'.sep, hb'.rows, fun j s hj => ?_⟩
  simp only [lookS_cons] at hj
  split at hj
  · rename_i e1
    subst e1
    injection hj with hj; subst hj
    have : NM (rFix u hu) := ⟨rfl⟩
    obtain ⟨cur, e, h4, h5, h6⟩ := own_row hb hn h2
    obtain ⟨cs, h7, h8⟩ := h6 0 () rfl
    have h7 : cs = [u] := h7
    subst h7
    have hown := hb.own nb _ hn _ h2
    refine ⟨v, h1, b, o, u, by simpa using h3, ⟨.inr hown.1, hown.2, fun k h hk y hy e1 => ?_⟩, fun j u' hj => ?_, hh⟩
    · have : k = nb := hb.sep k nb _ _ (hsub _ _ hk) hn y (b, o) hy h2 e1
      subst this
      rw [hno] at hk; cases hk
    · have := h8 j u' hj
      simp only [Nat.zero_mul, Nat.add_zero] at this
      simp [World.cell?, h4, this]
  · exact hb'.slots j s hj

theorem op_ostoreO {nb i nm sz off n : Nat} {rt' : RT γ} [NM rt'] {y : γ} {rt : RT α} {x v : Operand} {t : TypeId} {hp : List (Nat × HB)} (ht : Ty P t (rSlice rt)) (hr : rt'.n = 1) (hx : Ev st x (.optr nb rt'.n 0 0)) (hn : lookH st.heap nb = some ⟨rt', [y]⟩) (hv : Ev st v (.own nm sz off n))
    (hs : lookS st.slots i = some (.optr nb rt'.n 0 0)) (hsub : ∀ j s, lookH hp j = some s → lookH st.heap j = some s) (hno : lookH hp nb = none) :
    OS P cx ⟨none, .store t x v, ty, pos, aft, gd⟩ st ⟨(i, .epown nm sz off n) :: st.slots, hp⟩ := by
  rintro a w ⟨β, hi⟩ Q
  obtain ⟨b, o, h1, h2⟩ := hi.ev hx
  obtain ⟨cur, e, h3, h4, h5⟩ := own_row hi hn h1
  have hu : hdr β w nm sz off n (a.eval v) := hi.ev hv
  obtain ⟨A, k', c', hsl⟩ := hdr_slice hu
  have hcs : (a.eval v).cells = #[a.eval v] := by rw [hsl]; rfl
  have hone : (a.eval v).oneCell' = true := by rw [hsl]; rfl
  obtain ⟨_, i0, hi0, hsz⟩ := ht
  have hsz : i0.size = 1 := hsz
  have h4 : o + 1 * rt'.n ≤ cur.size := h4
  rw [hr] at h4 h2
  have hst := run_storeCells_at P b o e (a.eval v).cells.toList 0 cur w h3 (by rw [hcs]; simp; omega) (by rw [hcs]; simpa using hone)
  simp only [Nat.add_zero, hcs] at hst
  simp only [Nat.zero_mul, Nat.add_zero] at h2
  have hrun : (execOp a.eval ⟨none, .store t x v, ty, pos, aft, gd⟩).run P w = .ok .skip (w.setRow b (cur.toList.take o ++ [a.eval v] ++ cur.toList.drop (o + 1)).toArray) := by
    simp only [execOp, Instr.storeAt, h2, Instr.sureAddr, Sem.run_bind, Sem.run_pure, Result.andThen_ok, storeVar, run_sizeOf hi0, hsz, hcs]
    rw [if_neg (by simp)]
    rw [hst]
    rfl
  unfold Oper.wp
  rw [hrun, Oper.upon_skip]
  have : NM (rFix (a.eval v) hone) := ⟨rfl⟩
  have hset := InvB.setRow (rt' := rFix (a.eval v) hone) (xs' := [()]) (o' := o) (cur' := (cur.toList.take o ++ [a.eval v] ++ cur.toList.drop (o + 1)).toArray) hi hn h1 h3 (by simp; omega) (.inl rfl) (by simp [rFix]; omega) (fun j z hz => by
    refine ⟨[a.eval v], rfl, fun q u' hq => ?_⟩
    have hj : j = 0 := by have := (List.getElem?_eq_some_iff.1 hz).1; simpa using this
    have hq0 : q = 0 := by have := (List.getElem?_eq_some_iff.1 hq).1; simpa using this
    subst hj hq0
    have hq : some (a.eval v) = some u' := hq
    rw [← hq]
    have e1 : (cur.toList.take o).length = o := by simp; omega
    show ((cur.toList.take o ++ [a.eval v] ++ cur.toList.drop (o + 1)).toArray)[o + 0 * 1 + 0]? = _
    rw [List.getElem?_toArray, List.append_assoc, List.getElem?_append_right (by simp; omega), e1]
    simp)
  refine inv_sealx (st := ⟨st.slots, (nb, ⟨rFix (a.eval v) hone, [()]⟩) :: st.heap⟩) (hu := hone) (u := a.eval v) (nb := nb) hset (by rw [hr] at hs; exact hs) (by rw [lookH_cons, if_pos rfl]) (hset.ev (hv.tr rfl)) (fun j s hj => ?_) hno
  rw [lookH_cons]
  by_cases e1 : nb = j
  · subst e1; rw [hno] at hj; cases hj
  · rw [if_neg e1]; exact hsub _ _ hj

theorem op_loadE {nm sz off n : Nat} {rt : RT α} {x : Operand} {t : TypeId} (ht : Ty P t (rSlice rt)) (hx : Ev st x (.epown nm sz off n)) : Adr P cx st ⟨dst, .load t x, ty, pos, aft, gd⟩ (.own nm sz off n) :=
  adr_still fun st' hag β a w hi => by
    obtain ⟨b, o, u, h1, h2, h3, h4⟩ := hi.ev (hag.ev (by simp [Op.operands]) hx)
    obtain ⟨A, k', c', hsl⟩ := hdr_slice h4
    have hone : u.oneCell' = true := by rw [hsl]; rfl
    have ht' : Ty P t (rFix u hone) := by obtain ⟨⟨de, hu, hd⟩, i0, hi0, hs⟩ := ht; exact ⟨⟨de, hu, hd⟩, i0, hi0, hs⟩
    obtain ⟨v, h5, h6⟩ := run_loadVar (P := P) (rt := rFix u hone) (d := ()) (ok := okOf cx st'.heap β w) ht' rfl h3
    obtain ⟨cs, h7, h8⟩ := h6
    have h7 : cs = [u] := h7
    subst h7
    have h8 : v = u := h8
    subst h8
    exact ⟨v, by simp [execOp, Instr.loadAt, h1, Instr.sureAddr, h5], h4⟩

theorem inv_sealE {nm i off n : Nat} {rt : RT α} [NM rt] {xs : List α} {hp : List (Nat × HB)} (hs : lookS st.slots i = some (.epown nm rt.n off n)) (hn : lookH st.heap nm = some ⟨rt, xs⟩) (hle : off + n ≤ xs.length) (hsub : ∀ j s, lookH hp j = some s → lookH st.heap j = some s) (hno : lookH hp nm = none) (hi : Inv cx st a w) :
    Inv cx ⟨(i, .eptr (rSlice rt) ((xs.drop off).take n)) :: st.slots, hp⟩ a w := by
  obtain ⟨β, hb⟩ := hi
  have hok : ∀ b, okOf cx st.heap β w b → okOf cx hp β w b := fun b ⟨h1, h2, h3⟩ => ⟨h1, h2, fun k h hk => h3 k h (hsub _ _ hk)⟩
  have hb' : InvB cx ⟨st.slots, hp⟩ β a w := hb.toHeap hsub
  obtain ⟨v, h1, b, o, u, h2, h3, h4, h5⟩ := hb.slots i _ hs
  refine ⟨β, hb'.below, hb'.old, hb'.defers, hb'.size, hb'.own, hb'.sep, hb'.rows, fun j s hj => ?_⟩
  simp only [lookS_cons] at hj
  split at hj
  · rename_i e1
    subst e1
    injection hj with hj; subst hj
    have hval := own_sliceRep hb hn h5 hle hok (fun b o hbo => ?_)
    · obtain ⟨cs, h6, h7⟩ := hval
      obtain ⟨c', hc⟩ := rep_head (rSlice rt) rfl h6
      subst hc
      have h7 : u = c' := h7
      subst h7
      exact ⟨v, h1, b, o, [u], h2, hok b h3, h6, h4⟩
    · have := hb.own nm _ hn _ hbo
      exact ⟨.inr this.1, this.2, fun k h hk x hx e1 => by
        have : k = nm := hb.sep k nm _ _ (hsub _ _ hk) hn x (b, o) hx hbo e1
        subst this
        rw [hno] at hk; cases hk⟩
  · exact hb'.slots j s hj
theorem j_sealE (nm i : Nat) {off n : Nat} {rt : RT α} [NM rt] {xs : List α} (hp : List (Nat × HB)) (hs : lookS st.slots i = some (.epown nm rt.n off n)) (hn : lookH st.heap nm = some ⟨rt, xs⟩) (hle : off + n ≤ xs.length) (hsub : ∀ j s, lookH hp j = some s → lookH st.heap j = some s) (hno : lookH hp nm = none)
    (h : J P cx ⟨(i, .eptr (rSlice rt) ((xs.drop off).take n)) :: st.slots, hp⟩ c k) : J P cx st c k := fun a w hi => h a w (inv_sealE hs hn hle hsub hno hi)

/-! ### slices.SortFunc with a closure that has captured what it likes -/
end
end Go.Eng
