import Derived.Test.YthfhekohlmboiaaEng10
import Derived.Sort.Grow
namespace Go.Eng
open Go.Sort (Holds putRow grow putCells mapBlock onCells)
set_option linter.unusedSimpArgs false

/-! ### functions that turn a row of ints in place (slices.Sort, slices.Compact) -/
/-- called with a slice over a row that holds zs, the function leaves F zs there and hands back nothing, or the same slice cut to m zs -/
structure Turn (P : Program) (k : FuncId) (F : List Int → List Int) (m : List Int → Option Nat) : Prop where
  ent : ∀ w args, (callFunc k args).run P w = .ok (.enter k args) w
  len : ∀ zs, (F zs).length = zs.length
  cut : ∀ zs n, m zs = some n → n ≤ zs.length
  some_ : ∀ blk off cap zs w, Holds (Value.int .i64) w blk off zs.toArray → blk < w.heap.size → zs.length < 4611686018427387904 → zs.length ≤ cap →
    Calls P k #[.slice (some ⟨blk, off, none⟩) zs.length cap] w fun e w' => e = .returned (match m zs with | none => .tuple #[] | some n => .slice (some ⟨blk, off, none⟩) n cap) ∧
      ∃ q os, w' = grow (putRow (Value.int .i64) (Sort.ahead w q) blk off (F zs).toArray) os
  none_ : ∀ A cap w, Calls P k #[.slice A 0 cap] w fun e w' => e = .returned (match m [] with | none => .tuple #[] | some _ => .slice A 0 cap) ∧ w' = w

section
variable {P : Program} {cx : Cx} {st st' : St} {β : Loc} {a : Act} {w w' : World} {ops : Array Oper} {k : Kn} {c : Code}
variable {dst : Option Tmp} {ty : TypeId} {pos : String} {aft : Array Edge} {gd : Option (Nat × Bool)}

theorem rows_holds {b o : Nat} {xs : List Int} {ok : Ok} (h : RowRep (rInt .i64) w ok b o xs) : Holds (Value.int .i64) w b o xs.toArray := by
  obtain ⟨cur, e, h1, h2, h3⟩ := h
  intro j hj
  have hj' : j < xs.length := by simpa using hj
  obtain ⟨cs, h4, h5⟩ := h3 j xs[j] (List.getElem?_eq_getElem hj')
  have h4 : cs = [.int .i64 xs[j]] := h4
  subst h4
  have h6 := h5 0 _ rfl
  have h6 : cur[o + j]? = some (.int .i64 xs[j]) := by simpa [rInt] using h6
  have hsz : o + j < cur.size := (Array.getElem?_eq_some_iff.1 h6).1
  refine ⟨?_, ?_⟩
  · simp [World.cell?, h1, h6, hj']
  · simp [World.frozen?, h1]

theorem putCells_get (o : Nat) (d : List Int) (cur : Array Value) (k : Nat) : (putCells (Value.int .i64) o d.toArray cur)[k]? = if o ≤ k ∧ k < o + d.length then (cur[k]?).map (fun _ => Value.int .i64 (d[k - o]?.getD 0)) else cur[k]? := by
  simp only [putCells, Array.getElem?_mapIdx]
  by_cases h : o ≤ k ∧ k < o + d.length
  · have : k - o < d.length := by omega
    cases cur[k]? <;> simp [h, this]
  · cases cur[k]? <;> simp [h]

/-- what such a call makes of what is known -/
theorem turn_inv (hi : InvB cx st β a w) {nm b o : Nat} {xs ys : List Int} {q : Nat} {os : Array Obj} (hn : lookH st.heap nm = some ⟨rInt .i64, xs⟩) (hb : β nm = some (b, o)) (hlen : ys.length = xs.length) :
    InvB cx ⟨st.slots, (nm, ⟨rInt .i64, ys⟩) :: st.heap⟩ (fun k => if k = nm then some (b, o) else β k) a (grow (putRow (Value.int .i64) (Sort.ahead w q) b o ys.toArray) os) := by
  obtain ⟨cur, e, h1, h2, h3⟩ : RowRep (rInt .i64) w (okOf cx st.heap β w) b o xs := by have := hi.rows nm _ hn; rw [hb] at this; exact this.1 NM.no
  have h2 : o + xs.length * 1 ≤ cur.size := h2
  have hset := InvB.setRow (rt' := rInt .i64) (xs' := ys) (cur' := putCells (Value.int .i64) o ys.toArray cur) hi hn hb h1 (by simp [putCells]) (.inl rfl) (by simp [putCells, rInt]; omega) (fun i x hx => ?_)
  · refine hset.later ⟨rfl, rfl, rfl, ?_, fun k' hk => ?_, Nat.le_add_right _ _⟩
    · simp [grow, putRow, mapBlock, World.setRow]
    · simp only [World.setRow, Array.size_modify] at hk
      simp only [grow, putRow, mapBlock, Sort.heap_ahead]
      rw [Array.getElem?_append_left (by simpa using hk)]
      by_cases hkb : k' = b
      · subst hkb
        rw [setRow_heap _ _ _ _ _ _ h1, Array.getElem?_modify, if_pos rfl, h1]; rfl
      · rw [setRow_other _ _ _ _ hkb, Array.getElem?_modify, if_neg (Ne.symm hkb)]
  · refine ⟨[.int .i64 x], rfl, fun j v hj => ?_⟩
    have hi' : i < ys.length := (List.getElem?_eq_some_iff.1 hx).1
    cases j with
    | succ j => simp at hj
    | zero =>
      simp at hj; subst hj
      show (putCells (Value.int .i64) o ys.toArray cur)[o + i * 1 + 0]? = _
      rw [show o + i * 1 + 0 = o + i by omega, putCells_get, if_pos (by omega), Array.getElem?_eq_getElem (by omega), Nat.add_sub_cancel_left, hx]; rfl

theorem InvB.setEmpty (hi : InvB cx st β a w) {nm : Nat} {hb : HB} (hn : lookH st.heap nm = some hb) : InvB cx ⟨st.slots, (nm, hb) :: st.heap⟩ β a w := by
  have hh : ∀ k, lookH ((nm, hb) :: st.heap) k = lookH st.heap k := fun k => by
    rw [lookH_cons]; split
    · rename_i e; rw [← e, hn]
    · rfl
  have hok : ∀ b, okOf cx st.heap β w b → okOf cx ((nm, hb) :: st.heap) β w b ∧ w.heap[b]? = w.heap[b]? := fun b h => ⟨⟨h.1, h.2.1, fun k x hk => h.2.2 k x (by rw [hh] at hk; exact hk)⟩, rfl⟩
  refine ⟨hi.below, hi.old, hi.defers, hi.size, fun k x hk => hi.own k x (by rw [hh] at hk; exact hk), fun k k' x y hk hk' => hi.sep k k' x y (by rw [hh] at hk; exact hk) (by rw [hh] at hk'; exact hk'), fun k x hk => ?_, fun i s hs => ?_⟩
  · exact HB.keep hok (fun _ _ => rfl) (hi.rows k x (by rw [hh] at hk; exact hk))
  · obtain ⟨v, h1, h2⟩ := hi.slots i s hs
    exact ⟨v, h1, SV.keep hok (fun nm _ => ⟨rfl, fun b o _ cur e fr hc => ⟨cur, e, fr, hc, rfl⟩⟩) h2⟩

theorem turn_run {kf : FuncId} {F : List Int → List Int} {m : List Int → Option Nat} (h : Turn P kf F m) {nm : Nat} {xs : List Int} {x : Operand} {n : Nat} (hx : Ev st x (.own nm (rInt .i64).n 0 n)) (hn : lookH st.heap nm = some ⟨rInt .i64, xs⟩) (hfull : n = xs.length) (hbig : xs.length < 4611686018427387904) (hi : InvB cx st β a w) :
    Calls P kf #[a.eval x] w fun e w' => ∃ v β', e = .returned v ∧ InvB cx ⟨st.slots, (nm, ⟨rInt .i64, F xs⟩) :: st.heap⟩ β' a w' ∧ (m xs = none → v = .tuple #[]) ∧ ∀ j, m xs = some j → (SV.own nm (rInt .i64).n 0 j).holds β' w' (okOf cx ((nm, ⟨rInt .i64, F xs⟩) :: st.heap) β' w') v := by
  subst hfull
  have hv := hi.ev hx
  have hrow := hi.rows nm _ hn
  simp only [SV.holds, hdr] at hv
  have hnil : xs = [] → lookH st.heap nm = some ⟨rInt .i64, F xs⟩ := fun e => by
    subst e; rw [hn]; have : F [] = [] := List.length_eq_zero_iff.1 (h.len []); rw [this]
  cases hb : β nm with
  | none =>
    rw [hb] at hrow hv
    have hxs : xs = [] := hrow
    subst hxs
    obtain ⟨hv, _⟩ := hv
    rw [hv]
    refine (h.none_ none 0 w).mono ?_
    rintro e w' ⟨rfl, rfl⟩
    refine ⟨_, β, rfl, hi.setEmpty (hnil rfl), fun hm => by rw [hm], fun j hm => ?_⟩
    have hj := h.cut _ _ hm
    have hj : j = 0 := by simpa using hj
    subst hj
    simp only [hm, SV.holds, hdr, hb]
    exact ⟨trivial, trivial⟩
  | some bo =>
    obtain ⟨b, o⟩ := bo
    rw [hb] at hrow hv
    obtain ⟨A, cap, hv, hc1, hc2, hc3⟩ := hv
    rw [hv]
    by_cases h0 : xs = []
    · subst h0
      refine (h.none_ A cap w).mono ?_
      rintro e w' ⟨rfl, rfl⟩
      refine ⟨_, β, rfl, hi.setEmpty (hnil rfl), fun hm => by rw [hm], fun j hm => ?_⟩
      have hj := h.cut _ _ hm
      have hj : j = 0 := by simpa using hj
      subst hj
      simp only [hm, SV.holds, hdr, hb]
      refine ⟨A, cap, rfl, Nat.zero_le _, hc2, ?_⟩
      rcases hc3 with ⟨_, e0⟩ | hc3
      · exact .inl ⟨trivial, e0⟩
      · exact .inr hc3
    · have hpos : xs.length ≠ 0 := fun e => h0 (List.length_eq_zero_iff.1 e)
      rcases hc3 with ⟨e0, _⟩ | ⟨hA, cur, e, fr, hcur, hfit⟩
      · exact absurd e0 hpos
      have hA : A = some ⟨b, o, none⟩ := by rw [hA]; simp
      subst hA
      refine (h.some_ b o cap xs w (rows_holds (hrow.1 NM.no)) (InvB.cell_lt hcur) hbig hc1).mono ?_
      rintro e' w' ⟨rfl, q, os, rfl⟩
      refine ⟨_, _, rfl, turn_inv hi hn hb (h.len xs), fun hm => by rw [hm], fun j hm => ?_⟩
      have hj := h.cut _ _ hm
      simp only [hm, SV.holds, hdr, if_pos]
      refine ⟨_, cap, rfl, Nat.le_trans hj hc1, hc2, .inr ⟨by simp, ?_⟩⟩
      refine ⟨putCells (Value.int .i64) o (F xs).toArray cur, e, fr, ?_, by simpa [putCells] using hfit⟩
      simp only [grow, putRow, mapBlock, Sort.heap_ahead]
      rw [Array.getElem?_append_left (by simpa using InvB.cell_lt hcur), Array.getElem?_modify, if_pos rfl, hcur]; rfl

theorem op_turn0 {kf : FuncId} {F : List Int → List Int} {m : List Int → Option Nat} (h : Turn P kf F m) {nm : Nat} {xs : List Int} {x : Operand} {n : Nat} {ts : Array TypeId} (hx : Ev st x (.own nm (rInt .i64).n 0 n)) (hn : lookH st.heap nm = some ⟨rInt .i64, xs⟩) (hfull : n = xs.length) (hbig : xs.length < 4611686018427387904) :
    OS P cx ⟨none, .call { callee := .value (.func kf), args := #[x], argTypes := ts }, ty, pos, aft, gd⟩ st ⟨st.slots, (nm, ⟨rInt .i64, F xs⟩) :: st.heap⟩ := by
  rintro a w ⟨β, hi⟩ Q
  have hrun : (execOp a.eval ⟨none, .call { callee := .value (.func kf), args := #[x], argTypes := ts }, ty, pos, aft, gd⟩).run P w = .ok (.enter kf #[a.eval x]) w := by
    simp [execOp, resolve, Act.eval, Deferred.ofValue, invoke, h.ent]
  unfold Oper.wp
  rw [hrun, Oper.upon_enter]
  refine (turn_run h hx hn hfull hbig hi).mono ?_
  rintro e w' ⟨v, β', rfl, hi', _, _⟩
  exact ⟨β', hi'⟩

theorem op_turn0d {kf : FuncId} {F : List Int → List Int} {m : List Int → Option Nat} (h : Turn P kf F m) {nm d : Nat} {xs : List Int} {x : Operand} {n : Nat} {ts : Array TypeId} (hx : Ev st x (.own nm (rInt .i64).n 0 n)) (hn : lookH st.heap nm = some ⟨rInt .i64, xs⟩) (hfull : n = xs.length) (hbig : xs.length < 4611686018427387904) (hm : ∀ zs, m zs = none) (hd : Nat.blt d cx.n = true) :
    OS P cx ⟨some d, .call { callee := .value (.func kf), args := #[x], argTypes := ts }, ty, pos, aft, gd⟩ st ⟨(d, .raw (.tuple #[])) :: st.slots, (nm, ⟨rInt .i64, F xs⟩) :: st.heap⟩ := by
  rintro a w ⟨β, hi⟩ Q
  have hrun : (execOp a.eval ⟨some d, .call { callee := .value (.func kf), args := #[x], argTypes := ts }, ty, pos, aft, gd⟩).run P w = .ok (.enter kf #[a.eval x]) w := by
    simp [execOp, resolve, Act.eval, Deferred.ofValue, invoke, h.ent]
  unfold Oper.wp
  rw [hrun, Oper.upon_enter]
  refine (turn_run h hx hn hfull hbig hi).mono ?_
  rintro e w' ⟨v, β', rfl, hi', hv, _⟩
  exact ⟨β', hi'.put (by simpa using hd) (hv (hm _))⟩

theorem op_turn1 {kf : FuncId} {F : List Int → List Int} {m : List Int → Nat} (h : Turn P kf F (fun zs => some (m zs))) {nm d : Nat} {xs : List Int} {x : Operand} {n : Nat} {ts : Array TypeId} (hx : Ev st x (.own nm (rInt .i64).n 0 n)) (hn : lookH st.heap nm = some ⟨rInt .i64, xs⟩) (hfull : n = xs.length) (hbig : xs.length < 4611686018427387904) (hd : Nat.blt d cx.n = true) :
    OS P cx ⟨some d, .call { callee := .value (.func kf), args := #[x], argTypes := ts }, ty, pos, aft, gd⟩ st ⟨(d, .own nm (rInt .i64).n 0 (m xs)) :: st.slots, (nm, ⟨rInt .i64, F xs⟩) :: st.heap⟩ := by
  rintro a w ⟨β, hi⟩ Q
  have hrun : (execOp a.eval ⟨some d, .call { callee := .value (.func kf), args := #[x], argTypes := ts }, ty, pos, aft, gd⟩).run P w = .ok (.enter kf #[a.eval x]) w := by
    simp [execOp, resolve, Act.eval, Deferred.ofValue, invoke, h.ent]
  unfold Oper.wp
  rw [hrun, Oper.upon_enter]
  refine (turn_run h hx hn hfull hbig hi).mono ?_
  rintro e w' ⟨v, β', rfl, hi', _, hv⟩
  exact ⟨β', hi'.put (by simpa using hd) (hv _ rfl)⟩
end
end Go.Eng
