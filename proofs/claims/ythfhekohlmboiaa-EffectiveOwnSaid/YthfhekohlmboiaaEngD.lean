import Derived.Test.YthfhekohlmboiaaEng15
namespace Go.Eng
open Go.Sort (Holds putRow grow putCells mapBlock onCells)
set_option linter.unusedSimpArgs false

/-! ### functions that turn a row of ints in place and take a function (slices.DeleteFunc) -/
/-- as Turn, with the value of a function for a second argument -/
structure TurnF (P : Program) (k : FuncId) (fv : Value) (F : List Int → List Int) (m : List Int → Nat) : Prop where
  ent : ∀ w args, (callFunc k args).run P w = .ok (.enter k args) w
  len : ∀ zs, (F zs).length = zs.length
  cut : ∀ zs, m zs ≤ zs.length
  some_ : ∀ blk off cap zs w, Holds (Value.int .i64) w blk off zs.toArray → blk < w.heap.size → zs.length < 4611686018427387904 → zs.length ≤ cap →
    Calls P k #[.slice (some ⟨blk, off, none⟩) zs.length cap, fv] w fun e w' => e = .returned (.slice (some ⟨blk, off, none⟩) (m zs) cap) ∧
      ∃ q os, w' = grow (putRow (Value.int .i64) (Sort.ahead w q) blk off (F zs).toArray) os
  none_ : ∀ A cap w, Calls P k #[.slice A 0 cap, fv] w fun e w' => e = .returned (.slice A 0 cap) ∧ Below w.heap.size w w'

section
variable {P : Program} {cx : Cx} {st st' : St} {β : Loc} {a : Act} {w w' : World} {ops : Array Oper} {k : Kn} {c : Code}
variable {dst : Option Tmp} {ty : TypeId} {pos : String} {aft : Array Edge} {gd : Option (Nat × Bool)}

theorem turnF_run {kf : FuncId} {fv : Value} {F : List Int → List Int} {m : List Int → Nat} (h : TurnF P kf fv F m) {nm : Nat} {xs : List Int} {x y : Operand} {n : Nat} (hx : Ev st x (.own nm (rInt .i64).n 0 n)) (hy : Ev st y (.raw fv)) (hn : lookH st.heap nm = some ⟨rInt .i64, xs⟩) (hfull : n = xs.length) (hbig : xs.length < 4611686018427387904) (hi : InvB cx st β a w) :
    Calls P kf #[a.eval x, a.eval y] w fun e w' => ∃ v β', e = .returned v ∧ InvB cx ⟨st.slots, (nm, ⟨rInt .i64, F xs⟩) :: st.heap⟩ β' a w' ∧ (SV.own nm (rInt .i64).n 0 (m xs)).holds β' w' (okOf cx ((nm, ⟨rInt .i64, F xs⟩) :: st.heap) β' w') v := by
  subst hfull
  have hv := hi.ev hx
  have hrow := hi.rows nm _ hn
  rw [hi.raw hy]
  simp only [SV.holds, hdr] at hv
  have hnil : xs = [] → lookH st.heap nm = some ⟨rInt .i64, F xs⟩ := fun e => by
    subst e; rw [hn]; have : F [] = [] := List.length_eq_zero_iff.1 (h.len []); rw [this]
  have hm0 : xs = [] → m xs = 0 := fun e => by have := h.cut xs; rw [e] at this ⊢; simpa using this
  cases hb : β nm with
  | none =>
    rw [hb] at hrow hv
    have hxs : xs = [] := hrow
    obtain ⟨hv, _⟩ := hv
    have e0 : xs.length = 0 := by rw [hxs]; rfl
    rw [hv]
    refine (h.none_ none 0 w).mono ?_
    rintro e w' ⟨rfl, hbw⟩
    refine ⟨_, β, rfl, (hi.later hbw).setEmpty (hnil hxs), ?_⟩
    rw [hm0 hxs]
    simp only [SV.holds, hdr, hb]
    exact ⟨trivial, trivial⟩
  | some bo =>
    obtain ⟨b, o⟩ := bo
    rw [hb] at hrow hv
    obtain ⟨A, cap, hv, hc1, hc2, hc3⟩ := hv
    rw [hv]
    by_cases h0 : xs = []
    · have e0 : xs.length = 0 := by rw [h0]; rfl
      rw [e0]
      refine (h.none_ A cap w).mono ?_
      rintro e w' ⟨rfl, hbw⟩
      have hi2 := (hi.later hbw).setEmpty (hnil h0)
      refine ⟨_, β, rfl, hi2, ?_⟩
      rw [hm0 h0]
      simp only [SV.holds, hdr, hb]
      refine ⟨A, cap, rfl, Nat.zero_le _, hc2, ?_⟩
      rcases hc3 with ⟨_, e1⟩ | ⟨hA, cur, e, fr, hcur, hfit⟩
      · exact .inl ⟨trivial, e1⟩
      · refine .inr ⟨hA, cur, e, fr, ?_, hfit⟩
        rw [hbw.block b (InvB.cell_lt hcur)]; exact hcur
    · have hpos : xs.length ≠ 0 := fun e => h0 (List.length_eq_zero_iff.1 e)
      rcases hc3 with ⟨e0, _⟩ | ⟨hA, cur, e, fr, hcur, hfit⟩
      · exact absurd e0 hpos
      have hA : A = some ⟨b, o, none⟩ := by rw [hA]; simp
      subst hA
      refine (h.some_ b o cap xs w (rows_holds (hrow.1 NM.no)) (InvB.cell_lt hcur) hbig hc1).mono ?_
      rintro e' w' ⟨rfl, q, os, rfl⟩
      refine ⟨_, _, rfl, turn_inv hi hn hb (h.len xs), ?_⟩
      have hj := h.cut xs
      simp only [SV.holds, hdr, if_pos]
      refine ⟨_, cap, rfl, Nat.le_trans hj hc1, hc2, .inr ⟨by simp, ?_⟩⟩
      refine ⟨putCells (Value.int .i64) o (F xs).toArray cur, e, fr, ?_, by simpa [putCells] using hfit⟩
      simp only [grow, putRow, mapBlock, Sort.heap_ahead]
      rw [Array.getElem?_append_left (by simpa using InvB.cell_lt hcur), Array.getElem?_modify, if_pos rfl, hcur]; rfl

theorem op_turnF1 {kf : FuncId} {fv : Value} {F : List Int → List Int} {m : List Int → Nat} (h : TurnF P kf fv F m) {nm d : Nat} {xs : List Int} {x y : Operand} {n : Nat} {ts : Array TypeId} (hx : Ev st x (.own nm (rInt .i64).n 0 n)) (hy : Ev st y (.raw fv)) (hn : lookH st.heap nm = some ⟨rInt .i64, xs⟩) (hfull : n = xs.length) (hbig : xs.length < 4611686018427387904) (hd : Nat.blt d cx.n = true) :
    OS P cx ⟨some d, .call { callee := .value (.func kf), args := #[x, y], argTypes := ts }, ty, pos, aft, gd⟩ st ⟨(d, .own nm (rInt .i64).n 0 (m xs)) :: st.slots, (nm, ⟨rInt .i64, F xs⟩) :: st.heap⟩ := by
  rintro a w ⟨β, hi⟩ Q
  have hrun : (execOp a.eval ⟨some d, .call { callee := .value (.func kf), args := #[x, y], argTypes := ts }, ty, pos, aft, gd⟩).run P w = .ok (.enter kf #[a.eval x, a.eval y]) w := by
    simp [execOp, resolve, Act.eval, Deferred.ofValue, invoke, h.ent]
  unfold Oper.wp
  rw [hrun, Oper.upon_enter]
  refine (turnF_run h hx hy hn hfull hbig hi).mono ?_
  rintro e w' ⟨v, β', rfl, hi', hv⟩
  exact ⟨β', hi'.put (by simpa using hd) hv⟩
end
end Go.Eng
