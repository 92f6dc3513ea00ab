import Derived.Test.YthfhekohlmboiaaEng16
namespace Go.Eng
set_option linter.unusedSimpArgs false
section
variable {P : Program} {cx : Cx} {st st' : St} {β : Loc} {a : Act} {w w' : World} {ops : Array Oper} {k : Kn} {c : Code}
variable {dst : Option Tmp} {ty : TypeId} {pos : String} {aft : Array Edge} {gd : Option (Nat × Bool)}
variable {α : Type}

/-- a slice written out, as a row of the call's own -/
theorem op_obslice {T e : TypeId} {rt : RT α} [NM rt] {ps : List (Nat × Operand)} {ds : List α} {z : α} {n d : Nat} (ht : P.underlying T = some (.slice e)) (he : Ty P e rt) (hz : TyZero P e rt z) (hn : ps.length = n) (hr : RowRd st rt 0 ps ds) (h1 : Nat.ble 1 rt.n = true) (hb : Nat.ble (n * rt.n) 16777216 = true)
    (hd : Nat.blt d cx.n = true) (hf : freeS d st.slots = true) (hno : lookH st.heap d = none) :
    OS P cx ⟨some d, .buildSlice T n ps.toArray, ty, pos, aft, gd⟩ st ⟨(d, .own d rt.n 0 ds.length) :: st.slots, (d, ⟨rt, ds⟩) :: st.heap⟩ := by
  rintro a w ⟨β, hi⟩ Q
  subst hn
  have hb' : ps.length * rt.n ≤ 16777216 := by simpa using hb
  obtain ⟨cells, h2, h3, h4⟩ := run_bslice (P := P) ht he hz hr (fun x hx => rfl) hi hb'
  have hl := hr.len
  have h1' : 1 ≤ rt.n := by simpa using h1
  have hpl : ps.length ≤ maxLen := by
    have : ps.length ≤ ps.length * rt.n := Nat.le_mul_of_pos_right _ h1'
    simp only [maxLen]; omega
  have hrun : (execOp a.eval ⟨some d, .buildSlice T ps.length ps.toArray, ty, pos, aft, gd⟩).run P w = .ok (.value (.slice (some ⟨w.heap.size, 0, none⟩) ps.length ps.length)) (w.alloc (.cells cells e)) := by
    change ((Instr.buildSlice T ps.length (ps.toArray.map fun p => (p.1, a.eval p.2))) >>= fun v => pure (Next.value v)).run P w = _
    rw [Sem.run_bind, h2]; rfl
  unfold Oper.wp
  rw [hrun, Oper.upon_value]
  have := hi.alloc (e := e) hf hno (by rw [hl, h3]; exact Nat.le_refl _) h4
  refine ⟨_, this.put (by simpa using hd) ?_⟩
  simp only [SV.holds, hdr, if_pos]
  exact ⟨_, ps.length, by rw [hl], by omega, hpl, .inr ⟨by simp, cells, e, _, heap_alloc_new w _, by rw [h3]; simp⟩⟩

/-- a call that is lent rows of the caller's own and hands back a fresh slice of plain elements -/
theorem op_callbF {k : FuncId} {as : List SV} {rt : RT α} {ys : List α} {xs : List Operand} {ts : Array TypeId} (h : CtO P k as rt ys) (ha : ArgsB st xs as) (hr : FlatRT rt) :
    Adr P cx st ⟨dst, .call { callee := .value (.func k), args := xs.toArray, argTypes := ts }, ty, pos, aft, gd⟩ (.tv (rSlice rt) ys) := by
  intro st' hag d hd hdn a w ⟨β, hi⟩ Q
  have hargs := ha.holds (cx := cx) (β := β) (a := a) (w := w) (st' := st') (fun x hx => hag.ops x (by simp [Op.operands, Call.operands, hx])) (fun x hx s nm he hf => hag.look (by simp [Op.operands, Call.operands, hx]) he hf) hi
  have hrun : (execOp a.eval ⟨dst, .call { callee := .value (.func k), args := xs.toArray, argTypes := ts }, ty, pos, aft, gd⟩).run P w = .ok (.enter k (xs.map a.eval).toArray) w := by
    simp [execOp, resolve, Act.eval, Deferred.ofValue, invoke, h.ent]
  unfold Oper.wp
  rw [hrun, Oper.upon_enter]
  refine (h.calls w _ _ (fun b hb => hb) hargs).mono ?_
  rintro e w' ⟨v, rfl, hb, hv⟩
  have hb := hb.plain (fun _ h => h)
  subst hd
  refine ⟨β, (hi.later hb).put hdn ?_⟩
  rcases hv with ⟨rfl, rfl⟩ | ⟨A, b, o, cap, cur, e, rfl, hA, h1, h2, h3, h4, h5, h6⟩
  · exact nil_val
  · refine ⟨_, ⟨A, cap, rfl, h1, h2, fun hne => ?_⟩, by simp [rSlice]⟩
    rcases hA with ⟨hA, _⟩ | hA
    · exact absurd hA hne
    · refine ⟨b, o, hA, ⟨.inr (.inl (Nat.le_trans hi.below.size h3)), InvB.cell_lt h4, fun nm hb2 hk x hx e1 => by have := (hi.own nm hb2 hk x hx).2; omega⟩, fun i x hx => ?_⟩
      obtain ⟨cs, g1, g2⟩ := h6 i x hx
      exact ⟨cs, hr g1, fun j u hj => by simp [World.cell?, h4, g2 j u hj]⟩
/-- a fresh slice, as a plain one -/
theorem CtO.ct {k : FuncId} {as : List SV} {rt : RT α} {ys : List α} (h : CtO P k as rt ys) : Ct P k as (.tv (rSlice rt) ys) :=
  ⟨h.ent, fun w ok0 vs hok hh => (h.calls w ok0 vs hok hh).mono (by
    rintro e w' ⟨v, rfl, hb, hv⟩
    refine ⟨v, rfl, hb, ?_⟩
    rcases hv with ⟨rfl, rfl⟩ | ⟨A, b, o, cap, cur, e, rfl, hA, h1, h2, h3, h4, h5, h6⟩
    · exact nil_val
    · refine ⟨_, ⟨A, cap, rfl, h1, h2, fun hne => ?_⟩, by simp [rSlice]⟩
      rcases hA with ⟨hA, _⟩ | hA
      · exact absurd hA hne
      · refine ⟨b, o, hA, ⟨.inr (.inl h3), InvB.cell_lt h4⟩, fun i x hx => ?_⟩
        obtain ⟨cs, g1, g2⟩ := h6 i x hx
        exact ⟨cs, rt.keep (fun b hb => ⟨hb.1, rfl⟩) g1, fun j u hj => by simp [World.cell?, h4, g2 j u hj]⟩)⟩
end
end Go.Eng
