import Derived.Test.YthfhekohlmboiaaEng14
import Derived.Test.YthfhekohlmboiaaEng12
import Derived.Shelf.GgSortFunc.RowK
namespace Go.Eng
open Go.Sort (Holds putRow grow putCells mapBlock onCells flatK putRowK HoldsK)
set_option linter.unusedSimpArgs false

/-! ### functions that turn a row of records in place (slices.SortFunc) -/
/-- the reading is one list of cells for each datum -/
def Exact {α : Type} (rt : RT α) (enc : α → List Value) : Prop := ∀ {w : World} {ok : Ok} {cs : List Value} {x : α}, rt.rep w ok cs x ↔ cs = enc x
theorem exact_int {k : IntKind} : Exact (rInt k) (fun x => [.int k x]) := Iff.rfl
theorem exact_bool : Exact rBool (fun x => [.bool x]) := Iff.rfl
theorem exact_one {α : Type} {rt : RT α} [NM rt] {e : α → List Value} (h : Exact rt e) : Exact (rOne rt) e := h
theorem exact_pair {α γ : Type} {a : RT α} {b : RT γ} {e : α → List Value} {f : γ → List Value} (ha : Exact a e) (hb : Exact b f) : Exact (rPair a b) (fun d => e d.1 ++ f d.2) := fun {w ok cs x} => by
  constructor
  · rintro ⟨c1, c2, rfl, h1, h2⟩; rw [ha.1 h1, hb.1 h2]
  · rintro rfl; exact ⟨_, _, rfl, ha.2 rfl, hb.2 rfl⟩

theorem Exact.len {α : Type} {rt : RT α} [NM rt] {enc : α → List Value} (he : Exact rt enc) (x : α) : (enc x).length = rt.n := rt.len (w := default) (ok := fun _ => True) (he.2 rfl)

section
variable {P : Program} {cx : Cx} {st st' : St} {β : Loc} {a : Act} {w w' : World} {ops : Array Oper} {k : Kn} {c : Code}
variable {dst : Option Tmp} {ty : TypeId} {pos : String} {aft : Array Edge} {gd : Option (Nat × Bool)}
variable {α : Type} [Inhabited α] {rt : RT α} [NM rt] {enc : α → List Value}


theorem flat_at (he : Exact rt enc) (xs : List α) {i j : Nat} {x : α} (hx : xs[i]? = some x) (hj : j < rt.n) : i * rt.n + j < xs.length * rt.n ∧ (flatK enc rt.n xs.toArray)[i * rt.n + j]! = (enc x)[j]'(by rw [he.len]; exact hj) := by
  have hi : i < xs.length := (List.getElem?_eq_some_iff.1 hx).1
  have h1 : i * rt.n + j < xs.length * rt.n := by
    have : (i + 1) * rt.n ≤ xs.length * rt.n := Nat.mul_le_mul_right _ hi
    rw [Nat.succ_mul] at this; omega
  refine ⟨h1, ?_⟩
  rw [Sort.get_flatK _ _ _ _ (by simpa using h1)]
  have e1 : (i * rt.n + j) / rt.n = i := by rw [Nat.mul_comm, Nat.mul_add_div (by omega), Nat.div_eq_of_lt hj, Nat.add_zero]
  have e2 : (i * rt.n + j) % rt.n = j := by rw [Nat.mul_comm, Nat.mul_add_mod, Nat.mod_eq_of_lt hj]
  have e3 : xs.toArray[i]! = x := by rw [getElem!_pos xs.toArray i (by simpa using hi)]; simpa using (List.getElem?_eq_some_iff.1 hx).2
  rw [e1, e2, e3, getElem!_pos _ _ (by rw [he.len]; exact hj)]

theorem rows_holdsK (he : Exact rt enc) {b o : Nat} {xs : List α} {ok : Ok} (h : RowRep rt w ok b o xs) : HoldsK enc rt.n w b o xs.toArray := by
  obtain ⟨cur, e, h1, h2, h3⟩ := h
  intro t ht
  have ht' : t < xs.length * rt.n := by simpa using ht
  have hn : 0 < rt.n := by rcases Nat.eq_zero_or_pos rt.n with q | q; · rw [q] at ht'; simp at ht'
                           · exact q
  have hi : t / rt.n < xs.length := (Nat.div_lt_iff_lt_mul hn).2 ht'
  have hj : t % rt.n < rt.n := Nat.mod_lt _ hn
  have et : t / rt.n * rt.n + t % rt.n = t := by rw [Nat.mul_comm]; exact Nat.div_add_mod t rt.n
  obtain ⟨cs, h4, h5⟩ := h3 _ _ (List.getElem?_eq_getElem hi)
  have h4 := he.1 h4
  subst h4
  have hl : t % rt.n < (enc xs[t / rt.n]).length := by rw [he.len]; exact hj
  have h6 := h5 _ _ (List.getElem?_eq_getElem hl)
  rw [Nat.add_assoc, et] at h6
  have hf := (flat_at he xs (List.getElem?_eq_getElem hi) hj).2
  rw [et] at hf
  refine ⟨?_, by simp [World.frozen?, h1]⟩
  simp only [id, hf]
  simp [World.cell?, h1, h6]

theorem putCells_id (o : Nat) (F : Array Value) (cur : Array Value) (k : Nat) : (putCells id o F cur)[k]? = if o ≤ k ∧ k < o + F.size then (cur[k]?).map (fun _ => F[k - o]!) else cur[k]? := by
  simp only [putCells, Array.getElem?_mapIdx]
  by_cases h : o ≤ k ∧ k < o + F.size
  · cases cur[k]? <;> simp [h]
  · cases cur[k]? <;> simp [h]

theorem turn_invK (he : Exact rt enc) (hi : InvB cx st β a w) {nm b o : Nat} {xs ys : List α} {q : Nat} {os : Array Obj} (hn : lookH st.heap nm = some ⟨rt, xs⟩) (hb : β nm = some (b, o)) (hlen : ys.length = xs.length) :
    InvB cx ⟨st.slots, (nm, ⟨rt, ys⟩) :: st.heap⟩ (fun k => if k = nm then some (b, o) else β k) a (grow (putRowK enc rt.n (Sort.ahead w q) b o ys.toArray) os) := by
  obtain ⟨cur, e, h1, h2, h3⟩ : RowRep rt w (okOf cx st.heap β w) b o xs := by have := hi.rows nm _ hn; rw [hb] at this; exact this.1 NM.no
  have hset := InvB.setRow (rt' := rt) (xs' := ys) (cur' := putCells id o (flatK enc rt.n ys.toArray) cur) hi hn hb h1 (by simp [putCells]) (.inl rfl) (by simp [putCells]; rw [hlen]; exact h2) (fun i x hx => ?_)
  · refine hset.later ⟨rfl, rfl, rfl, ?_, fun k' hk => ?_, Nat.le_add_right _ _⟩
    · simp [grow, putRowK, putRow, mapBlock, World.setRow]
    · simp only [World.setRow, Array.size_modify] at hk
      simp only [grow, putRowK, putRow, mapBlock, Sort.heap_ahead]
      rw [Array.getElem?_append_left (by simpa using hk)]
      by_cases hkb : k' = b
      · subst hkb
        rw [setRow_heap _ _ _ _ _ _ h1, Array.getElem?_modify, if_pos rfl, h1]; rfl
      · rw [setRow_other _ _ _ _ hkb, Array.getElem?_modify, if_neg (Ne.symm hkb)]
  · refine ⟨enc x, he.2 rfl, fun j v hj => ?_⟩
    have hjn : j < rt.n := by rw [← he.len x]; exact (List.getElem?_eq_some_iff.1 hj).1
    obtain ⟨g1, g2⟩ := flat_at he ys hx hjn
    have hsz : o + (i * rt.n + j) < cur.size := by rw [hlen] at g1; omega
    rw [show o + i * rt.n + j = o + (i * rt.n + j) by omega, putCells_id, if_pos ⟨by omega, by simp; omega⟩, Array.getElem?_eq_getElem hsz, Nat.add_sub_cancel_left, g2]
    simpa using (List.getElem?_eq_some_iff.1 hj).2

/-- called with a slice over a row that holds zs, and with the value fv, the function leaves F zs there -/
structure TurnK (P : Program) (kf : FuncId) (rt : RT α) (enc : α → List Value) (fv : Value) (F : List α → List α) : Prop where
  exact : Exact rt enc
  ent : ∀ w args, (callFunc kf args).run P w = .ok (.enter kf args) w
  len : ∀ zs, (F zs).length = zs.length
  some_ : ∀ blk off cap zs w, HoldsK enc rt.n w blk off zs.toArray → blk < w.heap.size → zs.length < 4611686018427387904 → zs.length ≤ cap →
    Calls P kf #[.slice (some ⟨blk, off, none⟩) zs.length cap, fv] w fun e w' => e = .returned (.tuple #[]) ∧ ∃ q os, w' = grow (putRowK enc rt.n (Sort.ahead w q) blk off (F zs).toArray) os
  none_ : ∀ A cap w, Calls P kf #[.slice A 0 cap, fv] w fun e w' => e = .returned (.tuple #[]) ∧ Below w.heap.size w w'

theorem turnK_run {kf : FuncId} {fv : Value} {F : List α → List α} (h : TurnK P kf rt enc fv F) {nm : Nat} {xs : List α} {x y : Operand} {n : Nat} (hx : Ev st x (.own nm rt.n 0 n)) (hy : Ev st y (.raw fv)) (hn : lookH st.heap nm = some ⟨rt, xs⟩) (hfull : n = xs.length) (hbig : xs.length < 4611686018427387904) (hi : InvB cx st β a w) :
    Calls P kf #[a.eval x, a.eval y] w fun e w' => ∃ β', e = .returned (.tuple #[]) ∧ InvB cx ⟨st.slots, (nm, ⟨rt, F xs⟩) :: st.heap⟩ β' a w' := by
  subst hfull
  have hv := hi.ev hx
  have hrow := hi.rows nm _ hn
  rw [hi.raw hy]
  simp only [SV.holds, hdr] at hv
  have hnil : xs = [] → lookH st.heap nm = some ⟨rt, F xs⟩ := fun e => by
    subst e; rw [hn]; have : F [] = [] := List.length_eq_zero_iff.1 (h.len []); rw [this]
  cases hb : β nm with
  | none =>
    rw [hb] at hrow hv
    have hxs : xs = [] := hrow
    subst hxs
    obtain ⟨hv, _⟩ := hv
    rw [hv]
    refine (h.none_ none 0 w).mono ?_
    rintro e w' ⟨rfl, hbw⟩
    exact ⟨β, rfl, (hi.later hbw).setEmpty (hnil rfl)⟩
  | some bo =>
    obtain ⟨b, o⟩ := bo
    rw [hb] at hrow hv
    obtain ⟨A, cap, hv, hc1, hc2, hc3⟩ := hv
    rw [hv]
    by_cases h0 : xs = []
    · subst h0
      refine (h.none_ A cap w).mono ?_
      rintro e w' ⟨rfl, hbw⟩
      exact ⟨β, rfl, (hi.later hbw).setEmpty (hnil rfl)⟩
    · have hpos : xs.length ≠ 0 := fun e => h0 (List.length_eq_zero_iff.1 e)
      rcases hc3 with ⟨e0, _⟩ | ⟨hA, cur, e, fr, hcur, hfit⟩
      · exact absurd e0 hpos
      have hA : A = some ⟨b, o, none⟩ := by rw [hA]; simp
      subst hA
      refine (h.some_ b o cap xs w (rows_holdsK h.exact (hrow.1 NM.no)) (InvB.cell_lt hcur) hbig hc1).mono ?_
      rintro e' w' ⟨rfl, q, os, rfl⟩
      exact ⟨_, rfl, turn_invK h.exact hi hn hb (h.len xs)⟩

theorem op_turnK {kf : FuncId} {fv : Value} {F : List α → List α} (h : TurnK P kf rt enc fv F) {nm d : Nat} {xs : List α} {x y : Operand} {n : Nat} {ts : Array TypeId} (hx : Ev st x (.own nm rt.n 0 n)) (hy : Ev st y (.raw fv)) (hn : lookH st.heap nm = some ⟨rt, xs⟩) (hfull : n = xs.length) (hbig : xs.length < 4611686018427387904) (hd : Nat.blt d cx.n = true) :
    OS P cx ⟨some d, .call { callee := .value (.func kf), args := #[x, y], argTypes := ts }, ty, pos, aft, gd⟩ st ⟨(d, .raw (.tuple #[])) :: st.slots, (nm, ⟨rt, F xs⟩) :: st.heap⟩ := by
  rintro a w ⟨β, hi⟩ Q
  have hrun : (execOp a.eval ⟨some d, .call { callee := .value (.func kf), args := #[x, y], argTypes := ts }, ty, pos, aft, gd⟩).run P w = .ok (.enter kf #[a.eval x, a.eval y]) w := by
    simp [execOp, resolve, Act.eval, Deferred.ofValue, invoke, h.ent]
  unfold Oper.wp
  rw [hrun, Oper.upon_enter]
  refine (turnK_run h hx hy hn hfull hbig hi).mono ?_
  rintro e w' ⟨β', rfl, hi'⟩
  exact ⟨β', hi'.put (by simpa using hd) rfl⟩

/-- no results -/
theorem jr_fin0 {fn : Func} (hr : fn.results = #[]) : JR P cx st (.fin fn (RetR cx (.raw (.tuple #[])))) := by
  rintro a w ⟨β, hi⟩
  refine ⟨hi.defers, .tuple #[], ?_, _, rfl, hi.below, rfl⟩
  simp [results_eq, hr]
theorem jn_fin0 {fn : Func} (hr : fn.results = #[]) : JN P cx st (.fin fn (RetR cx (.raw (.tuple #[])))) := by
  rintro a w ⟨β, hi⟩
  refine ⟨hi.defers, .tuple #[], ?_, _, rfl, hi.below, rfl⟩
  simp [results_eq, hr]
theorem op_len_raw {x : Operand} {t e : TypeId} {A : Option Addr} {n cap : Nat} (ht : P.underlying t = some (.slice e)) (hx : Ev st x (.raw (.slice A n cap))) :
    Adr P cx st ⟨dst, .call { callee := .builtin .len, args := #[x], argTypes := #[t] }, ty, pos, aft, gd⟩ (.raw (.int .i64 (n : Int))) :=
  adr_still fun st' hag β a w hi => by
    have h1 := hi.raw (hag.ev (by simp [Op.operands, Call.operands]) hx)
    exact ⟨.int .i64 _, by simp [execOp, resolve, invoke, builtin, h1, Builtin.len_, run_underlying ht, goInt], rfl⟩
/-- a function's value that has captured nothing -/
theorem op_mkfunc0 {g : FuncId} : Adr P cx st ⟨dst, .makeFunc (.func g) #[] #[], ty, pos, aft, gd⟩ (.raw (.func (.func g) #[] #[])) :=
  adr_still fun st' hag β a w hi => ⟨_, by simp [execOp, Instr.makeFunc], rfl⟩
/-- the address of an element asks nothing of the row's contents -/
theorem gh_oindex {ops : Array Oper} {nm off n d : Nat} {α : Type} {rt : RT α} [NM rt] {x ix : Operand} {t e : TypeId} {k : IntKind} {i : Int} {j : Nat} (hdn : Nat.blt d cx.n = true) (ht : P.underlying t = some (.slice e)) (he : Ty P e rt)
    (hx : Ev st x (.own nm rt.n off n)) (hi' : Ev st ix (.raw (.int k i))) (hij : i = (j : Int)) (hj : j < n) :
    GH P cx ops st ⟨some d, .indexAddr t x ix, ty, pos, aft, none⟩ (some (d, .optr nm rt.n (off + j) 0), none) [] [] := by
  intro st' hag _ a w hi Q
  rw [if_pos (by simp [Region.wanted])]
  exact op_oindex ht he (hag.ev (by simp [Op.operands]) hx) (hag.ev (by simp [Op.operands]) hi') hij hj st' (Agr.refl _ _) d rfl (by simpa using hdn) a w hi Q
end
end Go.Eng
