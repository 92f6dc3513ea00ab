import Derived.Test.YthfhekohlmboiaaEng18
import Derived.Test.YthfhekohlmboiaaEng14
namespace Go.Eng
set_option linter.unusedSimpArgs false
set_option linter.unusedVariables false

/-! ### a slice compared with nil -/
section
variable {P : Program} {cx : Cx} {st st' : St} {β : Loc} {a : Act} {w w' : World} {ops : Array Oper} {k : Kn} {c : Code}
variable {dst : Option Tmp} {ty : TypeId} {pos : String} {aft : Array Edge} {gd : Option (Nat × Bool)}
variable {α : Type}

/-- the value of a list that is only read: from here on the slot is known by its value -/
theorem inv_val {j : Nat} {rt : RT α} {xs : List α} (hj : lookS st.slots j = some (.tv (rSlice rt) xs)) (hi : Inv cx st a w) :
    ∃ A cap, (A = none → xs = []) ∧ Inv cx ⟨(j, .raw (.slice A xs.length cap)) :: st.slots, st.heap⟩ a w := by
  obtain ⟨β, hb⟩ := hi
  obtain ⟨u, h1, h2⟩ := hb.slots j _ hj
  obtain ⟨A, cap, rfl, h3, h4, h5⟩ := tvs_form h2
  refine ⟨A, cap, fun e => ?_, β, hb.below, hb.old, hb.defers, hb.size, hb.own, hb.sep, hb.rows, fun q s hs => ?_⟩
  · rcases Classical.em (xs = []) with q | q
    · exact q
    · obtain ⟨b, o, hA, _⟩ := h5 q
      rw [e] at hA; cases hA
  · rw [lookS_cons] at hs
    split at hs
    · rename_i e; subst e; injection hs with hs; subst hs
      exact ⟨_, h1, rfl⟩
    · exact hb.slots q s hs
theorem jg_val (j : Nat) {rt : RT α} {xs : List α} {l : List Oper} (hj : lookS st.slots j = some (.tv (rSlice rt) xs)) (h : ∀ A cap, (A = none → xs = []) → JG P cx ops ⟨(j, .raw (.slice A xs.length cap)) :: st.slots, st.heap⟩ l k) : JG P cx ops st l k := fun a w hi => by
  obtain ⟨A, cap, h1, h2⟩ := inv_val hj hi
  exact h A cap h1 a w h2
theorem run_equal_nil (P : Program) (w : World) (d : Nat) (t e : TypeId) (A : Option Addr) (n c : Nat) (ht : P.underlying t = some (.slice e)) : (Op.equalIn (d + 1) t (.slice A n c) (.slice none 0 0)).run P w = .ok A.isNone w := by
  simp only [Op.equalIn]
  cases A with
  | none => simp [run_underlying ht]
  | some b => simp [run_underlying ht]
theorem run_eql_nil (P : Program) (w : World) (t e : TypeId) (A : Option Addr) (n c : Nat) (ht : P.underlying t = some (.slice e)) : (binOp .eql t (.slice A n c) (.slice none 0 0)).run P w = .ok (.bool A.isNone) w := by
  have h : (Op.equal t (.slice A n c) (.slice none 0 0)).run P w = .ok A.isNone w := run_equal_nil P w 9999 t e A n c ht
  simp only [binOp]
  simp [h]
theorem eqGuard_at_slice (P : Program) (w : World) (op : BinOp) (t : TypeId) (x y : Operand) (A : Option Addr) (n c : Nat) (B : Value) : (eqGuard op t x y (.slice A n c) B).run P w = .ok () w := by
  cases op <;> simp [eqGuard]
theorem op_eqlnil {x y : Operand} {t yt e : TypeId} {A : Option Addr} {n c : Nat} (ht : P.underlying t = some (.slice e)) (hx : Ev st x (.raw (.slice A n c))) (hy : Ev st y (.raw (.slice none 0 0))) :
    Adr P cx st ⟨dst, .binOp .eql t x y yt, ty, pos, aft, gd⟩ (.raw (.bool A.isNone)) :=
  adr_still fun st' hag β a w hi => ⟨_, by
    have h1 := hi.raw (hag.ev (by simp [Op.operands]) hx)
    have h2 := hi.raw (hag.ev (by simp [Op.operands]) hy)
    simp [execOp, h1, h2, eqGuard_at_slice, run_eql_nil _ _ _ _ _ _ _ ht], rfl⟩
/-! ### strings held against each other -/
theorem eqGuard_at_string (P : Program) (w : World) (op : BinOp) (t : TypeId) (x y : Operand) (p : ByteArray) (B : Value) : (eqGuard op t x y (.string p) B).run P w = .ok () w := by
  cases op <;> simp [eqGuard]
theorem op_eql_string {x y : Operand} {t yt : TypeId} {p q : List UInt8} (ht : P.underlying t = some .string) (hx : Ev st x (.raw (strV p))) (hy : Ev st y (.raw (strV q))) :
    Adr P cx st ⟨dst, .binOp .eql t x y yt, ty, pos, aft, gd⟩ (.raw (.bool (p == q))) :=
  adr_still fun st' hag β a w hi => ⟨_, by
    have h1 := hi.raw (hag.ev (by simp [Op.operands]) hx)
    have h2 := hi.raw (hag.ev (by simp [Op.operands]) hy)
    simp only [strV] at h1 h2
    simp [execOp, h1, h2, eqGuard_at_string, binOp, Op.stringOp, toList_mk], rfl⟩
theorem op_neq_string {x y : Operand} {t yt : TypeId} {p q : List UInt8} (ht : P.underlying t = some .string) (hx : Ev st x (.raw (strV p))) (hy : Ev st y (.raw (strV q))) :
    Adr P cx st ⟨dst, .binOp .neq t x y yt, ty, pos, aft, gd⟩ (.raw (.bool (p != q))) :=
  adr_still fun st' hag β a w hi => ⟨_, by
    have h1 := hi.raw (hag.ev (by simp [Op.operands]) hx)
    have h2 := hi.raw (hag.ev (by simp [Op.operands]) hy)
    simp only [strV] at h1 h2
    simp [execOp, h1, h2, eqGuard_at_string, binOp, Op.stringOp, toList_mk, bne], rfl⟩
theorem op_len_str {x : Operand} {t : TypeId} {p : List UInt8} (ht : P.underlying t = some .string) (hx : Ev st x (.raw (strV p))) :
    Adr P cx st ⟨dst, .call { callee := .builtin .len, args := #[x], argTypes := #[t] }, ty, pos, aft, gd⟩ (.raw (.int .i64 (p.length : Int))) :=
  adr_still fun st' hag β a w hi => by
    have h1 := hi.raw (hag.ev (by simp [Op.operands, Call.operands]) hx)
    simp only [strV] at h1
    refine ⟨.int .i64 _, ?_, rfl⟩
    have h2 : (ByteArray.mk p.toArray).size = p.length := by simp [ByteArray.size]
    simp [execOp, resolve, invoke, builtin, h1, Builtin.len_, run_underlying ht, goInt, h2]
theorem jg_len {rt : RT α} [NM rt] (i : Nat) {xs : List α} {l : List Oper} (hs : lookS st.slots i = some (.tv (rSlice rt) xs)) (h : xs.length ≤ 9223372036854775807 → JG P cx ops st l k) : JG P cx ops st l k := fun a w hi => h (inv_len hs hi) a w hi
end
end Go.Eng
