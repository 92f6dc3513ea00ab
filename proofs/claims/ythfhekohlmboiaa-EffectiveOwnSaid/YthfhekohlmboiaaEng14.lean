import Derived.Test.YthfhekohlmboiaaEng13
import Derived.Laws.Small
namespace Go.Eng
section
variable {P : Program} {cx : Cx} {st : St} {a : Act} {w : World} {k : Kn} {c : Code}
/-- a nil slice reads as the empty list -/
theorem inv_nil {α : Type} {i : Nat} (rt : RT α) (hs : lookS st.slots i = some (.raw (.slice none 0 0))) (hi : Inv cx st a w) : Inv cx ⟨(i, .tv (rSlice rt) []) :: st.slots, st.heap⟩ a w := by
  obtain ⟨β, hb⟩ := hi
  refine ⟨β, hb.below, hb.old, hb.defers, hb.size, hb.own, hb.sep, hb.rows, fun j s hj => ?_⟩
  rw [lookS_cons] at hj
  split at hj
  · rename_i e; subst e; injection hj with hj; subst hj
    obtain ⟨v, h1, h2⟩ := hb.slots i _ hs
    have h2 : v = .slice none 0 0 := h2
    subst h2
    exact ⟨_, h1, nil_val⟩
  · exact hb.slots j s hj
theorem j_nil {α : Type} (i : Nat) (rt : RT α) (hs : lookS st.slots i = some (.raw (.slice none 0 0))) (h : J P cx ⟨(i, .tv (rSlice rt) []) :: st.slots, st.heap⟩ c k) : J P cx st c k := fun a w hi => h a w (inv_nil rt hs hi)
variable {dst : Option Tmp} {ty : TypeId} {pos : String} {aft : Array Edge} {gd : Option (Nat × Bool)}
theorem op_eql_bool {x y : Operand} {t yt : TypeId} {p q : Bool} (ht : P.underlying t = some .bool) (hx : Ev st x (.raw (.bool p))) (hy : Ev st y (.raw (.bool q))) :
    Adr P cx st ⟨dst, .binOp .eql t x y yt, ty, pos, aft, gd⟩ (.raw (.bool (p == q))) :=
  adr_still fun st' hag β a w hi => ⟨_, by
    have h1 := hi.raw (hag.ev (by simp [Op.operands]) hx)
    have h2 := hi.raw (hag.ev (by simp [Op.operands]) hy)
    simp [execOp, h1, h2, eqGuard_at_bool, run_eql_bool _ _ _ _ ht], rfl⟩
theorem op_min {x y : Operand} {ts : Array TypeId} {kk : IntKind} {p q : Int} (hx : Ev st x (.raw (.int kk p))) (hy : Ev st y (.raw (.int kk q))) :
    Adr P cx st ⟨dst, .call { callee := .builtin .min, args := #[x, y], argTypes := ts }, ty, pos, aft, gd⟩ (.raw (.int kk (if q < p then q else p))) :=
  adr_still fun st' hag β a w hi => ⟨_, by
    have h1 := hi.raw (hag.ev (by simp [Op.operands, Call.operands]) hx)
    have h2 := hi.raw (hag.ev (by simp [Op.operands, Call.operands]) hy)
    simp [execOp, resolve, invoke, builtin, h1, h2, run_min_int2], rfl⟩
theorem op_max {x y : Operand} {ts : Array TypeId} {kk : IntKind} {p q : Int} (hx : Ev st x (.raw (.int kk p))) (hy : Ev st y (.raw (.int kk q))) :
    Adr P cx st ⟨dst, .call { callee := .builtin .max, args := #[x, y], argTypes := ts }, ty, pos, aft, gd⟩ (.raw (.int kk (if p < q then q else p))) :=
  adr_still fun st' hag β a w hi => ⟨_, by
    have h1 := hi.raw (hag.ev (by simp [Op.operands, Call.operands]) hx)
    have h2 := hi.raw (hag.ev (by simp [Op.operands, Call.operands]) hy)
    simp [execOp, resolve, invoke, builtin, h1, h2, run_max_int2], rfl⟩
end
end Go.Eng
