import Derived.Test.YtfamnoalgjkjhaaM4
import Derived.WideShapes
namespace Go.Eng
set_option linter.unusedSimpArgs false
set_option linter.unusedVariables false
/-! ### arrays of two elements -/
section
variable {P : Program} {cx : Cx} {st st' : St} {β : Loc} {a : Act} {w w' : World}
variable {dst : Option Tmp} {ty : TypeId} {pos : String} {aft : Array Edge} {gd : Option (Nat × Bool)}
theorem op_oindexA {α : Type} {rt : RT α} {nm sz i f n : Nat} {x ix : Operand} {t e : TypeId} {k : IntKind} {q : Int} {j : Nat} (ht : P.underlying t = some (.array n e)) (he : Ty P e rt)
    (hx : Ev st x (.optr nm sz i f)) (hi' : Ev st ix (.raw (.int k q))) (hij : q = (j : Int)) (hj : Nat.blt j n = true) : Adr P cx st ⟨dst, .indexAddr t x ix, ty, pos, aft, gd⟩ (.optr nm sz i (f + j * rt.n)) :=
  adr_still fun st' hag β a w hi => by
    obtain ⟨b, o, h1, h2⟩ := hi.ev (hag.ev (by simp [Op.operands]) hx)
    have h5 := hi.raw (hag.ev (by simp [Op.operands]) hi')
    obtain ⟨_, i0, hi0, hs⟩ := he
    have hj : j < n := by simpa using hj
    have hb2 : (0 : Int) ≤ q ∧ q < (n : Int) := by omega
    have hq : q.toNat = j := by omega
    refine ⟨.pointer (some ⟨b, o + i * sz + f + j * rt.n, none⟩), by simp [execOp, h2, h5, Instr.indexAt, Instr.sureAddr, asIntOf, run_underlying ht, hb2, run_sizeOf hi0, hs, hq, Addr.add_lit], b, o, h1, ?_⟩
    simp [Nat.add_assoc]
end
theorem opens_arr2 {α : Type} {P : Program} {t e : TypeId} {rt : RT α} {φ : α → Prop} (ht : P.underlying t = some (.array 2 e)) (hc : P.cellsOf e = rt.n) (hc2 : P.cellsOf t = rt.n + rt.n) (h : Opens P e rt φ) : Opens P t (rPair rt rt) (fun d => φ d.1 ∧ φ d.2) := fun {H enc w base spare held fuel cs x} hx => by
  obtain ⟨xs, m, _, _, hl, hlen, hf⟩ := DataW.trod_array ht hx
  have h0 := hf 0 (by omega)
  have h1 := hf 1 (by omega)
  rw [List.getElem?_eq_getElem (by omega)] at h0 h1
  obtain ⟨d0, a1, a2⟩ := h h0
  obtain ⟨d1, b1, b2⟩ := h h1
  rw [hc] at a1 b1
  rw [hc2] at hl
  refine ⟨(d0, d1), ⟨_, _, ?_, a1, b1⟩, a2, b2⟩
  rw [Nat.zero_mul, List.drop_zero, Nat.one_mul]
  rw [List.take_of_length_le (l := cs.drop rt.n) (by simp; omega), List.take_append_drop]
theorem okWide_array {P : Program} {w : World} {r : Reach} {base : Nat} {t : TypeId} {v : Value} {n : Nat} {e : TypeId} (ht : P.underlying t = some (.array n e)) (h : Value.okWide P w r base t v) : ∃ cs, v = .agg cs ∧ cs.size = P.cellsOf t := by
  simp only [Value.okWide, ht] at h
  obtain ⟨cs, h1, h2, _⟩ := h
  exact ⟨cs, h1, h2⟩
end Go.Eng
