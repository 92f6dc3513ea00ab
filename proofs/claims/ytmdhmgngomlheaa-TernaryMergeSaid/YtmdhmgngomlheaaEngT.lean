import Derived.Test.YtmdhmgngomlheaaEngC
import Derived.Laws.BytesArg
import Derived.Laws.Strings
namespace Go.Eng
set_option linter.unusedSimpArgs false
set_option linter.unusedVariables false
/-! ### strings -/
section
variable {P : Program} {cx : Cx} {st st' : St} {β : Loc} {a : Act} {w w' : World} {ops : Array Oper} {k : Kn} {c : Code}
variable {dst : Option Tmp} {ty : TypeId} {pos : String} {aft : Array Edge} {gd : Option (Nat × Bool)}
theorem op_cat {x y : Operand} {t yt : TypeId} {p q : List UInt8} (hx : Ev st x (.raw (strV p))) (hy : Ev st y (.raw (strV q))) (hl : p.length + q.length ≤ 9223372036854775807) : Adr P cx st ⟨dst, .binOp .add t x y yt, ty, pos, aft, gd⟩ (.raw (strV (p ++ q))) :=
  adr_still fun st' hag β a w hi => by
    have h1 := hi.raw (hag.ev (by simp [Op.operands]) hx)
    have h2 := hi.raw (hag.ev (by simp [Op.operands]) hy)
    have hsz : ∀ l : List UInt8, (⟨l.toArray⟩ : ByteArray).size = l.length := fun l => by simp [ByteArray.size]
    refine ⟨strV (p ++ q), ?_, rfl⟩
    have hap : (⟨p.toArray⟩ : ByteArray) ++ ⟨q.toArray⟩ = ⟨(p ++ q).toArray⟩ := by ext1; simp
    simp [execOp, h1, h2, strV, eqGuard, binOp, Op.stringOp, hsz, hap]
    omega
theorem op_sindex {x y : Operand} {t : TypeId} {kk : IntKind} {p : List UInt8} {i : Int} {j : Nat} {b : UInt8} (ht : P.underlying t = some .string) (hx : Ev st x (.raw (strV p))) (hy : Ev st y (.raw (.int kk i))) (hij : i = (j : Int)) (hb : p[j]? = some b) :
    Adr P cx st ⟨dst, .index t x y, ty, pos, aft, gd⟩ (.raw (.int .u8 (b.toNat : Int))) :=
  adr_still fun st' hag β a w hi => by
    have h1 := hi.raw (hag.ev (by simp [Op.operands]) hx)
    have h2 := hi.raw (hag.ev (by simp [Op.operands]) hy)
    have hj : j < p.length := (List.getElem?_eq_some_iff.1 hb).1
    have hsz : (⟨p.toArray⟩ : ByteArray).size = p.length := by simp [ByteArray.size]
    have hr := run_index_string (P := P) w t ⟨p.toArray⟩ kk i ht
    rw [dif_pos ⟨by omega, by rw [hsz]; omega⟩] at hr
    subst hij
    rw [List.getElem?_eq_getElem hj] at hb
    injection hb with hb
    have e1 : (⟨p.toArray⟩ : ByteArray)[((j : Int)).toNat]'(by rw [hsz]; omega) = b := by rw [← hb]; rfl
    rw [e1] at hr
    exact ⟨_, by simp [execOp, h1, h2, strV, hr], rfl⟩
theorem op_bstr {x : Operand} {src dt e : TypeId} {xs : List Int} (hs : P.underlying src = some (.slice e)) (he : P.underlying e = some (.int .u8)) (hd : P.underlying dt = some .string) (hx : Ev st x (.tv (rSlice (rInt .u8)) xs)) :
    Adr P cx st ⟨dst, .convert src dt x, ty, pos, aft, gd⟩ (.raw (strV (xs.map fun n => UInt8.ofNat n.toNat))) :=
  adr_still fun st' hag β a w hi => by
    obtain ⟨A, cap, h1, h2, h3, h4⟩ := tvs_form (hi.ev (hag.ev (by simp [Op.operands]) hx))
    refine ⟨_, ?_, rfl⟩
    have hr : (convert src dt (.slice A xs.length cap)).run P w = .ok (strV (xs.map fun n => UInt8.ofNat n.toNat)) w := by
      by_cases hn : xs = []
      · subst hn
        cases A with
        | none => exact run_convert_bytes_nil w src e hs he _ _ dt hd
        | some ad =>
          rw [run_convert_bytes_string w src dt e _ _ cap hs he hd]
          exact run_bytesToString w ad 0 cap [] (by simp [loadCells, loadCellsFrom])
      · obtain ⟨b, o, rfl, _, h6⟩ := h4 hn
        refine run_convert_bytes_arg w src e hs he b o xs.length cap xs rfl (fun i hi' => ?_) dt hd
        obtain ⟨cs, g1, g2⟩ := h6 i xs[i] (List.getElem?_eq_getElem hi')
        have g1 : cs = [.int .u8 xs[i]] := g1
        subst g1
        have := g2 0 _ rfl
        rw [show (rInt .u8).n = 1 from rfl, Nat.mul_one, Nat.add_zero] at this
        rw [this]; simp [List.getD, List.getElem?_eq_getElem hi']
    simp [execOp, h1, hr]
end
end Go.Eng
