import Derived.Test.YthfhekohlmboiaaEng18
import Derived.Laws.Bits64
namespace Go.Eng
set_option linter.unusedSimpArgs false
section
variable {P : Program} {cx : Cx} {st st' : St} {β : Loc} {a : Act} {w w' : World} {ops : Array Oper} {k : Kn} {c : Code}
variable {dst : Option Tmp} {ty : TypeId} {pos : String} {aft : Array Edge} {gd : Option (Nat × Bool)}

theorem op_shl {x y : Operand} {t yt : TypeId} {k ky : IntKind} {p q r : Int} (hx : Ev st x (.raw (.int k p))) (hy : Ev st y (.raw (.int ky q))) (h0 : 0 ≤ q) (hr : k.wrap (p * 2 ^ (min q.toNat k.bits)) = r) :
    Adr P cx st ⟨dst, .binOp .shl t x y yt, ty, pos, aft, gd⟩ (.raw (.int k r)) :=
  adr_still fun st' hag β a w hi => ⟨.int k r, by
    have h1 := hi.raw (hag.ev (by simp [Op.operands]) hx)
    have h2 := hi.raw (hag.ev (by simp [Op.operands]) hy)
    have h3 : ¬ q < 0 := by omega
    simp [execOp, h1, h2, eqGuard_at_int, binOp_shl, Op.shift, h3, hr], rfl⟩
theorem op_shr {x y : Operand} {t yt : TypeId} {k ky : IntKind} {p q r : Int} (hx : Ev st x (.raw (.int k p))) (hy : Ev st y (.raw (.int ky q))) (h0 : 0 ≤ q) (hr : p.fdiv (2 ^ (min q.toNat k.bits)) = r) :
    Adr P cx st ⟨dst, .binOp .shr t x y yt, ty, pos, aft, gd⟩ (.raw (.int k r)) :=
  adr_still fun st' hag β a w hi => ⟨.int k r, by
    have h1 := hi.raw (hag.ev (by simp [Op.operands]) hx)
    have h2 := hi.raw (hag.ev (by simp [Op.operands]) hy)
    have h3 : ¬ q < 0 := by omega
    simp [execOp, h1, h2, eqGuard_at_int, binOp_shr, Op.shift, h3, hr], rfl⟩
/-- & | ^ &^ -/
def bI (op : BinOp) (k : IntKind) (x y : Int) : Int :=
  let a := BitVec.ofInt k.bits x
  let b := BitVec.ofInt k.bits y
  k.wrap ((match op with | .and => a &&& b | .or => a ||| b | .xor => a ^^^ b | _ => a &&& ~~~b).toNat : Int)
theorem op_and {x y : Operand} {t yt : TypeId} {k : IntKind} {p q r : Int} (hx : Ev st x (.raw (.int k p))) (hy : Ev st y (.raw (.int k q))) (hr : bI .and k p q = r) :
    Adr P cx st ⟨dst, .binOp .and t x y yt, ty, pos, aft, gd⟩ (.raw (.int k r)) :=
  adr_still fun st' hag β a w hi => ⟨.int k r, by
    have h1 := hi.raw (hag.ev (by simp [Op.operands]) hx)
    have h2 := hi.raw (hag.ev (by simp [Op.operands]) hy)
    subst hr
    simp [execOp, h1, h2, eqGuard_at_int, binOp_and, Op.intBits, bI], rfl⟩
theorem op_or {x y : Operand} {t yt : TypeId} {k : IntKind} {p q r : Int} (hx : Ev st x (.raw (.int k p))) (hy : Ev st y (.raw (.int k q))) (hr : bI .or k p q = r) :
    Adr P cx st ⟨dst, .binOp .or t x y yt, ty, pos, aft, gd⟩ (.raw (.int k r)) :=
  adr_still fun st' hag β a w hi => ⟨.int k r, by
    have h1 := hi.raw (hag.ev (by simp [Op.operands]) hx)
    have h2 := hi.raw (hag.ev (by simp [Op.operands]) hy)
    subst hr
    simp [execOp, h1, h2, eqGuard_at_int, binOp_or, Op.intBits, bI], rfl⟩
theorem op_xor {x y : Operand} {t yt : TypeId} {k : IntKind} {p q r : Int} (hx : Ev st x (.raw (.int k p))) (hy : Ev st y (.raw (.int k q))) (hr : bI .xor k p q = r) :
    Adr P cx st ⟨dst, .binOp .xor t x y yt, ty, pos, aft, gd⟩ (.raw (.int k r)) :=
  adr_still fun st' hag β a w hi => ⟨.int k r, by
    have h1 := hi.raw (hag.ev (by simp [Op.operands]) hx)
    have h2 := hi.raw (hag.ev (by simp [Op.operands]) hy)
    subst hr
    simp [execOp, h1, h2, eqGuard_at_int, binOp_xor, Op.intBits, bI], rfl⟩
theorem op_andNot {x y : Operand} {t yt : TypeId} {k : IntKind} {p q r : Int} (hx : Ev st x (.raw (.int k p))) (hy : Ev st y (.raw (.int k q))) (hr : bI .andNot k p q = r) :
    Adr P cx st ⟨dst, .binOp .andNot t x y yt, ty, pos, aft, gd⟩ (.raw (.int k r)) :=
  adr_still fun st' hag β a w hi => ⟨.int k r, by
    have h1 := hi.raw (hag.ev (by simp [Op.operands]) hx)
    have h2 := hi.raw (hag.ev (by simp [Op.operands]) hy)
    subst hr
    simp [execOp, h1, h2, eqGuard_at_int, binOp_andNot, Op.intBits, bI], rfl⟩
theorem op_neq_bool {x y : Operand} {t yt : TypeId} {p q : Bool} (ht : P.underlying t = some .bool) (hx : Ev st x (.raw (.bool p))) (hy : Ev st y (.raw (.bool q))) :
    Adr P cx st ⟨dst, .binOp .neq t x y yt, ty, pos, aft, gd⟩ (.raw (.bool (p != q))) :=
  adr_still fun st' hag β a w hi => ⟨_, by
    have h1 := hi.raw (hag.ev (by simp [Op.operands]) hx)
    have h2 := hi.raw (hag.ev (by simp [Op.operands]) hy)
    simp [execOp, h1, h2, eqGuard_at_bool, run_neq_bool _ _ _ _ ht]; cases p <;> cases q <;> rfl, rfl⟩
end

/-! ### on natural numbers below 2^64 -/
theorem bv64 {n : Nat} (h : n < 18446744073709551616) : (BitVec.ofInt 64 (n : Int)).toNat = n := by
  rw [BitVec.ofInt_natCast, BitVec.toNat_ofNat]; exact Nat.mod_eq_of_lt (by omega)
theorem wu {n : Nat} (h : n < 18446744073709551616) : IntKind.u64.wrap (n : Int) = (n : Int) := wu64 (by omega)
theorem wu_mod (n : Nat) : IntKind.u64.wrap (n : Int) = ((n % 18446744073709551616 : Nat) : Int) := by rw [IntKind.wrap_u64]; omega
theorem and_mask {n : Nat} (h : n < 18446744073709551616) : bI .and .u64 (n : Int) 4294967295 = ((n % 4294967296 : Nat) : Int) := by
  have h2 : (BitVec.ofInt 64 4294967295).toNat = 4294967295 := by decide
  show IntKind.u64.wrap ((BitVec.ofInt 64 (n : Int) &&& BitVec.ofInt 64 4294967295).toNat : Int) = _
  rw [BitVec.toNat_and, bv64 h, h2, show (4294967295 : Nat) = 2 ^ 32 - 1 from rfl, Nat.and_two_pow_sub_one_eq_mod]
  exact wu (Nat.lt_of_lt_of_le (Nat.mod_lt _ (by decide)) (by decide))
theorem or_add {x b s : Nat} (hb : b < 2 ^ s) (h : x * 2 ^ s + b < 18446744073709551616) : bI .or .u64 ((x * 2 ^ s : Nat) : Int) (b : Int) = ((x * 2 ^ s + b : Nat) : Int) := by
  show IntKind.u64.wrap ((BitVec.ofInt 64 ((x * 2 ^ s : Nat) : Int) ||| BitVec.ofInt 64 (b : Int)).toNat : Int) = _
  rw [BitVec.toNat_or, bv64 (by omega), bv64 (by omega)]
  have := Nat.two_pow_add_eq_or_of_lt hb x
  rw [Nat.mul_comm x, ← this]
  rw [Nat.mul_comm] at h
  exact wu h
theorem shl_nat {n s : Nat} (hs : s ≤ 64) : IntKind.u64.wrap ((n : Int) * 2 ^ (min ((s : Int)).toNat IntKind.u64.bits)) = ((n * 2 ^ s % 18446744073709551616 : Nat) : Int) := by
  have : min ((s : Int)).toNat IntKind.u64.bits = s := by simp [IntKind.bits]; omega
  rw [this, ← wu_mod]
  congr 1
theorem shr_nat {n s : Nat} (hs : s ≤ 64) : (n : Int).fdiv (2 ^ (min ((s : Int)).toNat IntKind.u64.bits)) = ((n / 2 ^ s : Nat) : Int) := by
  have : min ((s : Int)).toNat IntKind.u64.bits = s := by simp [IntKind.bits]; omega
  rw [this, Int.fdiv_eq_ediv_of_nonneg _ (by exact Int.pow_nonneg (by decide))]
  simp
theorem quo_nat {n m : Nat} (h : n < 18446744073709551616) : IntKind.u64.wrap ((n : Int).tdiv (m : Int)) = ((n / m : Nat) : Int) := by
  rw [Int.tdiv_eq_ediv_of_nonneg (by omega), ← Int.natCast_ediv]
  exact wu (Nat.lt_of_le_of_lt (Nat.div_le_self _ _) h)
theorem rem_nat {n m : Nat} : (n : Int).tmod (m : Int) = ((n % m : Nat) : Int) := by
  rw [Int.tmod_eq_emod_of_nonneg (by omega)]; simp
theorem mul_nat {n m : Nat} (h : n * m < 18446744073709551616) : IntKind.u64.wrap ((n : Int) * (m : Int)) = ((n * m : Nat) : Int) := by
  rw [← Int.natCast_mul]; exact wu h
theorem add_nat {n m : Nat} (h : n + m < 18446744073709551616) : IntKind.u64.wrap ((n : Int) + (m : Int)) = ((n + m : Nat) : Int) := by
  rw [← Int.natCast_add]; exact wu h
theorem sub_nat {n m : Nat} (h : m ≤ n) (hn : n < 18446744073709551616) : IntKind.u64.wrap ((n : Int) - (m : Int)) = ((n - m : Nat) : Int) := by
  rw [← Int.ofNat_sub h]; exact wu (by omega)
end Go.Eng
