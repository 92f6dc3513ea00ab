import Derived.Test.YthfhekohlmboiaaEng3
namespace Go.Eng

/-! ### what the program's type table says -/
def isAggD : TypeDesc → Bool
  | .struct _ | .array _ _ => true
  | _ => false

structure Ty {α : Type} (P : Program) (t : TypeId) (rt : RT α) : Prop where
  desc : ∃ d, P.underlying t = some d ∧ isAggD d = rt.agg
  size : ∃ i, P.info? t = some i ∧ i.size = rt.n

theorem Ty.mk_ {α : Type} {P : Program} {t : TypeId} {rt : RT α} {d : TypeDesc} (hu : P.underlying t = some d) (hd : isAggD d = rt.agg) (hi : (P.info? t).map (·.size) = some rt.n) : Ty P t rt :=
  ⟨⟨d, hu, hd⟩, let ⟨i, h1, h2⟩ := Option.map_eq_some_iff.1 hi; ⟨i, h1, h2⟩⟩

/-- the zero value -/
def TyZero {α : Type} (P : Program) (t : TypeId) (rt : RT α) (z : α) : Prop := ∃ i v, P.info? t = some i ∧ i.zero = some v ∧ ∀ w ok, rt.val w ok v z

theorem TyZero.mk_ {α : Type} {P : Program} {t : TypeId} {rt : RT α} {z : α} {v : Value} (hi : (P.info? t).map (·.zero) = some (some v)) (hv : ∀ w ok, rt.val w ok v z) : TyZero P t rt z :=
  let ⟨i, h1, h2⟩ := Option.map_eq_some_iff.1 hi; ⟨i, v, h1, h2, hv⟩

/-- where a field lies -/
def fld (P : Program) (t : TypeId) (k : Nat) : Option Nat :=
  match P.underlying t with
  | some (.struct fs) =>
    match fs[k]? with
    | some f => if ((P.info? f.type).map (·.size)).getD 0 = 0 then none else some f.offset
    | none => none
  | _ => none

section
variable {P : Program} {cx : Cx} {st st' : St} {β : Loc} {a : Act} {w w' : World} {ops : Array Oper}
variable {dst : Option Tmp} {ty : TypeId} {pos : String} {aft : Array Edge} {gd : Option (Nat × Bool)}

theorem run_isAgg {t : TypeId} {d : TypeDesc} (h : P.underlying t = some d) (w : World) : (isAgg t).run P w = .ok (isAggD d) w := by
  simp only [isAgg, Sem.run_bind, run_underlying h, Result.andThen_ok]
  cases d <;> rfl

theorem run_sizeOf {t : TypeId} {i : TypeInfo} (h : P.info? t = some i) (w : World) : (sizeOf t).run P w = .ok i.size w := by
  simp [sizeOf, typeInfo, h]

theorem run_loadCells (w : World) (b o : Nat) : ∀ (n i : Nat) (acc : Array Value) (cs : List Value), cs.length = n → CellsAt w b (o + i) cs → (loadCellsFrom ⟨b, o, none⟩ i n acc).run P w = .ok (acc ++ cs.toArray) w
  | 0, i, acc, cs, hl, _ => by
    have : cs = [] := List.eq_nil_of_length_eq_zero hl
    subst this
    simp [loadCellsFrom]
  | n + 1, i, acc, cs, hl, hc => by
    match cs, hl with
    | c :: r, hl =>
      have h0 := hc 0 c rfl
      have ih := run_loadCells w b o n (i + 1) (acc.push c) r (by simpa using hl) (fun j v hj => by
        have := hc (j + 1) v (by simpa using hj)
        rw [show o + (i + 1) + j = o + i + (j + 1) by omega]; exact this)
      have e : (⟨b, o, none⟩ : Addr).add i = ⟨b, o + i, none⟩ := Addr.add_lit _ _ _
      simp only [Nat.add_zero] at h0
      simp [loadCellsFrom, e, h0, ih]

theorem rep_head {α : Type} (rt : RT α) {ok : Ok} {cs : List Value} {d : α} (ha : rt.agg = false) (h : rt.rep w ok cs d) : ∃ c, cs = [c] := by
  have hl := rt.len h
  rw [rt.scal ha] at hl
  match cs, hl with
  | [c], _ => exact ⟨c, rfl⟩

/-- a load of what lies there -/
theorem run_loadVar {α : Type} {t : TypeId} {rt : RT α} (ht : Ty P t rt) {ok : Ok} {b o : Nat} {cs : List Value} {d : α} (h : rt.rep w ok cs d) (hc : CellsAt w b o cs) :
    ∃ v, (loadVar t ⟨b, o, none⟩).run P w = .ok v w ∧ rt.val w ok v d := by
  obtain ⟨⟨de, hu, hd⟩, i, hi, hs⟩ := ht
  cases ha : rt.agg with
  | true =>
    refine ⟨.agg cs.toArray, ?_, cs, h, by simp [ha]⟩
    have := run_loadCells (P := P) w b o rt.n 0 #[] cs (rt.len h) (by simpa using hc)
    simp [loadVar, run_isAgg hu, hd, ha, run_sizeOf hi, loadCells, hs, this]
  | false =>
    obtain ⟨c, rfl⟩ := rep_head rt ha h
    have h0 := hc 0 c rfl
    simp only [Nat.add_zero] at h0
    exact ⟨c, by simp [loadVar, run_isAgg hu, hd, ha, h0], [c], h, by simp [ha]⟩

theorem of_holds {α : Type} {rt : RT α} {ok : Ok} {v : Value} {d : α} (h : rt.val w ok v d) : (SV.of rt d).holds β w ok v := by
  unfold SV.of
  cases hr : rt.raw d with
  | none => exact h
  | some u => exact rt.val_raw hr h

set_option linter.unusedSimpArgs false
/-! ### moves -/
theorem op_move {x : Operand} {s : SV} (hx : Ev st x s) : Adr P cx st ⟨dst, .move x, ty, pos, aft, gd⟩ s :=
  adr_still fun st' hag β a w hi => ⟨a.eval x, by simp [execOp], by have := hi.ev (hag.ev (by simp [Op.operands]) hx); exact this⟩
theorem op_assign {x : Operand} {s : SV} (hx : Ev st x s) : Adr P cx st ⟨dst, .assign x, ty, pos, aft, gd⟩ s :=
  adr_still fun st' hag β a w hi => ⟨a.eval x, by simp [execOp], by have := hi.ev (hag.ev (by simp [Op.operands]) hx); exact this⟩

theorem op_pick_or {c x y : Operand} {b z G : Bool} (hc : Ev st c (.raw (.bool b))) (hx : Ev st x (.raw (.bool true))) (hy : evS st y = some (.gd G (.raw (.bool z)))) (hG : b = false → G = true) :
    Adr P cx st ⟨dst, .pick c x y, ty, pos, aft, gd⟩ (.raw (.bool (b || z))) :=
  adr_still fun st' hag β a w hi => by
    have h1 := hi.raw (hag.ev (by simp [Op.operands]) hc)
    have h2 := hi.raw (hag.ev (by simp [Op.operands]) hx)
    have h3 := hi.evS ((hag.ops y (by simp [Op.operands])).trans hy)
    refine ⟨.bool (b || z), ?_, rfl⟩
    cases b with
    | true => simp [execOp, h1, h2, asBool]
    | false => have h3 := h3.1 (hG rfl); simp only [SV.holds] at h3; simp [execOp, h1, h3, asBool]
theorem op_pick_and {c x y : Operand} {b z G : Bool} (hc : Ev st c (.raw (.bool b))) (hx : Ev st y (.raw (.bool false))) (hy : evS st x = some (.gd G (.raw (.bool z)))) (hG : b = true → G = true) :
    Adr P cx st ⟨dst, .pick c x y, ty, pos, aft, gd⟩ (.raw (.bool (b && z))) :=
  adr_still fun st' hag β a w hi => by
    have h1 := hi.raw (hag.ev (by simp [Op.operands]) hc)
    have h2 := hi.raw (hag.ev (by simp [Op.operands]) hx)
    have h3 := hi.evS ((hag.ops x (by simp [Op.operands])).trans hy)
    refine ⟨.bool (b && z), ?_, rfl⟩
    cases b with
    | false => simp [execOp, h1, h2, asBool]
    | true => have h3 := h3.1 (hG rfl); simp only [SV.holds] at h3; simp [execOp, h1, h3, asBool]

/-! ### numbers -/
theorem w64 {n : Int} (h : -9223372036854775808 ≤ n ∧ n ≤ 9223372036854775807) : IntKind.i64.wrap n = n := by
  simp [IntKind.wrap, IntKind.signed, IntKind.bits]; omega
theorem wu64 {n : Int} (h : 0 ≤ n ∧ n ≤ 18446744073709551615) : IntKind.u64.wrap n = n := by
  simp [IntKind.wrap, IntKind.signed, IntKind.bits]; omega

theorem op_add {x y : Operand} {t yt : TypeId} {k : IntKind} {p q r : Int} (hx : Ev st x (.raw (.int k p))) (hy : Ev st y (.raw (.int k q))) (hr : k.wrap (p + q) = r) :
    Adr P cx st ⟨dst, .binOp .add t x y yt, ty, pos, aft, gd⟩ (.raw (.int k r)) :=
  adr_still fun st' hag β a w hi => ⟨.int k r, by
    have h1 := hi.raw (hag.ev (by simp [Op.operands]) hx)
    have h2 := hi.raw (hag.ev (by simp [Op.operands]) hy)
    simp [execOp, h1, h2, eqGuard_at_int, binOp_add, binOp_sub, binOp_mul, Op.intArith, hr], rfl⟩
theorem op_sub {x y : Operand} {t yt : TypeId} {k : IntKind} {p q r : Int} (hx : Ev st x (.raw (.int k p))) (hy : Ev st y (.raw (.int k q))) (hr : k.wrap (p - q) = r) :
    Adr P cx st ⟨dst, .binOp .sub t x y yt, ty, pos, aft, gd⟩ (.raw (.int k r)) :=
  adr_still fun st' hag β a w hi => ⟨.int k r, by
    have h1 := hi.raw (hag.ev (by simp [Op.operands]) hx)
    have h2 := hi.raw (hag.ev (by simp [Op.operands]) hy)
    simp [execOp, h1, h2, eqGuard_at_int, binOp_add, binOp_sub, binOp_mul, Op.intArith, hr], rfl⟩
theorem op_mul {x y : Operand} {t yt : TypeId} {k : IntKind} {p q r : Int} (hx : Ev st x (.raw (.int k p))) (hy : Ev st y (.raw (.int k q))) (hr : k.wrap (p * q) = r) :
    Adr P cx st ⟨dst, .binOp .mul t x y yt, ty, pos, aft, gd⟩ (.raw (.int k r)) :=
  adr_still fun st' hag β a w hi => ⟨.int k r, by
    have h1 := hi.raw (hag.ev (by simp [Op.operands]) hx)
    have h2 := hi.raw (hag.ev (by simp [Op.operands]) hy)
    simp [execOp, h1, h2, eqGuard_at_int, binOp_add, binOp_sub, binOp_mul, Op.intArith, hr], rfl⟩
theorem op_quo {x y : Operand} {t yt : TypeId} {k : IntKind} {p q r : Int} (hx : Ev st x (.raw (.int k p))) (hy : Ev st y (.raw (.int k q))) (h0 : q ≠ 0) (hr : k.wrap (p.tdiv q) = r) :
    Adr P cx st ⟨dst, .binOp .quo t x y yt, ty, pos, aft, gd⟩ (.raw (.int k r)) :=
  adr_still fun st' hag β a w hi => ⟨.int k r, by
    have h1 := hi.raw (hag.ev (by simp [Op.operands]) hx)
    have h2 := hi.raw (hag.ev (by simp [Op.operands]) hy)
    simp [execOp, h1, h2, eqGuard_at_int, binOp_quo, binOp_rem, Op.intDiv, h0, hr], rfl⟩
theorem op_rem {x y : Operand} {t yt : TypeId} {k : IntKind} {p q : Int} (hx : Ev st x (.raw (.int k p))) (hy : Ev st y (.raw (.int k q))) (h0 : q ≠ 0) :
    Adr P cx st ⟨dst, .binOp .rem t x y yt, ty, pos, aft, gd⟩ (.raw (.int k (p.tmod q))) :=
  adr_still fun st' hag β a w hi => ⟨.int k (p.tmod q), by
    have h1 := hi.raw (hag.ev (by simp [Op.operands]) hx)
    have h2 := hi.raw (hag.ev (by simp [Op.operands]) hy)
    simp [execOp, h1, h2, eqGuard_at_int, binOp_rem, Op.intDiv, h0], rfl⟩

def cmpI : BinOp → Int → Int → Bool
  | .eql, p, q => p == q
  | .neq, p, q => p != q
  | .lss, p, q => decide (p < q)
  | .leq, p, q => decide (p ≤ q)
  | .gtr, p, q => decide (p > q)
  | _, p, q => decide (p ≥ q)
def isCmp : BinOp → Bool
  | .eql | .neq | .lss | .leq | .gtr | .geq => true
  | _ => false

theorem op_cmp {op : BinOp} {x y : Operand} {t yt : TypeId} {k : IntKind} {p q : Int} (hop : isCmp op = true) (hx : Ev st x (.raw (.int k p))) (hy : Ev st y (.raw (.int k q))) :
    Adr P cx st ⟨dst, .binOp op t x y yt, ty, pos, aft, gd⟩ (.raw (.bool (cmpI op p q))) :=
  adr_still fun st' hag β a w hi => ⟨_, by
    have h1 := hi.raw (hag.ev (by simp [Op.operands]) hx)
    have h2 := hi.raw (hag.ev (by simp [Op.operands]) hy)
    cases op <;> first | (simp [isCmp] at hop; done) | (simp [execOp, h1, h2, eqGuard_at_int, binOp_eql, binOp_neq, binOp_lss, binOp_leq, binOp_gtr, binOp_geq]; rfl), rfl⟩
theorem op_eql {x y : Operand} {t yt : TypeId} {k : IntKind} {p q : Int} (hx : Ev st x (.raw (.int k p))) (hy : Ev st y (.raw (.int k q))) :
    Adr P cx st ⟨dst, .binOp .eql t x y yt, ty, pos, aft, gd⟩ (.raw (.bool (p == q))) := op_cmp (op := .eql) rfl hx hy
theorem op_neq {x y : Operand} {t yt : TypeId} {k : IntKind} {p q : Int} (hx : Ev st x (.raw (.int k p))) (hy : Ev st y (.raw (.int k q))) :
    Adr P cx st ⟨dst, .binOp .neq t x y yt, ty, pos, aft, gd⟩ (.raw (.bool (p != q))) := op_cmp (op := .neq) rfl hx hy
theorem op_lss {x y : Operand} {t yt : TypeId} {k : IntKind} {p q : Int} (hx : Ev st x (.raw (.int k p))) (hy : Ev st y (.raw (.int k q))) :
    Adr P cx st ⟨dst, .binOp .lss t x y yt, ty, pos, aft, gd⟩ (.raw (.bool (decide (p < q)))) := op_cmp (op := .lss) rfl hx hy
theorem op_leq {x y : Operand} {t yt : TypeId} {k : IntKind} {p q : Int} (hx : Ev st x (.raw (.int k p))) (hy : Ev st y (.raw (.int k q))) :
    Adr P cx st ⟨dst, .binOp .leq t x y yt, ty, pos, aft, gd⟩ (.raw (.bool (decide (p ≤ q)))) := op_cmp (op := .leq) rfl hx hy
theorem op_gtr {x y : Operand} {t yt : TypeId} {k : IntKind} {p q : Int} (hx : Ev st x (.raw (.int k p))) (hy : Ev st y (.raw (.int k q))) :
    Adr P cx st ⟨dst, .binOp .gtr t x y yt, ty, pos, aft, gd⟩ (.raw (.bool (decide (p > q)))) := op_cmp (op := .gtr) rfl hx hy
theorem op_geq {x y : Operand} {t yt : TypeId} {k : IntKind} {p q : Int} (hx : Ev st x (.raw (.int k p))) (hy : Ev st y (.raw (.int k q))) :
    Adr P cx st ⟨dst, .binOp .geq t x y yt, ty, pos, aft, gd⟩ (.raw (.bool (decide (p ≥ q)))) := op_cmp (op := .geq) rfl hx hy

theorem op_not {x : Operand} {t : TypeId} {b : Bool} (hx : Ev st x (.raw (.bool b))) : Adr P cx st ⟨dst, .unOp .not t x, ty, pos, aft, gd⟩ (.raw (.bool (!b))) :=
  adr_still fun st' hag β a w hi => ⟨_, by
    have h1 := hi.raw (hag.ev (by simp [Op.operands]) hx)
    simp [execOp, h1, Op.unary], rfl⟩
theorem op_neg {x : Operand} {t : TypeId} {k : IntKind} {p r : Int} (hx : Ev st x (.raw (.int k p))) (hr : k.wrap (-p) = r) : Adr P cx st ⟨dst, .unOp .neg t x, ty, pos, aft, gd⟩ (.raw (.int k r)) :=
  adr_still fun st' hag β a w hi => ⟨.int k r, by
    have h1 := hi.raw (hag.ev (by simp [Op.operands]) hx)
    simp [execOp, h1, Op.unary, Op.intArith, hr], rfl⟩
theorem op_conv {x : Operand} {src dt : TypeId} {k k' : IntKind} {p r : Int} (hs : ∃ d, P.underlying src = some d) (hd : P.underlying dt = some (.int k')) (hx : Ev st x (.raw (.int k p))) (hr : k'.wrap p = r) :
    Adr P cx st ⟨dst, .convert src dt x, ty, pos, aft, gd⟩ (.raw (.int k' r)) :=
  adr_still fun st' hag β a w hi => ⟨.int k' r, by
    have h1 := hi.raw (hag.ev (by simp [Op.operands]) hx)
    obtain ⟨d, hs⟩ := hs
    simp [execOp, h1, convert, run_underlying hs, run_underlying hd, Conv.intToInt, hr], rfl⟩

/-! ### slices that are only read -/
theorem tvs_form {α : Type} {rt : RT α} {ok : Ok} {xs : List α} {v : Value} (h : (SV.tv (rSlice rt) xs).holds β w ok v) : ∃ A cap, v = .slice A xs.length cap ∧ xs.length ≤ cap ∧ cap ≤ maxLen ∧ SliceRep rt w ok A xs := by
  obtain ⟨cs, ⟨A, cap, rfl, h1, h2, h3⟩, rfl⟩ := h
  exact ⟨A, cap, by simp [rSlice], h1, h2, h3⟩

theorem op_len {α : Type} {rt : RT α} {x : Operand} {t e : TypeId} {xs : List α} (ht : P.underlying t = some (.slice e)) (hx : Ev st x (.tv (rSlice rt) xs)) :
    Adr P cx st ⟨dst, .call { callee := .builtin .len, args := #[x], argTypes := #[t] }, ty, pos, aft, gd⟩ (.raw (.int .i64 (xs.length : Int))) :=
  adr_still fun st' hag β a w hi => by
    obtain ⟨A, cap, h1, _⟩ := tvs_form (hi.ev (hag.ev (by simp [Op.operands, Call.operands]) hx))
    exact ⟨.int .i64 _, by simp [execOp, resolve, invoke, builtin, h1, Builtin.len_, run_underlying ht, goInt], rfl⟩
theorem hdr_form {nm sz off n : Nat} {v : Value} (h : hdr β w nm sz off n v) : ∃ A cap, v = .slice A n cap := by
  unfold hdr at h
  split at h
  · exact ⟨none, 0, by rw [h.1, h.2]⟩
  · obtain ⟨A, cap, h1, _⟩ := h; exact ⟨A, cap, h1⟩
theorem op_len_own {nm sz off n : Nat} {x : Operand} {t e : TypeId} (ht : P.underlying t = some (.slice e)) (hx : Ev st x (.own nm sz off n)) :
    Adr P cx st ⟨dst, .call { callee := .builtin .len, args := #[x], argTypes := #[t] }, ty, pos, aft, gd⟩ (.raw (.int .i64 (n : Int))) :=
  adr_still fun st' hag β a w hi => by
    obtain ⟨A, cap, h1⟩ := hdr_form (hi.ev (hag.ev (by simp [Op.operands, Call.operands]) hx))
    exact ⟨.int .i64 _, by simp [execOp, resolve, invoke, builtin, h1, Builtin.len_, run_underlying ht, goInt], rfl⟩
theorem op_len_nil {x : Operand} {t e : TypeId} (ht : P.underlying t = some (.slice e)) (hx : Ev st x (.raw (.slice none 0 0))) :
    Adr P cx st ⟨dst, .call { callee := .builtin .len, args := #[x], argTypes := #[t] }, ty, pos, aft, gd⟩ (.raw (.int .i64 0)) :=
  adr_still fun st' hag β a w hi => by
    have h1 := hi.raw (hag.ev (by simp [Op.operands, Call.operands]) hx)
    exact ⟨.int .i64 _, by simp [execOp, resolve, invoke, builtin, h1, Builtin.len_, run_underlying ht, goInt], rfl⟩

/-- x[j]: where it lies -/
theorem op_index {α : Type} {rt : RT α} {x ix : Operand} {t e : TypeId} {k : IntKind} {i : Int} {j : Nat} {xs : List α} {d : α} (ht : P.underlying t = some (.slice e)) (he : Ty P e rt)
    (hx : Ev st x (.tv (rSlice rt) xs)) (hi' : Ev st ix (.raw (.int k i))) (hij : i = (j : Int)) (hd : xs[j]? = some d) : Adr P cx st ⟨dst, .indexAddr t x ix, ty, pos, aft, gd⟩ (.eptr rt d) :=
  adr_still fun st' hag β a w hi => by
    obtain ⟨A, cap, h1, h2, h3, h4⟩ := tvs_form (hi.ev (hag.ev (by simp [Op.operands]) hx))
    have h5 := hi.raw (hag.ev (by simp [Op.operands]) hi')
    have hlt : j < xs.length := (List.getElem?_eq_some_iff.1 hd).1
    obtain ⟨b, o, rfl, hb, hc⟩ := h4 (by intro h; simp [h] at hlt)
    obtain ⟨cs, h6, h7⟩ := hc j d hd
    obtain ⟨_, i0, hi0, hs⟩ := he
    have hb2 : (0 : Int) ≤ i ∧ i < (xs.length : Int) := by omega
    have hj : i.toNat = j := by omega
    exact ⟨_, by simp [execOp, h1, h5, Instr.indexAt, asIntOf, run_underlying ht, hb2, run_sizeOf hi0, hs, hj, Addr.add_lit], b, _, cs, rfl, hb, h6, h7⟩

theorem op_load {α : Type} {rt : RT α} {x : Operand} {t : TypeId} {d : α} (ht : Ty P t rt) (hx : Ev st x (.eptr rt d)) : Adr P cx st ⟨dst, .load t x, ty, pos, aft, gd⟩ (SV.of rt d) :=
  adr_still fun st' hag β a w hi => by
    obtain ⟨b, o, cs, h1, h2, h3, h4⟩ := hi.ev (hag.ev (by simp [Op.operands]) hx)
    obtain ⟨v, h5, h6⟩ := run_loadVar (P := P) ht h3 h4
    exact ⟨v, by simp [execOp, Instr.loadAt, h1, Instr.sureAddr, h5], of_holds h6⟩

theorem run_fieldAt {t : TypeId} {k off : Nat} (hf : fld P t k = some off) (b o : Nat) (w : World) : (Instr.fieldAt t (.pointer (some ⟨b, o, none⟩)) k).run P w = .ok (.pointer (some ⟨b, o + off, none⟩)) w := by
  unfold fld at hf
  split at hf
  · rename_i fs hu
    split at hf
    · rename_i f hk
      split at hf
      · cases hf
      · rename_i hne
        injection hf with hf
        subst hf
        cases hi : P.info? f.type with
        | none => simp [hi] at hne
        | some i =>
          simp only [hi, Option.map_some, Option.getD_some] at hne
          simp [Instr.fieldAt, run_underlying hu, hk, Instr.sureAddr, fieldPlace, run_sizeOf hi, hne, Addr.add_lit]
    · cases hf
  · cases hf

theorem CellsAt.part {w : World} {b o : Nat} {cs : List Value} (h : CellsAt w b o cs) (off n : Nat) : CellsAt w b (o + off) ((cs.drop off).take n) := fun j v hj => by
  rw [Nat.add_assoc]
  refine h (off + j) v ?_
  rw [List.getElem?_take] at hj
  split at hj
  · simpa using hj
  · cases hj

theorem op_field {α γ : Type} {rt : RT α} {rt' : RT γ} {get : α → γ} {set : α → γ → α} {x : Operand} {t : TypeId} {k off : Nat} {d : α} (hf : fld P t k = some off) (hl : Lens rt off rt' get set) (hx : Ev st x (.eptr rt d)) :
    Adr P cx st ⟨dst, .fieldAddr t x k, ty, pos, aft, gd⟩ (.eptr rt' (get d)) :=
  adr_still fun st' hag β a w hi => by
    obtain ⟨b, o, cs, h1, h2, h3, h4⟩ := hi.ev (hag.ev (by simp [Op.operands]) hx)
    exact ⟨_, by simp [execOp, h1, run_fieldAt hf], b, _, _, rfl, h2, hl.get_ h3, h4.part off rt'.n⟩

/-! ### tuples -/
theorem op_ext20 {x : Operand} {s0 s1 : SV} (hx : Ev st x (.tup2 s0 s1)) : Adr P cx st ⟨dst, .extract x 0, ty, pos, aft, gd⟩ s0 :=
  adr_still fun st' hag β a w hi => by
    obtain ⟨u0, u1, h1, h2, h3⟩ := hi.ev (hag.ev (by simp [Op.operands]) hx)
    exact ⟨u0, by simp [execOp, h1, Instr.extract], h2⟩
theorem op_ext21 {x : Operand} {s0 s1 : SV} (hx : Ev st x (.tup2 s0 s1)) : Adr P cx st ⟨dst, .extract x 1, ty, pos, aft, gd⟩ s1 :=
  adr_still fun st' hag β a w hi => by
    obtain ⟨u0, u1, h1, h2, h3⟩ := hi.ev (hag.ev (by simp [Op.operands]) hx)
    exact ⟨u1, by simp [execOp, h1, Instr.extract], h3⟩
theorem op_ext30 {x : Operand} {s0 s1 s2 : SV} (hx : Ev st x (.tup3 s0 s1 s2)) : Adr P cx st ⟨dst, .extract x 0, ty, pos, aft, gd⟩ s0 :=
  adr_still fun st' hag β a w hi => by
    obtain ⟨u0, u1, u2, h1, h2, h3, h4⟩ := hi.ev (hag.ev (by simp [Op.operands]) hx)
    exact ⟨u0, by simp [execOp, h1, Instr.extract], h2⟩
theorem op_ext31 {x : Operand} {s0 s1 s2 : SV} (hx : Ev st x (.tup3 s0 s1 s2)) : Adr P cx st ⟨dst, .extract x 1, ty, pos, aft, gd⟩ s1 :=
  adr_still fun st' hag β a w hi => by
    obtain ⟨u0, u1, u2, h1, h2, h3, h4⟩ := hi.ev (hag.ev (by simp [Op.operands]) hx)
    exact ⟨u1, by simp [execOp, h1, Instr.extract], h3⟩
theorem op_ext32 {x : Operand} {s0 s1 s2 : SV} (hx : Ev st x (.tup3 s0 s1 s2)) : Adr P cx st ⟨dst, .extract x 2, ty, pos, aft, gd⟩ s2 :=
  adr_still fun st' hag β a w hi => by
    obtain ⟨u0, u1, u2, h1, h2, h3, h4⟩ := hi.ev (hag.ev (by simp [Op.operands]) hx)
    exact ⟨u2, by simp [execOp, h1, Instr.extract], h4⟩

end
end Go.Eng
