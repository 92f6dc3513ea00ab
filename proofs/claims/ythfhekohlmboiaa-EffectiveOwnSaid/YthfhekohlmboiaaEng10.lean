import Derived.Test.YthfhekohlmboiaaEng9
import Derived.Laws.StructEq
namespace Go.Eng
set_option linter.unusedSimpArgs false

section
variable {P : Program} {cx : Cx} {st st' : St} {β : Loc} {a : Act} {w w' : World} {ops : Array Oper} {k : Kn} {c : Code}
variable {dst : Option Tmp} {ty : TypeId} {pos : String} {aft : Array Edge} {gd : Option (Nat × Bool)}

/-! ### a result that lies in a variable's own block -/
theorem res_cell {α γ : Type} {rt : RT α} [NM rt] {rt' : RT γ} [NM rt'] {get : α → γ} {set : α → γ → α} {nm i f ad : Nat} {xs : List α} {y : α} {t : TypeId} (ht : Ty P t rt') (hs : lookS st.slots ad = some (.optr nm rt.n i f)) (hn : lookH st.heap nm = some ⟨rt, xs⟩) (hy : xs[i]? = some y) (hl : Lens rt f rt' get set) :
    Res P cx st (.cell ad t) (SV.of rt' (get y)) := fun β a w hi => by
  obtain ⟨v, h1, b, o, h2, h3⟩ := hi.slots ad _ hs
  obtain ⟨cs, h4, h5⟩ := row_part (own_row hi hn h2) hy hl
  obtain ⟨u, h6, h7⟩ := run_loadVar (P := P) ht h4 h5
  exact ⟨u, by simp [resRun, h1, h3, asAddr, h6], of_holds h7⟩

/-! ### calls that are lent rows of the caller's own: the result leads nowhere -/
def FlatRT {α : Type} (rt : RT α) : Prop := ∀ {w w' : World} {ok ok' : Ok} {cs : List Value} {d : α}, rt.rep w ok cs d → rt.rep w' ok' cs d
theorem flat_int (k : IntKind) : FlatRT (rInt k) := fun h => h
theorem flat_bool : FlatRT rBool := fun h => h
theorem flat_str : FlatRT rStr := fun h => h
theorem flat_pair {α γ : Type} {a : RT α} {b : RT γ} (ha : FlatRT a) (hb : FlatRT b) : FlatRT (rPair a b) := fun ⟨c1, c2, h, h1, h2⟩ => ⟨c1, c2, h, ha h1, hb h2⟩
theorem flat_one {α : Type} {a : RT α} (ha : FlatRT a) : FlatRT (rOne a) := fun h => ha h

def SV.Flat (s : SV) : Prop := ∀ {β β' : Loc} {w w' : World} {ok ok' : Ok} {v : Value}, s.holds β w ok v → s.holds β' w' ok' v
theorem flat_raw {v : Value} : (SV.raw v).Flat := fun h => h
theorem flat_tv {α : Type} {rt : RT α} [NM rt] {d : α} (h : FlatRT rt) : (SV.tv rt d).Flat := fun ⟨cs, h1, h2⟩ => ⟨cs, h h1, h2⟩
theorem flat_tup2 {s0 s1 : SV} (h0 : s0.Flat) (h1 : s1.Flat) : (SV.tup2 s0 s1).Flat := fun ⟨x, y, h, k0, k1⟩ => ⟨x, y, h, h0 k0, h1 k1⟩
theorem flat_tup3 {s0 s1 s2 : SV} (h0 : s0.Flat) (h1 : s1.Flat) (h2 : s2.Flat) : (SV.tup3 s0 s1 s2).Flat := fun ⟨x, y, z, h, k0, k1, k2⟩ => ⟨x, y, z, h, h0 k0, h1 k1, h2 k2⟩

inductive ArgsB (st : St) : List Operand → List SV → Prop
  | nil : ArgsB st [] []
  | cons {x : Operand} {s : SV} {xs : List Operand} {ss : List SV} (h : Ev st x s) (hp : s.plain = true) (hr : ArgsB st xs ss) : ArgsB st (x :: xs) (s :: ss)
  | nilS {α : Type} {rt : RT α} {x : Operand} {xs : List Operand} {ss : List SV} (h : Ev st x (.raw (.slice none 0 0))) (hr : ArgsB st xs ss) : ArgsB st (x :: xs) (.tv (rSlice rt) [] :: ss)
  | lit {α : Type} {rt : RT α} {d : α} {v : Value} {x : Operand} {xs : List Operand} {ss : List SV} (h : Ev st x (.raw v)) (hv : ∀ w ok, rt.val w ok v d) (hr : ArgsB st xs ss) : ArgsB st (x :: xs) (.tv rt d :: ss)
  | own {α : Type} {rt : RT α} {ds : List α} {nm off n : Nat} {x : Operand} {xs : List Operand} {ss : List SV} (h : Ev st x (.own nm rt.n off n)) (hn : lookH st.heap nm = some ⟨rt, ds⟩) (hle : off + n ≤ ds.length) (hr : ArgsB st xs ss) (hm : rt.mp = false := by rfl) : ArgsB st (x :: xs) (.tv (rSlice rt) ((ds.drop off).take n) :: ss)

theorem InvB.own_lt (hi : InvB cx st β a w) {nm : Nat} {hb : HB} (hn : lookH st.heap nm = some hb) {b o : Nat} (h : β nm = some (b, o)) : b < w.heap.size := (hi.own nm hb hn (b, o) h).2

theorem ArgsB.holds : ∀ {xs : List Operand} {as : List SV}, ArgsB st xs as → ∀ {st' : St}, (∀ x ∈ xs, evS st' x = evS st x) → (∀ x ∈ xs, ∀ s nm, Ev st x s → s.free nm = false → lookH st'.heap nm = lookH st.heap nm) → InvB cx st' β a w → HoldsAll w (fun b => b < w.heap.size) as (xs.map a.eval)
  | _, _, .nil, _, _, _, _ => rfl
  | _, _, .cons (x := x) h hp hr, st', hx, hh, hi =>
    ⟨_, _, rfl, SV.plain_keep hp (fun b hb => ⟨hb.2.1, rfl⟩) (hi.ev (h.tr (hx x (by simp)))), hr.holds (fun y hy => hx y (by simp [hy])) (fun y hy => hh y (by simp [hy])) hi⟩
  | _, _, .nilS (x := x) h hr, st', hx, hh, hi =>
    ⟨_, _, rfl, by rw [hi.raw (h.tr (hx x (by simp)))]; exact nil_val, hr.holds (fun y hy => hx y (by simp [hy])) (fun y hy => hh y (by simp [hy])) hi⟩
  | _, _, .lit (x := x) h hv hr, st', hx, hh, hi =>
    ⟨_, _, rfl, by rw [hi.raw (h.tr (hx x (by simp)))]; exact hv _ _, hr.holds (fun y hy => hx y (by simp [hy])) (fun y hy => hh y (by simp [hy])) hi⟩
  | _, _, .own (x := x) h hn hle hr hm, st', hx, hh, hi =>
    have : NM _ := ⟨hm⟩
    ⟨_, _, rfl, own_sliceRep hi ((hh x (by simp) _ _ h (by simp [SV.free])).trans hn) (hi.ev (h.tr (hx x (by simp)))) hle (fun _ hb => hb.2.1) (fun _ _ hb => hi.own_lt ((hh x (by simp) _ _ h (by simp [SV.free])).trans hn) hb), hr.holds (fun y hy => hx y (by simp [hy])) (fun y hy => hh y (by simp [hy])) hi⟩

theorem op_callb {k : FuncId} {as : List SV} {r : SV} {xs : List Operand} {ts : Array TypeId} (h : Ct P k as r) (ha : ArgsB st xs as) (hr : r.Flat) :
    Adr P cx st ⟨dst, .call { callee := .value (.func k), args := xs.toArray, argTypes := ts }, ty, pos, aft, gd⟩ r := by
  intro st' hag d hd hdn a w ⟨β, hi⟩ Q
  have hargs := ha.holds (cx := cx) (β := β) (a := a) (w := w) (st' := st') (fun x hx => hag.ops x (by simp [Op.operands, Call.operands, hx])) (fun x hx s nm he hf => hag.look (by simp [Op.operands, Call.operands, hx]) he hf) hi
  have hrun : (execOp a.eval ⟨dst, .call { callee := .value (.func k), args := xs.toArray, argTypes := ts }, ty, pos, aft, gd⟩).run P w = .ok (.enter k (xs.map a.eval).toArray) w := by
    simp [execOp, resolve, Act.eval, Deferred.ofValue, invoke, h.ent]
  unfold Oper.wp
  rw [hrun, Oper.upon_enter]
  refine (h.calls w _ _ (fun b hb => hb) hargs).mono ?_
  rintro e w' ⟨v, rfl, hb, hv⟩
  have hb := hb.plain (fun _ h => h)
  subst hd
  exact ⟨β, (hi.later hb).put hdn (hr hv)⟩

/-! ### structs held against each other -/
def EqTy {α : Type} [BEq α] (P : Program) (t : TypeId) (rt : RT α) (d0 : Nat) : Prop :=
  ∀ (d : Nat) (w : World) (ok : Ok) (v1 v2 : Value) (x y : α), d0 ≤ d → rt.val w ok v1 x → rt.val w ok v2 y → (Op.equalIn d t v1 v2).run P w = .ok (x == y) w

theorem eq_int {t : TypeId} {k : IntKind} (h : P.underlying t = some (.int k)) : EqTy P t (rInt k) 1 := by
  rintro (_ | d) w ok v1 v2 x y hd ⟨_, rfl, rfl⟩ ⟨_, rfl, rfl⟩
  · omega
  · exact run_equalIn_int w d t k k x y h
theorem eq_bool {t : TypeId} (h : P.underlying t = some .bool) : EqTy P t rBool 1 := by
  rintro (_ | d) w ok v1 v2 x y hd ⟨_, rfl, rfl⟩ ⟨_, rfl, rfl⟩
  · omega
  · exact run_equalIn_bool' w d t x y h
theorem toList_mk (l : List UInt8) : (ByteArray.mk l.toArray).toList = l := by rw [ByteArray.toList_eq]
theorem eq_str {t : TypeId} (h : P.underlying t = some .string) : EqTy P t rStr 1 := by
  rintro (_ | d) w ok v1 v2 x y hd ⟨_, rfl, rfl⟩ ⟨_, rfl, rfl⟩
  · omega
  · have := run_equalIn_string (P := P) w d t ⟨x.toArray⟩ ⟨y.toArray⟩ h
    rw [toList_mk, toList_mk] at this
    exact this

/-- the fields from one on -/
def EqF {α : Type} [BEq α] (P : Program) (fs : List Field) (off : Nat) (rt : RT α) (d0 : Nat) : Prop :=
  ∀ (d : Nat) (w : World) (ok : Ok) (xs ys : Array Value) (x y : α), d0 ≤ d → rt.rep w ok (xs.toList.drop off) x → rt.rep w ok (ys.toList.drop off) y → (Op.eqFields d xs ys fs).run P w = .ok (x == y) w

theorem run_part {α : Type} {t : TypeId} {rt : RT α} [NM rt] (ht : Ty P t rt) {ok : Ok} {xs : Array Value} {off : Nat} {x : α} (h : rt.rep w ok ((xs.toList.drop off).take rt.n) x) : ∃ v, (part t xs off).run P w = .ok v w ∧ rt.val w ok v x := by
  obtain ⟨⟨de, hu, hd⟩, i, hi, hs⟩ := ht
  cases ha : rt.agg with
  | true =>
    refine ⟨.agg (xs.extract off (off + rt.n)), by simp [part, run_isAgg hu, hd, ha, run_sizeOf hi, hs], _, h, ?_⟩
    simp only [ha, if_true]
    congr 1
    apply Array.ext'
    simp [List.extract_eq_take_drop]
  | false =>
    obtain ⟨c, hc⟩ := rep_head rt ha h
    have hn := rt.scal ha
    have h0 : xs[off]? = some c := by
      have : ((xs.toList.drop off).take rt.n)[0]? = some c := by rw [hc]; rfl
      rw [hn, List.getElem?_take_of_lt (by omega), List.getElem?_drop] at this
      simpa using this
    exact ⟨c, by simp [part, run_isAgg hu, hd, ha, h0], [c], by rw [← hc]; exact h, by simp [ha]⟩

theorem eqf_last {α : Type} [BEq α] {f : Field} {off d0 : Nat} {rt : RT α} [NM rt] (hn : f.name ≠ "_") (ho : f.offset = off) (ht : Ty P f.type rt) (he : EqTy P f.type rt d0) : EqF P [f] off rt d0 := by
  intro d w ok xs ys x y hd hx hy
  have hx' : rt.rep w ok ((xs.toList.drop off).take rt.n) x := by rw [List.take_of_length_le (Nat.le_of_eq (rt.len hx))]; exact hx
  have hy' : rt.rep w ok ((ys.toList.drop off).take rt.n) y := by rw [List.take_of_length_le (Nat.le_of_eq (rt.len hy))]; exact hy
  obtain ⟨v1, h1, h2⟩ := run_part (P := P) ht hx'
  obtain ⟨v2, h3, h4⟩ := run_part (P := P) ht hy'
  have h5 := he d w ok v1 v2 x y hd h2 h4
  simp only [Op.eqFields, if_pos hn, ho, Sem.run_bind, h1, Result.andThen_ok, h3, h5]
  cases x == y <;> simp

theorem eqf_cons {α γ : Type} [BEq α] [BEq γ] {f : Field} {fs : List Field} {off off' d0 : Nat} {rt : RT α} [NM rt] {rt' : RT γ} [NM rt'] (hn : f.name ≠ "_") (ho : f.offset = off) (ht : Ty P f.type rt) (he : EqTy P f.type rt d0) (hf : EqF P fs off' rt' d0) (hoff : off' = off + rt.n) : EqF P (f :: fs) off (rPair rt rt') d0 := by
  subst hoff
  intro d w ok xs ys x y hd hx hy
  obtain ⟨c1, c2, hxc, hx1, hx2⟩ := hx
  obtain ⟨e1, e2, hyc, hy1, hy2⟩ := hy
  have hl1 := rt.len hx1
  have hl2 := rt.len hy1
  have hx' : rt.rep w ok ((xs.toList.drop off).take rt.n) x.1 := by rw [hxc, List.take_append_of_le_length (by omega), List.take_of_length_le (by omega)]; exact hx1
  have hy' : rt.rep w ok ((ys.toList.drop off).take rt.n) y.1 := by rw [hyc, List.take_append_of_le_length (by omega), List.take_of_length_le (by omega)]; exact hy1
  have hx'' : rt'.rep w ok (xs.toList.drop (off + rt.n)) x.2 := by rw [← List.drop_drop, hxc, List.drop_append, List.drop_of_length_le (by omega), hl1, Nat.sub_self]; exact hx2
  have hy'' : rt'.rep w ok (ys.toList.drop (off + rt.n)) y.2 := by rw [← List.drop_drop, hyc, List.drop_append, List.drop_of_length_le (by omega), hl2, Nat.sub_self]; exact hy2
  obtain ⟨v1, h1, h2⟩ := run_part (P := P) ht hx'
  obtain ⟨v2, h3, h4⟩ := run_part (P := P) ht hy'
  have h5 := he d w ok v1 v2 x.1 y.1 hd h2 h4
  have h6 := hf d w ok xs ys x.2 y.2 hd hx'' hy''
  simp only [Op.eqFields, if_pos hn, ho, Sem.run_bind, h1, Result.andThen_ok, h3, h5]
  have hb : (x == y) = (x.1 == y.1 && x.2 == y.2) := rfl
  rw [hb]
  cases x.1 == y.1
  · simp
  · simp [h6]

theorem eq_struct {α : Type} [BEq α] {t : TypeId} {rt : RT α} [NM rt] {fs : List Field} {d0 : Nat} (hag : rt.agg = true) (hu : P.underlying t = some (.struct (P.fieldsOf t))) (hfs : (P.fieldsOf t).toList = fs) (hp : P.stoodInHeld t = false) (hf : EqF P fs 0 rt d0) : EqTy P t rt (d0 + 1) := by
  rintro (_ | d) w ok v1 v2 x y hd ⟨c1, h1, rfl⟩ ⟨c2, h2, rfl⟩
  · omega
  · simp only [hag, if_true]
    rw [run_equalIn_struct w d t _ _ hu hp, hfs]
    exact hf d w ok _ _ x y (by omega) (by simpa using h1) (by simpa using h2)

theorem op_seql {α : Type} [BEq α] {rt : RT α} [NM rt] {x y : Operand} {t yt : TypeId} {p q : α} {d0 : Nat} (he : EqTy P t rt d0) (hd0 : Nat.ble d0 10000 = true) (hag : rt.agg = true) (hm : P.eqGuardType P.depth t = false) (hx : Rd st x rt p) (hy : Rd st y rt q) :
    Adr P cx st ⟨dst, .binOp .eql t x y yt, ty, pos, aft, gd⟩ (.raw (.bool (p == q))) :=
  adr_still fun st' hag' β a w hi => by
    have h1 := (hx.tr (hag'.ops x (by simp [Op.operands]))).val hi
    have h2 := (hy.tr (hag'.ops y (by simp [Op.operands]))).val hi
    have h3 := he 10000 w _ _ _ p q (by simpa using hd0) h1 h2
    obtain ⟨c1, _, e1⟩ := h1
    obtain ⟨c2, _, e2⟩ := h2
    simp only [hag, if_true] at e1 e2
    rw [e1, e2] at h3
    exact ⟨.bool (p == q), by simp [execOp, e1, e2, run_eqGuard_agg, hm, run_eql_struct, h3], rfl⟩
theorem op_sneq {α : Type} [BEq α] {rt : RT α} [NM rt] {x y : Operand} {t yt : TypeId} {p q : α} {d0 : Nat} (he : EqTy P t rt d0) (hd0 : Nat.ble d0 10000 = true) (hag : rt.agg = true) (hm : P.eqGuardType P.depth t = false) (hx : Rd st x rt p) (hy : Rd st y rt q) :
    Adr P cx st ⟨dst, .binOp .neq t x y yt, ty, pos, aft, gd⟩ (.raw (.bool (p != q))) :=
  adr_still fun st' hag' β a w hi => by
    have h1 := (hx.tr (hag'.ops x (by simp [Op.operands]))).val hi
    have h2 := (hy.tr (hag'.ops y (by simp [Op.operands]))).val hi
    have h3 := he 10000 w _ _ _ p q (by simpa using hd0) h1 h2
    obtain ⟨c1, _, e1⟩ := h1
    obtain ⟨c2, _, e2⟩ := h2
    simp only [hag, if_true] at e1 e2
    rw [e1, e2] at h3
    exact ⟨.bool (p != q), by simp [execOp, e1, e2, run_eqGuard_agg, hm, run_neq_struct, h3, bne], rfl⟩

/-- a cut of a row of the call's own -/
theorem op_oslice {nm off n : Nat} {α : Type} {rt : RT α} [NM rt] {x : Operand} {lo hi : Option Operand} {t e : TypeId} {l h : Nat} (ht : P.underlying t = some (.slice e)) (he : Ty P e rt) (hx : Ev st x (.own nm rt.n off n))
    (hlo : match lo with | none => l = 0 | some y => ∃ (k : IntKind) (i : Int), Ev st y (.raw (.int k i)) ∧ i = (l : Int)) (hhi : match hi with | none => h = n | some y => ∃ (k : IntKind) (i : Int), Ev st y (.raw (.int k i)) ∧ i = (h : Int))
    (hlh : l ≤ h) (hle : h ≤ n) : Adr P cx st ⟨dst, .slice t x lo hi none, ty, pos, aft, gd⟩ (.own nm rt.n (off + l) (h - l)) :=
  adr_still fun st' hag β a w hiv => by
    have hv := hiv.ev (hag.ev (by simp [Op.operands]) hx)
    obtain ⟨A, cap, h1⟩ := hdr_form hv
    obtain ⟨_, i0, hi0, hs⟩ := he
    have hnc : n ≤ cap := by
      simp only [SV.holds, hdr] at hv
      split at hv
      · omega
      · obtain ⟨A2, cap2, g1, g2, _⟩ := hv
        rw [h1] at g1; injection g1 with _ _ g1; omega
    have hbounds : (Instr.sliceBounds true n cap (lo.map a.eval) (hi.map a.eval) none).run P w = .ok (l, h, cap) w := by
      have hlo' : ∀ m, l ≤ m → (match lo.map a.eval with | some v => Instr.sliceBound v m (if (none : Option Value).isSome then .slice3C else .sliceB) | none => pure 0 : Sem Nat).run P w = .ok l w := by
        intro m hm
        cases lo with
        | none => simp at hlo; simp [hlo]
        | some y =>
          obtain ⟨k, i, hy, hil⟩ := hlo
          have h5 := hiv.raw (hag.ev (by cases hi <;> simp [Op.operands]) hy)
          have hb : 0 ≤ i ∧ i ≤ (m : Int) := by omega
          have hn : i.toNat = l := by omega
          simp [h5, Instr.sliceBound, asIntOf, hb, hn]
      cases hi with
      | none =>
        simp at hhi
        have hl' := hlo' n (by omega)
        cases lo with
        | none => simp at hlo; simp [Instr.sliceBounds, hlo, hhi]
        | some y => simp at hl'; simp [Instr.sliceBounds, hl', hhi]
      | some y =>
        obtain ⟨k, i, hy, hih⟩ := hhi
        have h5 := hiv.raw (hag.ev (by cases lo <;> simp [Op.operands]) hy)
        have hb : 0 ≤ i ∧ i ≤ (cap : Int) := by omega
        have hn : i.toNat = h := by omega
        have hh' : (Instr.sliceBound (a.eval y) cap .sliceAcap).run P w = .ok h w := by simp [h5, Instr.sliceBound, asIntOf, hb, hn]
        have hl' := hlo' h hlh
        cases lo with
        | none => simp at hlo; simp [Instr.sliceBounds, hlo, hh']
        | some y => simp at hl'; simp [Instr.sliceBounds, hl', hh']
    refine ⟨.slice (if cap = l then A else A.map (·.add (l * rt.n))) (h - l) (cap - l), ?_, ?_⟩
    · simp [execOp, Instr.sliceAt, run_underlying ht, h1, Instr.slice, hbounds, run_sizeOf hi0, hs]
    · simp only [SV.holds, hdr] at hv ⊢
      cases hb : β nm with
      | none =>
        rw [hb] at hv
        obtain ⟨hv, hn⟩ := hv
        rw [h1] at hv
        injection hv with hA _ hc
        subst hA hc
        have hl0 : l = 0 := by omega
        have hh0 : h = 0 := by omega
        subst hl0 hh0
        simp
      | some q =>
        obtain ⟨b, o⟩ := q
        rw [hb] at hv
        obtain ⟨A2, cap2, g1, g2, g3, g4⟩ := hv
        rw [h1] at g1
        injection g1 with g1 _ g5
        subst g1 g5
        refine ⟨_, _, rfl, by omega, by omega, ?_⟩
        rcases g4 with ⟨g4, g5⟩ | ⟨g4, cur, e', fr, g5, g6⟩
        · exact .inl ⟨by omega, by omega⟩
        · by_cases hcl : cap = l
          · exact .inl ⟨by omega, by omega⟩
          · refine .inr ⟨by rw [if_neg hcl, g4]; simp [Addr.add_lit, Nat.add_mul, Nat.add_assoc], cur, e', fr, g5, ?_⟩
            rw [show off + l + (cap - l) = off + cap by omega]; exact g6

/-- a slice's length fits -/
theorem inv_len {α : Type} {rt : RT α} [NM rt] {i : Nat} {xs : List α} (hs : lookS st.slots i = some (.tv (rSlice rt) xs)) (hi : Inv cx st a w) : xs.length ≤ 9223372036854775807 := by
  obtain ⟨β, hb⟩ := hi
  obtain ⟨v, _, h2⟩ := hb.slots i _ hs
  obtain ⟨A, cap, _, h3, h4, _⟩ := tvs_form h2
  simp only [maxLen] at h4; omega
theorem j_len {α : Type} {rt : RT α} [NM rt] (i : Nat) {xs : List α} (hs : lookS st.slots i = some (.tv (rSlice rt) xs)) (h : xs.length ≤ 9223372036854775807 → J P cx st c k) : J P cx st c k := fun a w hi => h (inv_len hs hi) a w hi

/-- what every datum that lies in memory fulfils -/
def Fits {α : Type} (rt : RT α) (φ : α → Prop) : Prop := ∀ {w : World} {ok : Ok} {cs : List Value} {d : α}, rt.rep w ok cs d → φ d
theorem fits_any {α : Type} {rt : RT α} [NM rt] : Fits rt (fun _ => True) := fun _ => trivial
theorem fits_one {α : Type} {rt : RT α} [NM rt] {φ : α → Prop} (h : Fits rt φ) : Fits (rOne rt) φ := fun q => h q
theorem fits_pair {α γ : Type} {a : RT α} {b : RT γ} {φ : α → Prop} {ψ : γ → Prop} (ha : Fits a φ) (hb : Fits b ψ) : Fits (rPair a b) (fun d => φ d.1 ∧ ψ d.2) := fun ⟨_, _, _, h1, h2⟩ => ⟨ha h1, hb h2⟩
theorem fits_slice {α : Type} {rt : RT α} [NM rt] {φ : α → Prop} (h : Fits rt φ) : Fits (rSlice rt) (fun xs => xs.length ≤ 9223372036854775807 ∧ ∀ x ∈ xs, φ x) := fun ⟨A, cap, h1, h2, h3, h4⟩ => by
  refine ⟨by simp only [maxLen] at h3; omega, fun x hx => ?_⟩
  obtain ⟨b, o, _, _, hc⟩ := h4 (by rintro rfl; cases hx)
  obtain ⟨i, hi⟩ := List.getElem?_of_mem hx
  obtain ⟨cs, h5, _⟩ := hc i x hi
  exact h h5
theorem inv_fits {α : Type} {rt : RT α} [NM rt] {φ : α → Prop} {i : Nat} {d : α} (hf : Fits rt φ) (hs : lookS st.slots i = some (.tv rt d)) (hi : Inv cx st a w) : φ d := by
  obtain ⟨β, hb⟩ := hi
  obtain ⟨v, _, h2⟩ := hb.slots i _ hs
  obtain ⟨cs, h1, _⟩ : rt.val w _ v d := h2
  exact hf h1
theorem j_fits {α : Type} {rt : RT α} [NM rt] {φ : α → Prop} (i : Nat) {d : α} (hf : Fits rt φ) (hs : lookS st.slots i = some (.tv rt d)) (h : φ d → J P cx st c k) : J P cx st c k := fun a w hi => h (inv_fits hf hs hi) a w hi

theorem op_rem_e {x y : Operand} {t yt : TypeId} {k : IntKind} {p q r : Int} (hx : Ev st x (.raw (.int k p))) (hy : Ev st y (.raw (.int k q))) (h0 : q ≠ 0) (hr : p.tmod q = r) :
    Adr P cx st ⟨dst, .binOp .rem t x y yt, ty, pos, aft, gd⟩ (.raw (.int k r)) := hr ▸ op_rem hx hy h0
theorem quo64 {p q : Int} (h0 : 0 ≤ p) (h1 : p ≤ 9223372036854775807) (h2 : 0 < q) : IntKind.i64.wrap (p.tdiv q) = p / q := by
  rw [Int.tdiv_eq_ediv_of_nonneg h0]
  have h3 : 0 ≤ p / q := Int.ediv_nonneg h0 (by omega)
  have h4 : p / q ≤ p := Int.ediv_le_self _ h0
  exact w64 (by omega)
theorem rem64 {p q : Int} (h0 : 0 ≤ p) : p.tmod q = p % q := Int.tmod_eq_emod_of_nonneg h0

end
end Go.Eng
