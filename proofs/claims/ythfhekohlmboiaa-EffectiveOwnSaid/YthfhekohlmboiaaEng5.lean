import Derived.Test.YthfhekohlmboiaaEng4
namespace Go.Eng

def noLoc : Loc := fun _ => none

def okR (cx : Cx) (w' : World) : Ok := fun b => (cx.ok0 b ∨ cx.new b) ∧ b < w'.heap.size

/-- what a call gives: the value reads as r; nothing that was there has turned -/
def RetR (cx : Cx) (r : SV) : Ending → World → Prop := fun e w' =>
  ∃ v, e = .returned v ∧ BelowX cx.ex cx.w0.heap.size cx.w0 w' ∧ r.holds noLoc w' (okR cx w') v

def HoldsAll (w : World) (ok : Ok) : List SV → List Value → Prop
  | [], vs => vs = []
  | s :: r, vs => ∃ v vr, vs = v :: vr ∧ s.holds noLoc w ok v ∧ HoldsAll w ok r vr

/-- A CONTRACT: function k, called with arguments that read so, returns what reads as r -/
structure Ct (P : Program) (k : FuncId) (as : List SV) (r : SV) : Prop where
  ent : ∀ w args, (callFunc k args).run P w = .ok (.enter k args) w
  calls : ∀ w ok0 vs, (∀ b, ok0 b → b < w.heap.size) → HoldsAll w ok0 as vs → Calls P k vs.toArray w (RetR (Cx.of w ok0 0) r)

section
variable {P : Program} {cx : Cx} {st st' : St} {β : Loc} {a : Act} {w w' : World}

theorem SV.plain_free : ∀ {s : SV}, s.plain = true → ∀ nm, s.free nm = true
  | .raw _, _, _ => rfl
  | .tv _ _, _, _ => rfl
  | .eptr _ _, _, _ => rfl
  | .gd _ s, h, nm => SV.plain_free (s := s) h nm
  | .both s _, h, nm => SV.plain_free (s := s) h nm
  | .lnk s _ t, h, nm => by simp only [SV.plain, Bool.and_eq_true] at h; simp [SV.free, SV.plain_free h.1 nm, SV.plain_free h.2 nm]
  | .tup2 a b, h, nm => by simp only [SV.plain, Bool.and_eq_true] at h; simp [SV.free, SV.plain_free h.1 nm, SV.plain_free h.2 nm]
  | .tup3 a b c, h, nm => by simp only [SV.plain, Bool.and_eq_true] at h; simp [SV.free, SV.plain_free h.1.1 nm, SV.plain_free h.1.2 nm, SV.plain_free h.2 nm]
  | .tup4 a b c d, h, nm => by simp only [SV.plain, Bool.and_eq_true] at h; simp [SV.free, SV.plain_free h.1.1.1 nm, SV.plain_free h.1.1.2 nm, SV.plain_free h.1.2 nm, SV.plain_free h.2 nm]

theorem SV.plain_keep {s : SV} (hp : s.plain = true) {β' : Loc} {ok ok' : Ok} (h : ∀ b, ok b → ok' b ∧ w'.heap[b]? = w.heap[b]?) {v : Value} (hv : s.holds β w ok v) : s.holds β' w' ok' v :=
  SV.keep h (fun nm hn => by rw [SV.plain_free hp nm] at hn; cases hn) hv

def slots0 : Nat → List SV → List (Nat × SV)
  | _, [] => []
  | i, s :: r => (i, s) :: slots0 (i + 1) r

theorem slots0_look : ∀ {as : List SV} {i n : Nat} {s : SV}, lookS (slots0 i as) n = some s → ∃ j, n = i + j ∧ as[j]? = some s
  | [], _, _, _, h => by simp [slots0, lookS] at h
  | s0 :: r, i, n, s, h => by
    simp only [slots0, lookS_cons] at h
    split at h
    · rename_i e; exact ⟨0, by omega, by simpa using h⟩
    · obtain ⟨j, h1, h2⟩ := slots0_look h
      exact ⟨j + 1, by omega, by simpa using h2⟩

theorem holdsAll_at : ∀ {ok : Ok} {as : List SV} {vs : List Value}, HoldsAll w ok as vs → ∀ {j : Nat} {s : SV}, as[j]? = some s → ∃ v, vs[j]? = some v ∧ s.holds noLoc w ok v
  | _, [], _, _, j, s, h => by simp at h
  | _, s0 :: r, vs, ⟨v, vr, h1, h2, h3⟩, 0, s, h => by
    simp at h; subst h; subst h1; exact ⟨v, rfl, h2⟩
  | _, s0 :: r, vs, ⟨v, vr, h1, h2, h3⟩, j + 1, s, h => by
    subst h1
    obtain ⟨u, h4, h5⟩ := holdsAll_at h3 (by simpa using h)
    exact ⟨u, by simpa using h4, h5⟩

theorem holdsAll_len : ∀ {ok : Ok} {as : List SV} {vs : List Value}, HoldsAll w ok as vs → vs.length = as.length
  | _, [], vs, h => by have h : vs = [] := h; simp [h]
  | _, _ :: r, _, ⟨v, vr, h1, _, h3⟩ => by subst h1; simp [holdsAll_len h3]

theorem callFunc_enter {k : FuncId} {fn : Func} {c : Code} (hf : P.funcs[k]? = some fn) (hb : fn.body = some c) (hn : (fn.name == "runtime.NumGoroutine") = false) (w : World) (args : Array Value) :
    (callFunc k args).run P w = .ok (.enter k args) w := by
  simp only [callFunc, Sem.run_bind, run_program, Result.andThen_ok, hf, hn, hb, Bool.false_eq_true, if_false, Option.isNone_some]
  rfl

/-- into a function -/
theorem ct_intro {k : FuncId} {fn : Func} {c : Code} {as : List SV} {r : SV} (hf : P.funcs[k]? = some fn) (hb : fn.body = some c) (hn : (fn.name == "runtime.NumGoroutine") = false) {m : Nat} (hm : fn.ntmps = m) (hlen : Nat.ble as.length m = true)
    (hp : (as.all SV.plain) = true) (h : ∀ (w0 : World) (ok0 : Ok), J P (Cx.of w0 ok0 m) ⟨slots0 0 as, []⟩ c (.fin fn (RetR (Cx.of w0 ok0 m) r))) : Ct P k as r := by
  refine ⟨callFunc_enter hf hb hn, fun w ok0 vs hok hh => ?_⟩
  have hl := holdsAll_len hh
  have hlen' : as.length ≤ m := by simpa using hlen
  refine calls_of_wp hf hb ?_
  have := h w ok0 { tmps := vs.toArray ++ Array.replicate (fn.ntmps - vs.toArray.size) undef, defers := [] } w ⟨noLoc, ?_⟩
  · exact wp_mono this fun e a w hq => hq
  · refine ⟨(Below.refl _ _).toX, hok, rfl, by simp [hm, hl]; omega, fun nm hb hh => by simp [lookH] at hh, fun nm nm' hb hb' hh => by simp [lookH] at hh, fun nm hb hh => by simp [lookH] at hh, fun i s hs => ?_⟩
    obtain ⟨j, rfl, hj⟩ := slots0_look hs
    obtain ⟨v, h1, h2⟩ := holdsAll_at hh hj
    have hjl : j < vs.length := (List.getElem?_eq_some_iff.1 h1).1
    refine ⟨v, by simp only [Nat.zero_add]; rw [Array.getElem?_append_left (by simpa using hjl)]; simpa using h1, ?_⟩
    have hps : s.plain = true := List.all_eq_true.1 hp s (List.mem_of_getElem? hj)
    exact SV.plain_keep hps (fun b hb => ⟨⟨.inl hb, hok b hb, fun nm x hx => by simp [lookH] at hx⟩, rfl⟩) h2

/-! ### the results -/
def resRun (a : Act) : ResultVar → Sem Value
  | .tmp t => pure (a.tmps.getD t undef)
  | .cell ad t => do loadVar t (← asAddr (a.tmps.getD ad undef))

def Res (P : Program) (cx : Cx) (st : St) (rv : ResultVar) (s : SV) : Prop :=
  ∀ β a w, InvB cx st β a w → ∃ v, (resRun a rv).run P w = .ok v w ∧ s.holds β w (okOf cx st.heap β w) v

theorem results_eq (fn : Func) (a : Act) : results fn a.tmps = (do let vs ← fn.results.mapM (resRun a); pure (if h : vs.size = 1 then vs[0] else .tuple vs)) := by
  unfold results
  congr 1

theorem res_tmp {t : Nat} {s : SV} (h : lookS st.slots t = some s) : Res P cx st (.tmp t) s := fun β a w hi => by
  obtain ⟨v, h1, h2⟩ := hi.slots t s h
  exact ⟨v, by simp [resRun, h1], h2⟩

theorem okOf_okR {b : Nat} (h : okOf cx st.heap β w b) : okR cx w b := ⟨h.1, h.2.1⟩

theorem fin_holds {s : SV} (hp : s.plain = true) {v : Value} (hv : s.holds β w (okOf cx st.heap β w) v) : s.holds noLoc w (okR cx w) v :=
  SV.plain_keep hp (fun _ hb => ⟨okOf_okR hb, rfl⟩) hv

theorem jr_fin1 {fn : Func} {v0 : ResultVar} {s r : SV} (hr : fn.results = #[v0]) (h0 : Res P cx st v0 s) (hp : s.plain = true) (e : s = r) : JR P cx st (.fin fn (RetR cx r)) := by
  rintro a w ⟨β, hi⟩
  subst e
  obtain ⟨v, h1, h2⟩ := h0 β a w hi
  refine ⟨hi.defers, v, ?_, v, rfl, hi.below, fin_holds hp h2⟩
  simp [results_eq, hr, h1]

theorem jr_fin2 {fn : Func} {v0 v1 : ResultVar} {s0 s1 r : SV} (hr : fn.results = #[v0, v1]) (h0 : Res P cx st v0 s0) (h1 : Res P cx st v1 s1) (hp : s0.plain = true ∧ s1.plain = true) (e : SV.tup2 s0 s1 = r) : JR P cx st (.fin fn (RetR cx r)) := by
  rintro a w ⟨β, hi⟩
  subst e
  obtain ⟨u0, g0, k0⟩ := h0 β a w hi
  obtain ⟨u1, g1, k1⟩ := h1 β a w hi
  refine ⟨hi.defers, .tuple #[u0, u1], ?_, _, rfl, hi.below, u0, u1, rfl, fin_holds hp.1 k0, fin_holds hp.2 k1⟩
  simp [results_eq, hr, g0, g1]

theorem jr_fin3 {fn : Func} {v0 v1 v2 : ResultVar} {s0 s1 s2 r : SV} (hr : fn.results = #[v0, v1, v2]) (h0 : Res P cx st v0 s0) (h1 : Res P cx st v1 s1) (h2 : Res P cx st v2 s2) (hp : s0.plain = true ∧ s1.plain = true ∧ s2.plain = true) (e : SV.tup3 s0 s1 s2 = r) : JR P cx st (.fin fn (RetR cx r)) := by
  rintro a w ⟨β, hi⟩
  subst e
  obtain ⟨u0, g0, k0⟩ := h0 β a w hi
  obtain ⟨u1, g1, k1⟩ := h1 β a w hi
  obtain ⟨u2, g2, k2⟩ := h2 β a w hi
  refine ⟨hi.defers, .tuple #[u0, u1, u2], ?_, _, rfl, hi.below, u0, u1, u2, rfl, fin_holds hp.1 k0, fin_holds hp.2.1 k1, fin_holds hp.2.2 k2⟩
  simp [results_eq, hr, g0, g1, g2]

/-! ### calls -/
variable {dst : Option Tmp} {ty : TypeId} {pos : String} {aft : Array Edge} {gd : Option (Nat × Bool)}

inductive Args (st : St) : List Operand → List SV → Prop
  | nil : Args st [] []
  | cons {x : Operand} {s : SV} {xs : List Operand} {ss : List SV} (h : Ev st x s) (hr : Args st xs ss) : Args st (x :: xs) (s :: ss)
  | nilS {α : Type} {rt : RT α} {x : Operand} {xs : List Operand} {ss : List SV} (h : Ev st x (.raw (.slice none 0 0))) (hr : Args st xs ss) : Args st (x :: xs) (.tv (rSlice rt) [] :: ss)
  | lit {α : Type} {rt : RT α} {d : α} {v : Value} {x : Operand} {xs : List Operand} {ss : List SV} (h : Ev st x (.raw v)) (hv : ∀ w ok, rt.val w ok v d) (hr : Args st xs ss) : Args st (x :: xs) (.tv rt d :: ss)

theorem Ev.tr {x : Operand} {s : SV} {st' : St} (h : Ev st x s) (e : evS st' x = evS st x) : Ev st' x s := by
  cases h with
  | base h => exact .base (e.trans h)
  | gd h hc => exact .gd (e.trans h) hc
  | b1 h => exact .b1 (e.trans h)
  | b2 h hs => exact .b2 (e.trans h) hs
  | l1 h => exact .l1 (e.trans h)
  | f1 h => exact .f1 (e.trans h)

theorem nil_val {α : Type} {rt : RT α} {ok : Ok} : (rSlice rt).val w ok (.slice none 0 0) [] :=
  ⟨[.slice none 0 0], ⟨none, 0, rfl, by simp, by simp [maxLen], fun h => absurd rfl h⟩, rfl⟩

theorem Args.holds : ∀ {xs : List Operand} {as : List SV}, Args st xs as → ∀ {st' : St}, (∀ x ∈ xs, evS st' x = evS st x) → InvB cx st' β a w → (as.all SV.plain) = true → HoldsAll w (okOf cx st'.heap β w) as (xs.map a.eval)
  | _, _, .nil, _, _, _, _ => rfl
  | _, _, .cons (x := x) h hr, st', hx, hi, hp => by
    simp only [List.all_cons, Bool.and_eq_true] at hp
    have h' := h.tr (hx x (by simp))
    exact ⟨_, _, rfl, SV.plain_keep hp.1 (fun b hb => ⟨hb, rfl⟩) (hi.ev h'), hr.holds (fun y hy => hx y (by simp [hy])) hi hp.2⟩
  | _, _, .nilS (x := x) h hr, st', hx, hi, hp => by
    simp only [List.all_cons, Bool.and_eq_true] at hp
    have h' := h.tr (hx x (by simp))
    exact ⟨_, _, rfl, by rw [hi.raw h']; exact nil_val, hr.holds (fun y hy => hx y (by simp [hy])) hi hp.2⟩
  | _, _, .lit (x := x) h hv hr, st', hx, hi, hp => by
    simp only [List.all_cons, Bool.and_eq_true] at hp
    have h' := h.tr (hx x (by simp))
    exact ⟨_, _, rfl, by rw [hi.raw h']; exact hv _ _, hr.holds (fun y hy => hx y (by simp [hy])) hi hp.2⟩

theorem op_call {k : FuncId} {as : List SV} {r : SV} {xs : List Operand} {ts : Array TypeId} (h : Ct P k as r) (ha : Args st xs as) (hp : (as.all SV.plain) = true) (hr : r.plain = true) :
    Adr P cx st ⟨dst, .call { callee := .value (.func k), args := xs.toArray, argTypes := ts }, ty, pos, aft, gd⟩ r := by
  intro st' hag d hd hdn a w ⟨β, hi⟩ Q
  have hargs := ha.holds (cx := cx) (β := β) (a := a) (w := w) (st' := st') (fun x hx => hag.ops x (by simp [Op.operands, Call.operands, hx])) hi hp
  have hrun : (execOp a.eval ⟨dst, .call { callee := .value (.func k), args := xs.toArray, argTypes := ts }, ty, pos, aft, gd⟩).run P w = .ok (.enter k (xs.map a.eval).toArray) w := by
    simp [execOp, resolve, Act.eval, Deferred.ofValue, invoke, h.ent]
  unfold Oper.wp
  rw [hrun, Oper.upon_enter]
  refine (h.calls w (okOf cx st'.heap β w) _ (fun b hb => hb.2.1) hargs).mono ?_
  rintro e w' ⟨v, rfl, hb, hv⟩
  have hb := hb.plain (fun _ h => h)
  subst hd
  have hl := hi.later hb
  refine ⟨β, hl.put hdn (SV.plain_keep hr (fun b hb' => ⟨⟨?_, hb'.2, ?_⟩, rfl⟩) hv)⟩
  · rcases hb'.1 with h1 | h1
    · exact h1.1
    · exact .inr (.inl (Nat.le_trans hi.below.size (Cx.new_of h1)))
  · rcases hb'.1 with h1 | h1
    · exact h1.2.2
    · intro nm x hx y hy e
      have := (hi.own nm x hx y hy).2
      have h1 : w.heap.size ≤ b := Cx.new_of h1
      omega

end
end Go.Eng
