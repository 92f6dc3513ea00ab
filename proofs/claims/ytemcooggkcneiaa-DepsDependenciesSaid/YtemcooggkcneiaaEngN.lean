import Derived.Test.YtemcooggkcneiaaEngM
namespace Go.Eng
open Go.Maps (Keyed IsMap)
open Go.MapKept Go.ChangeMaps
set_option linter.unusedSimpArgs false
set_option linter.unusedVariables false
section
variable {P : Program} {cx : Cx} {st st' : St} {β : Loc} {a : Act} {w w' : World} {ops : Array Oper} {k : Kn} {c : Code}
variable {dst : Option Tmp} {ty : TypeId} {pos : String} {aft : Array Edge} {gd : Option (Nat × Bool)}
variable {kt et : TypeId} {κ γ : Type} {z : γ} {K : KeyT P kt κ} {E : ElT P et γ z}

/-! ### 'range' over a map that does not turn on the way -/
/-- mobj, at block b, is the map; iobj the iterator; left: the keys still to come -/
def RngRel (K : KeyT P kt κ) (E : ElT P et γ z) (b : Nat) (mobj iobj : Obj) (n : Nat) (f : κ → Option γ) (left : κ → Bool) (cnt : Nat) : Prop :=
  (∀ x, left x = true → K.ok x) ∧ ∃ (D : DataW Unit) (L : Lit → Bool), (∀ i, K.ok i → DAt E D (K.lit i) (f i)) ∧ (∀ x, K.ok x → L (K.lit x) = left x) ∧
    ∀ (w : World) (r : Nat), w.heap[b]? = some mobj → w.heap[r]? = some iobj → w.ranges P kt (plainElem P et) b r n D L cnt
def EntRel (P : Program) (b r : Nat) (mobj iobj : Obj) (u v : Value) : Prop :=
  ∀ (w : World), w.heap[b]? = some mobj → w.heap[r]? = some iobj → (Instr.entry (.pointer (some ⟨r, 0, none⟩))).run P w = .ok (.tuple #[u, v]) w

theorem ranges_objs {R : Value → Option (DataW Unit × List MemPlace)} {b r n cnt : Nat} {D : DataW Unit} {L : Lit → Bool} (h : w.ranges P kt R b r n D L cnt) : ∃ mobj iobj, w.heap[b]? = some mobj ∧ w.heap[r]? = some iobj ∧ (∀ cur e fr, iobj ≠ .cells cur e fr) ∧
    ∀ (w1 : World) (r1 : Nat), w1.heap[b]? = some mobj → w1.heap[r1]? = some iobj → w1.ranges P kt R b r1 n D L cnt := by
  obtain ⟨es, clock, since, seen, c0, hb, F, hs, hD, hr, rest⟩ := h
  exact ⟨_, _, hb, hr, fun _ _ _ e => (by cases e), fun w1 r1 h1 h2 => ⟨es, clock, since, seen, c0, h1, F, hs, hD, h2, rest⟩⟩

theorem entry_congr {w1 : World} {r b s c : Nat} {seen : Array Nat} {es : Array MapEntry} {clock : Nat} {v : Value} (hr : w.heap[r]? = some (.mapIter (some b) s seen c)) (hb : w.heap[b]? = some (.map es clock))
    (hr1 : w1.heap[r]? = some (.mapIter (some b) s seen c)) (hb1 : w1.heap[b]? = some (.map es clock)) (h : (Instr.entry (.pointer (some ⟨r, 0, none⟩))).run P w = .ok v w) : (Instr.entry (.pointer (some ⟨r, 0, none⟩))).run P w1 = .ok v w1 := by
  simp only [Instr.entry, getObj, Sem.run_bind, Sem.run, hr, hb, Result.andThen] at h
  simp only [Instr.entry, getObj, Sem.run_bind, Sem.run, hr1, hb1, Result.andThen]
  cases hs : seen.back? with
  | none => simp [hs, stuck, Sem.run] at h
  | some t =>
    simp only [hs] at h ⊢
    simp only [Sem.run_bind, Sem.run, hb, hb1, Result.andThen] at h ⊢
    by_cases hc : (clock != c) = true
    · simp [hc, unsupported, Sem.run, Result.andThen] at h
    · simp only [hc, if_false, Bool.false_eq_true] at h ⊢
      cases hf : es.find? (·.born == t) with
      | none => simp [hf, unsupported, Sem.run] at h
      | some e => simp [hf, Sem.run] at h ⊢; exact h

/-- the iterator's slot -/
abbrev itS (rr nm r b : Nat) : SV := .lnk (.both (.optr rr 1 0 0) (.pointer (some ⟨r, 0, none⟩))) (.map (some b)) (.mref nm)

theorem jg_rangeK {rest : List Oper} {T : TypeId} {nm d n : Nat} {f : κ → Option γ} {o : Option Obj} {x : Operand} (hT : P.underlying T = some (.map kt et)) (hx : Ev st x (.mref nm)) (hn : lookH st.heap nm = some ⟨rMapK K E, [(o, n, f)]⟩)
    (hd : Nat.blt d cx.n = true) (hf : freeS d st.slots = true) (hne : Nat.beq d nm = false)
    (h : ∀ mobj iobj r b cnt, cnt ≤ n → RngRel K E b mobj iobj n f (fun x => (f x).isSome) cnt → JG P cx ops ⟨(d, itS d nm r b) :: st.slots, (d, ⟨rObj, [iobj]⟩) :: (nm, ⟨rMapK K E, [(some mobj, n, f)]⟩) :: st.heap⟩ rest k) :
    JG P cx ops st (⟨some d, .range T x, ty, pos, aft, none⟩ :: rest) k := by
  rintro a w ⟨β, hi⟩
  refine wpList_plain rfl fun Q hQ => ?_
  obtain ⟨b, of, obj, h1, h2, h3, h4, h5, D, h6, h7, h8⟩ := map_atK hi hx hn
  obtain ⟨w', g1, g2, g3, g4⟩ := (h7 w b h3).range K.keyed hT
  obtain ⟨es, clock, q1, _⟩ := h7 w b h3
  have g1' := run_range_map (P := P) w T kt et b es clock hT q1
  rw [g1] at g1'
  have hw' : w' = w.alloc (.mapIter (some b) clock #[] clock) := by injection g1'
  have hbel : Below w.heap.size w w' := by rw [hw']; exact (Below.refl _ _).alloc (Nat.le_refl _) _
  have hrun : (execOp a.eval ⟨some d, .range T x, ty, pos, aft, none⟩).run P w = .ok (.value (.pointer (some ⟨w.heap.size, 0, none⟩))) w' := by
    simp [execOp, h2, g1]
  unfold Oper.wp
  rw [hrun, Oper.upon_value]
  obtain ⟨mobj, iobj, k1, k2, _, k3⟩ := ranges_objs g2
  have hdn : d ≠ nm := fun e => by subst e; simp at hne
  have hblt : b < w.heap.size := (hi.own nm _ hn _ h1).2
  have hbo : w'.heap[b]? = some obj := (hbel.block b hblt).trans h3
  have hm : mobj = obj := by rw [k1] at hbo; injection hbo
  have hi0 := hi.rerow (hb' := ⟨rMapK K E, [(some obj, n, f)]⟩) hn fun ok hh => by
    rw [h1] at hh ⊢
    refine ⟨fun e => by simp [rMapK] at e, fun _ => ?_⟩
    obtain ⟨D1, ob, e1, e2, e3⟩ := hh.2 rfl
    refine ⟨_, obj, rfl, h3, (And.intro (fun o' e => by injection e) (by
      injection e1 with e1 _; subst e1
      rw [h3] at e2; injection e2 with e2; subst e2; exact e3.2) : (∀ o', some obj = some o' → obj = o') ∧ MapRep K E obj n f)⟩
  have hi1 := hi0.fresh (nm := d) (hb0 := ⟨rObj, [iobj]⟩) (l := some (w.heap.size, 0)) hf hbel (fun x hx => by injection hx with hx; subst hx; exact ⟨Nat.le_refl _, by rw [hw']; simp⟩) ⟨fun e => by simp [rObj] at e, fun _ => ⟨iobj, iobj, rfl, k2, rfl⟩⟩
  refine hQ _ _ (h mobj iobj w.heap.size b (Maps.size D) (h7 w b h3).size_le ⟨fun x hx => ?_, D, Maps.has D, h8, fun x hx => ?_, k3⟩ _ _ ⟨fun k => if k = d then some (w.heap.size, 0) else β k, ?_⟩)
  · have hx : (f x).isSome = true := hx
    cases hfx : f x with
    | none => rw [hfx] at hx; cases hx
    | some v => exact (h5 x v hfx).1
  · have := h8 x hx
    show Maps.has D (K.lit x) = (f x).isSome
    cases hfx : f x with
    | none => rw [hfx] at this; exact this
    | some v => rw [hfx] at this; exact this.1
  · subst hm
    refine hi1.put (by simpa using hd) ⟨⟨⟨w.heap.size, 0, by simp, rfl⟩, rfl⟩, b, of, ?_, rfl⟩
    simp only [if_neg hdn.symm]; exact h1

theorem jg_nextK [DecidableEq κ] {rest : List Oper} {it : Operand} {rr nm r b d n cnt : Nat} {mobj iobj : Obj} {f : κ → Option γ} {left : κ → Bool} (hx : evS st it = some (itS rr nm r b)) (hn : lookH st.heap nm = some ⟨rMapK K E, [(some mobj, n, f)]⟩)
    (hr : lookH st.heap rr = some ⟨rObj, [iobj]⟩) (hrel : RngRel K E b mobj iobj n f left cnt) (hd : Nat.blt d cx.n = true)
    (h0 : (∀ x, left x = false) → JG P cx ops (st.put d (.raw (.tuple #[.bool false]))) rest k)
    (h1 : ∀ x v iobj' cnt', left x = true → f x = some v → RngRel K E b mobj iobj' n f (fun y => left y && !decide (y = x)) cnt' → cnt' < cnt → EntRel P b r mobj iobj' (K.enc x) (E.enc v) →
      JG P cx ops ⟨(d, .raw (.tuple #[.bool true, K.enc x, E.enc v])) :: st.slots, (rr, ⟨rObj, [iobj']⟩) :: st.heap⟩ rest k) :
    JG P cx ops st (⟨some d, .next it false, ty, pos, aft, none⟩ :: rest) k := by
  rintro a w ⟨β, hi⟩
  refine wpList_plain rfl fun Q hQ => ?_
  obtain ⟨⟨⟨r', o', e1, e2⟩, e3⟩, b', of, e4, e5⟩ := hi.evS hx
  rw [e3] at e2
  obtain ⟨rfl, rfl⟩ : r = r' ∧ o' = 0 := by injection e2 with e2; injection e2 with e2; injection e2 with q1 q2; simp at q2; exact ⟨q1, q2.symm⟩
  obtain rfl : b = b' := by injection e5 with e5; injection e5
  have hmr := hi.rows nm _ hn
  rw [e4] at hmr
  obtain ⟨D1, ob, q1, q2, q3⟩ := hmr.2 rfl
  injection q1 with q1 _; subst q1
  obtain rfl : mobj = ob := (q3.1 mobj rfl).symm
  have hir := hi.rows rr _ hr
  rw [e1] at hir
  obtain ⟨D2, ob2, p1, p2, p3⟩ := hir.2 rfl
  injection p1 with p1 _; subst p1
  have p3 : ob2 = iobj := p3
  subst p3
  obtain ⟨hok, D, L, l1, l2, l3⟩ := hrel
  have hrg := l3 w r q2 p2
  have hne := hrg.ne
  unfold Oper.wp
  rcases hrg.next K.keyed ty with ⟨z1, z2, z3⟩ | ⟨key, v, kl, y, w', cnt', z1, z2, z3, z4, z5, z6, z7, z8, z9, z10⟩
  · have hrun : (execOp a.eval ⟨some d, .next it false, ty, pos, aft, none⟩).run P w = .ok (.value (.tuple #[.bool false])) w := by simp [execOp, e3, z3]
    rw [hrun, Oper.upon_value]
    refine hQ _ _ (h0 (fun x => ?_) _ _ ⟨β, hi.put (by simpa using hd) rfl⟩)
    cases hlx : left x with
    | false => rfl
    | true => rw [← l2 x (hok x hlx), z2] at hlx; cases hlx
  · have hrun : (execOp a.eval ⟨some d, .next it false, ty, pos, aft, none⟩).run P w = .ok (.value (.tuple #[.bool true, key, v])) w' := by simp [execOp, e3, z5]
    rw [hrun, Oper.upon_value]
    obtain ⟨x, hxk, rfl⟩ := K.back key kl z1
    obtain rfl : kl = K.lit x := by have := K.read x hxk; rw [z1] at this; injection this
    have hlx : left x = true := by rw [← l2 x hxk]; exact z2
    obtain ⟨es, clock, since, seen, c0, m1, _, _, _, m2, m3, _, _, _, m4, _⟩ := id hrg
    have hbel : BelowX (fun q => q = r) w.heap.size w w' := by
      rcases run_next_at (P := P) w ty r b since c0 seen es clock m2 m1 m3 m4 with ⟨_, s2⟩ | ⟨e, _, w1, s1, s2⟩
      · rw [z5] at s2; injection s2 with s2 _; injection s2 with s2; injection s2 with s2; simp at s2
      · rw [z5] at s2; injection s2 with _ s2; rw [s2]; exact below_setBlock w1 s1
    have hbw : w'.heap[b]? = some mobj := (hbel.blockX b (hi.own nm _ hn _ e4).2 (fun e => hne e.symm)).trans q2
    obtain ⟨mobj', iobj', k1, k2, k4, k3⟩ := ranges_objs z6
    obtain rfl : mobj = mobj' := by rw [k1] at hbw; injection hbw with hbw; exact hbw.symm
    have hv : ∃ v', f x = some v' ∧ v = E.enc v' := by
      have hd1 := l1 x hxk
      have hhas : Maps.has D (K.lit x) = true := Maps.has_true_of_atKey z4
      cases hfx : f x with
      | none => rw [hfx] at hd1; rw [show Maps.has D (K.lit x) = false from hd1] at hhas; cases hhas
      | some v' =>
        rw [hfx] at hd1
        have e6 := z4 (.lit (E.lit z))
        rw [hd1.2] at e6
        obtain ⟨y1, y2⟩ := y
        simp only at e6
        subst e6
        exact ⟨v', rfl, E.back v v' y2 z3⟩
    obtain ⟨v', hv1, rfl⟩ := hv
    obtain ⟨es', clock', since', seen', c0', m1', _, _, _, m2', _⟩ := id z6
    refine hQ _ _ (h1 x v' iobj' cnt' hlx hv1 ⟨fun y hy => hok y (by simp at hy; exact hy.1), D, _, l1, fun y hy => ?_, k3⟩ z7 (fun w1 n1 n2 => ?_) _ _ ⟨β, ?_⟩)
    · show (L (K.lit y) && !(K.lit y).sameKey (K.lit x)) = _
      rw [l2 y hy]
      congr 2
      by_cases hyx : y = x
      · subst hyx; simp [WideAt.sameKey_self (K.isKey hy)]
      · simp [hyx, Maps.sameKey_ne (fun e => hyx (K.lit_inj hy hxk e))]
    · rw [k1] at m1'; injection m1' with m1'
      rw [k2] at m2'; injection m2' with m2'
      exact entry_congr (by rw [k2, m2']) (by rw [k1, m1']) (by rw [n2, m2']) (by rw [n1, m1']) z10
    · refine (InvB.turnMap (rt' := rObj) (xs' := [iobj']) hi hr e1 p2 (fun cur e fr q => ?_) hbel fun ok => ⟨fun e => by simp [rObj] at e, fun _ => ⟨iobj', iobj', rfl, k2, rfl⟩⟩).put (by simpa using hd) rfl
      rw [p2] at m2; injection m2 with m2; rw [m2] at q; cases q

theorem op_entryK {it : Operand} {rr nm r b n : Nat} {mobj iobj : Obj} {f : κ → Option γ} {u v : Value} (hx : evS st it = some (itS rr nm r b)) (hn : lookH st.heap nm = some ⟨rMapK K E, [(some mobj, n, f)]⟩)
    (hr : lookH st.heap rr = some ⟨rObj, [iobj]⟩) (hrel : EntRel P b r mobj iobj u v) : Adr P cx st ⟨dst, .entry it, ty, pos, aft, gd⟩ (.raw (.tuple #[u, v])) :=
  adr_still fun st' hag β a w hi => by
    have hx' : evS st' it = some (itS rr nm r b) := (hag.ops it (by simp [Op.operands])).trans hx
    have hn' := (hag.heap it (by simp [Op.operands]) _ nm hx (by simp [SV.free])).trans hn
    have hr' := (hag.heap it (by simp [Op.operands]) _ rr hx (by simp [SV.free])).trans hr
    obtain ⟨⟨⟨r', o', e1, e2⟩, e3⟩, b', of, e4, e5⟩ := hi.evS hx'
    rw [e3] at e2
    obtain ⟨rfl, rfl⟩ : r = r' ∧ o' = 0 := by injection e2 with e2; injection e2 with e2; injection e2 with q1 q2; simp at q2; exact ⟨q1, q2.symm⟩
    obtain rfl : b = b' := by injection e5 with e5; injection e5
    have hmr := hi.rows nm _ hn'
    rw [e4] at hmr
    obtain ⟨D1, ob, q1, q2, q3⟩ := hmr.2 rfl
    injection q1 with q1 _; subst q1
    obtain rfl : mobj = ob := (q3.1 mobj rfl).symm
    have hir := hi.rows rr _ hr'
    rw [e1] at hir
    obtain ⟨D2, ob2, p1, p2, p3⟩ := hir.2 rfl
    injection p1 with p1 _; subst p1
    have p3 : ob2 = iobj := p3
    subst p3
    exact ⟨_, by simp [execOp, e3, hrel w q2 p2], rfl⟩

/-- a part of a tuple that is known -/
theorem op_extR {x : Operand} {vs : Array Value} {i : Nat} {v : Value} (hx : Ev st x (.raw (.tuple vs))) (hv : vs[i]? = some v) : Adr P cx st ⟨dst, .extract x i, ty, pos, aft, gd⟩ (.raw v) :=
  adr_still fun st' hag β a w hi => by
    have h := hi.raw (hag.ev (by simp [Op.operands]) hx)
    exact ⟨v, by simp [execOp, h, Instr.extract, hv], rfl⟩

/-! ### functions that are lent a map -/
def RetM (cx : Cx) (b : Nat) (K : KeyT P kt κ) (E : ElT P et γ z) (N : Nat) (f : κ → Option γ) (r : SV) : Ending → World → Prop := fun e w' =>
  ∃ v, e = .returned v ∧ BelowX cx.ex cx.w0.heap.size cx.w0 w' ∧ (∃ obj, w'.heap[b]? = some obj ∧ (∀ cur e fr, obj ≠ .cells cur e fr) ∧ MapRep K E obj N f) ∧ r.holds noLoc w' (fun q => okR cx w' q ∧ q ≠ b) v
structure CtM (P : Program) (kf : FuncId) {kt et : TypeId} {κ γ : Type} {z : γ} (K : KeyT P kt κ) (E : ElT P et γ z) (n N : Nat) (f f' : κ → Option γ) (ss : List SV) (r : SV) : Prop where
  ent : ∀ w args, (callFunc kf args).run P w = .ok (.enter kf args) w
  calls : ∀ (w : World) (ok0 : Ok) (b : Nat) (obj : Obj) (vs : List Value), (∀ b', ok0 b' → b' < w.heap.size) → ¬ ok0 b → w.heap[b]? = some obj → MapRep K E obj n f → HoldsAll w ok0 ss vs →
    Calls P kf ((.map (some b) :: vs).toArray) w (RetM ⟨w, ok0, 0, fun q => q = b⟩ b K E N f' r)

theorem mapRep_nc {obj : Obj} {n : Nat} {f : κ → Option γ} (h : MapRep K E obj n f) {b : Nat} (hb : w.heap[b]? = some obj) : ∀ cur e fr, obj ≠ .cells cur e fr := by
  obtain ⟨_, D, _, h3, _⟩ := h
  exact (ownsMap_obj hb (h3 w b hb)).1

theorem ctM_intro {kf : FuncId} {fn : Func} {c : Code} {n N : Nat} {f f' : κ → Option γ} {ss : List SV} {r : SV} (hf : P.funcs[kf]? = some fn) (hb : fn.body = some c) (hn : (fn.name == "runtime.NumGoroutine") = false) {m : Nat} (hm : fn.ntmps = m) (hlen : Nat.ble (ss.length + 1) m = true)
    (hp : (ss.all SV.plain) = true)
    (h : ∀ (w0 : World) (ok0 : Ok) (b : Nat), J P ⟨w0, ok0, m, fun q => q = b⟩ ⟨(0, .both (.mref 100) (.map (some b))) :: slots0 1 ss, [(100, ⟨rMapK K E, [(none, n, f)]⟩)]⟩ c (.fin fn (RetM ⟨w0, ok0, m, fun q => q = b⟩ b K E N f' r))) : CtM P kf K E n N f f' ss r := by
  refine ⟨callFunc_enter hf hb hn, fun w ok0 b obj vs hok hnb hobj hrep hh => ?_⟩
  have hl := holdsAll_len hh
  have hlen' : ss.length + 1 ≤ m := by simpa using hlen
  have hbs : b < w.heap.size := by
    rcases Nat.lt_or_ge b w.heap.size with q | q
    · exact q
    · rw [Array.getElem?_eq_none q] at hobj; cases hobj
  refine calls_of_wp hf hb ?_
  have := h w ok0 b { tmps := (Value.map (some b) :: vs).toArray ++ Array.replicate (fn.ntmps - (Value.map (some b) :: vs).toArray.size) undef, defers := [] } w ⟨fun q => if q = 100 then some (b, 0) else none, ?_⟩
  · exact wp_mono this fun e a w hq => hq
  · have hlk : ∀ nm hb, lookH [(100, HB.mk (rMapK K E) [(none, n, f)])] nm = some hb → nm = 100 ∧ hb = ⟨rMapK K E, [(none, n, f)]⟩ := fun nm hb hh => by
      rw [lookH_cons] at hh
      split at hh
      · rename_i e; injection hh with hh; exact ⟨e.symm, hh.symm⟩
      · simp [lookH] at hh
    refine ⟨(Below.refl _ _).toX, hok, rfl, by simp [hm, hl]; omega, fun nm hb hh x hx => ?_, fun nm nm' hb hb' hh hh' x y hx hy _ => ?_, fun nm hb hh => ?_, fun i s hs => ?_⟩
    · obtain ⟨rfl, rfl⟩ := hlk nm hb hh
      simp at hx; subst hx
      exact ⟨.inr rfl, hbs⟩
    · rw [(hlk nm hb hh).1, (hlk nm' hb' hh').1]
    · obtain ⟨rfl, rfl⟩ := hlk nm hb hh
      simp only [if_pos]
      exact ⟨fun e => by simp [rMapK] at e, fun _ => ⟨_, obj, rfl, hobj, (And.intro (fun o e => by cases e) hrep : (∀ o, none = some o → obj = o) ∧ MapRep K E obj n f)⟩⟩
    · rw [lookS_cons] at hs
      split at hs
      · rename_i e; subst e; injection hs with hs; subst hs
        exact ⟨.map (some b), by rw [Array.getElem?_append_left (by simp)]; rfl, ⟨b, 0, by simp, rfl⟩, rfl⟩
      · obtain ⟨j, rfl, hj⟩ := slots0_look hs
        obtain ⟨v, h1, h2⟩ := holdsAll_at hh hj
        have hjl : j < vs.length := (List.getElem?_eq_some_iff.1 h1).1
        have hps : s.plain = true := List.all_eq_true.1 hp s (List.mem_of_getElem? hj)
        refine ⟨v, by rw [Array.getElem?_append_left (by simp; omega)]; simp [Nat.add_comm 1 j, h1], SV.plain_keep hps (fun q hq => ⟨⟨.inl hq, hok q hq, fun nm x hx y hy e => ?_⟩, rfl⟩) h2⟩
        obtain ⟨rfl, rfl⟩ := hlk nm x hx
        simp at hy; subst hy
        have e : b = q := e
        subst e; exact hnb hq

theorem fin_map {b s0 n N : Nat} {f f' : κ → Option γ} {o : Option Obj} (hi : InvB cx st β a w) (hm : lookS st.slots s0 = some (.both (.mref 100) (.map (some b)))) (hn : lookH st.heap 100 = some ⟨rMapK K E, [(o, n, f)]⟩) (hle : n ≤ N) (hf : f = f') :
    (∃ obj, w.heap[b]? = some obj ∧ (∀ cur e fr, obj ≠ .cells cur e fr) ∧ MapRep K E obj N f') ∧ ∀ q, okOf cx st.heap β w q → okR cx w q ∧ q ≠ b := by
  subst hf
  obtain ⟨v, _, ⟨b', of, e1, e2⟩, e3⟩ := hi.slots s0 _ hm
  rw [e3] at e2
  obtain rfl : b = b' := by injection e2 with e2; injection e2
  have hmr := hi.rows 100 _ hn
  rw [e1] at hmr
  obtain ⟨D1, ob, q1, q2, q3⟩ := hmr.2 rfl
  injection q1 with q1 _; subst q1
  refine ⟨⟨ob, q2, mapRep_nc q3.2 q2, q3.2.mono hle⟩, fun q hq => ⟨okOf_okR hq, fun e => hq.2.2 100 _ hn _ e1 e.symm⟩⟩

theorem jr_finM1 {fn : Func} {v0 : ResultVar} {s r : SV} {b s0 n N : Nat} {f f' : κ → Option γ} {o : Option Obj} (hr : fn.results = #[v0]) (h0 : Res P cx st v0 s) (hp : s.plain = true) (e : s = r)
    (hm : lookS st.slots s0 = some (.both (.mref 100) (.map (some b)))) (hn : lookH st.heap 100 = some ⟨rMapK K E, [(o, n, f)]⟩) (hle : n ≤ N) (hf : f = f') : JR P cx st (.fin fn (RetM cx b K E N f' r)) := by
  rintro a w ⟨β, hi⟩
  subst e
  obtain ⟨v, h1, h2⟩ := h0 β a w hi
  obtain ⟨g1, g2⟩ := fin_map hi hm hn hle hf
  refine ⟨hi.defers, v, ?_, v, rfl, hi.below, g1, SV.plain_keep hp (fun q hq => ⟨g2 q hq, rfl⟩) h2⟩
  simp [results_eq, hr, h1]
theorem jn_finM0 {fn : Func} {b s0 n N : Nat} {f f' : κ → Option γ} {o : Option Obj} (hr : fn.results = #[])
    (hm : lookS st.slots s0 = some (.both (.mref 100) (.map (some b)))) (hn : lookH st.heap 100 = some ⟨rMapK K E, [(o, n, f)]⟩) (hle : n ≤ N) (hf : f = f') : JN P cx st (.fin fn (RetM cx b K E N f' (.raw (.tuple #[])))) := by
  rintro a w ⟨β, hi⟩
  obtain ⟨g1, g2⟩ := fin_map hi hm hn hle hf
  refine ⟨hi.defers, .tuple #[], ?_, _, rfl, hi.below, g1, rfl⟩
  simp [results_eq, hr]

theorem op_callM {kf : FuncId} {n N nm d : Nat} {f f' : κ → Option γ} {ss : List SV} {r : SV} {o : Option Obj} {x : Operand} {xs : List Operand} {ts : Array TypeId} (h : CtM P kf K E n N f f' ss r) (hx : Ev st x (.mref nm)) (hn : lookH st.heap nm = some ⟨rMapK K E, [(o, n, f)]⟩)
    (ha : Args st xs ss) (hp : (ss.all SV.plain) = true) (hr : r.plain = true) (hd : Nat.blt d cx.n = true) :
    OS P cx ⟨some d, .call { callee := .value (.func kf), args := (x :: xs).toArray, argTypes := ts }, ty, pos, aft, gd⟩ st ⟨(d, r) :: st.slots, (nm, ⟨rMapK K E, [(none, N, f')]⟩) :: st.heap⟩ := by
  rintro a w ⟨β, hi⟩ Q
  have hrun : (execOp a.eval ⟨some d, .call { callee := .value (.func kf), args := (x :: xs).toArray, argTypes := ts }, ty, pos, aft, gd⟩).run P w = .ok (.enter kf ((x :: xs).map a.eval).toArray) w := by
    simp [execOp, resolve, Act.eval, Deferred.ofValue, invoke, h.ent]
  unfold Oper.wp
  rw [hrun, Oper.upon_enter]
  obtain ⟨b, of, obj, h1, h2, h3, _, h5⟩ := map_atK hi hx hn
  have hargs := ha.holds (fun _ _ => rfl) hi hp
  have hnok : ¬ okOf cx st.heap β w b := fun q => q.2.2 nm _ hn _ h1 rfl
  rw [List.map_cons, h2]
  refine (h.calls w (okOf cx st.heap β w) b obj _ (fun _ hb => hb.2.1) hnok h3 h5 hargs).mono ?_
  rintro e' w' ⟨v, rfl, hb, ⟨obj', g1, g2, g3⟩, hu⟩
  have hb : BelowX (fun q => q = b) w.heap.size w w' := hb
  have hi' := InvB.turnMap (rt' := rMapK K E) (xs' := [(none, N, f')]) hi hn h1 h3 (mapRep_nc h5 h3) hb fun ok => ⟨fun e => by simp [rMapK] at e, fun _ => ⟨_, obj', rfl, g1, (And.intro (fun o e => by cases e) g3 : (∀ o, none = some o → obj' = o) ∧ MapRep K E obj' N f')⟩⟩
  refine ⟨β, hi'.put (by simpa using hd) (SV.plain_keep hr (fun q hq => ⟨⟨?_, hq.1.2, ?_⟩, rfl⟩) hu)⟩
  · rcases hq.1.1 with z | z | z
    · exact z.1
    · exact .inr (.inl (Nat.le_trans hi.below.size z))
    · exact absurd z hq.2
  · intro q' hq' hh y hy e1
    rw [lookH_cons] at hh
    split at hh
    · rename_i e2; subst e2
      rw [h1] at hy; injection hy with hy; subst hy
      exact hq.2 e1.symm
    · rcases hq.1.1 with z | z | z
      · exact z.2.2 q' hq' hh y hy e1
      · have := (hi.own q' hq' hh y hy).2
        have z : w.heap.size ≤ q := z
        omega
      · exact hq.2 z
theorem jn_seal (nm i : Nat) {off n : Nat} {α : Type} {rt : RT α} [NM rt] {xs : List α} (hp : List (Nat × HB)) (hs : lookS st.slots i = some (.own nm rt.n off n)) (hn : lookH st.heap nm = some ⟨rt, xs⟩) (hle : off + n ≤ xs.length)
    (hsub : ∀ j s, lookH hp j = some s → lookH st.heap j = some s) (hno : lookH hp nm = none) (h : JN P cx ⟨(i, .tv (rSlice rt) ((xs.drop off).take n)) :: st.slots, hp⟩ k) : JN P cx st k := fun a w hi => h a w (inv_seal hs hn hle hsub hno hi)
end
end Go.Eng
