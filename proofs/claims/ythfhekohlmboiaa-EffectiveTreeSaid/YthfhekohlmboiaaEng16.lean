import Derived.Test.YthfhekohlmboiaaEng14
namespace Go.Eng
set_option linter.unusedSimpArgs false

/-! ### values of functions -/
section
variable {P : Program} {cx : Cx} {st st' : St} {β : Loc} {a : Act} {w w' : World} {ops : Array Oper} {k : Kn} {c : Code}
variable {dst : Option Tmp} {ty : TypeId} {pos : String} {aft : Array Edge} {gd : Option (Nat × Bool)}
variable {α γ δ : Type}

theorem of_plain {rt : RT α} {d : α} : (SV.of rt d).plain = true := by unfold SV.of; split <;> rfl
theorem of_val {rt : RT α} {ok : Ok} {v : Value} {d : α} (h : (SV.of rt d).holds β w ok v) : rt.val w ok v d := by
  unfold SV.of at h
  cases hr : rt.raw d with
  | none => rw [hr] at h; exact h
  | some u => rw [hr] at h; have h : v = u := h; subst h; exact raw_val hr w ok

/-- a function's value of one argument: called in whatever later world with what reads as x, it hands back what reads as f x -/
def rFun (P : Program) (A : RT α) (B : RT γ) (φ : α → Prop) : RT (α → γ) where
  n := 1
  agg := false
  raw _ := none
  rep w ok cs f := ∃ g caps, cs = [.func (.func g) #[] caps] ∧ (∀ w args, (callFunc g args).run P w = .ok (.enter g args) w) ∧
    ∀ (w' : World) (ok' : Ok), (∀ b, ok b → ok' b ∧ w'.heap[b]? = w.heap[b]?) → (∀ b, ok' b → b < w'.heap.size) → ∀ x v, φ x → A.val w' ok' v x → Calls P g (#[v] ++ caps) w' (RetR (Cx.of w' ok' 0) (SV.of B (f x)))
  len := by rintro w ok cs d ⟨g, caps, rfl, _⟩; rfl
  one := by rintro w ok cs d ⟨g, caps, rfl, _⟩ v hv; simp at hv; simp [hv, Value.oneCell']
  keep := by
    rintro w w' ok ok' cs d h ⟨g, caps, rfl, h1, h2⟩
    exact ⟨g, caps, rfl, h1, fun w2 ok2 h3 => h2 w2 ok2 fun b hb => ⟨(h3 b (h b hb).1).1, (h3 b (h b hb).1).2.trans (h b hb).2⟩⟩
  scal _ := rfl
  exact_ h := by simp at h
  exact' h := by simp at h

/-- the same, of two arguments -/
def rFun2 (P : Program) (A : RT α) (D : RT δ) (B : RT γ) (φ : α → δ → Prop) : RT (α → δ → γ) where
  n := 1
  agg := false
  raw _ := none
  rep w ok cs f := ∃ g caps, cs = [.func (.func g) #[] caps] ∧ (∀ w args, (callFunc g args).run P w = .ok (.enter g args) w) ∧
    ∀ (w' : World) (ok' : Ok), (∀ b, ok b → ok' b ∧ w'.heap[b]? = w.heap[b]?) → (∀ b, ok' b → b < w'.heap.size) → ∀ x y v u, φ x y → A.val w' ok' v x → D.val w' ok' u y → Calls P g (#[v, u] ++ caps) w' (RetR (Cx.of w' ok' 0) (SV.of B (f x y)))
  len := by rintro w ok cs d ⟨g, caps, rfl, _⟩; rfl
  one := by rintro w ok cs d ⟨g, caps, rfl, _⟩ v hv; simp at hv; simp [hv, Value.oneCell']
  keep := by
    rintro w w' ok ok' cs d h ⟨g, caps, rfl, h1, h2⟩
    exact ⟨g, caps, rfl, h1, fun w2 ok2 h3 => h2 w2 ok2 fun b hb => ⟨(h3 b (h b hb).1).1, (h3 b (h b hb).1).2.trans (h b hb).2⟩⟩
  scal _ := rfl
  exact_ h := by simp at h
  exact' h := by simp at h

theorem holdsAll_keep : ∀ {as : List SV} {vs : List Value} {ok ok' : Ok}, (as.all SV.plain) = true → (∀ b, ok b → ok' b ∧ w'.heap[b]? = w.heap[b]?) → HoldsAll w ok as vs → HoldsAll w' ok' as vs
  | [], _, _, _, _, _, h => h
  | _ :: _, _, _, _, hp, hk, ⟨v, vr, h1, h2, h3⟩ => by
    simp only [List.all_cons, Bool.and_eq_true] at hp
    exact ⟨v, vr, h1, SV.plain_keep hp.1 hk h2, holdsAll_keep hp.2 hk h3⟩

theorem op_mkfun {g : FuncId} {A : RT α} {B : RT γ} {φ : α → Prop} (f : α → γ) {xs : List Operand} {sa : List SV} (hent : ∀ w args, (callFunc g args).run P w = .ok (.enter g args) w)
    (h : ∀ x, φ x → Ct P g (SV.of A x :: sa) (SV.of B (f x))) (ha : Args st xs sa) (hp : (sa.all SV.plain) = true) : Adr P cx st ⟨dst, .makeFunc (.func g) #[] xs.toArray, ty, pos, aft, gd⟩ (.tv (rFun P A B φ) f) :=
  adr_still fun st' hag β a w hi => by
    have hargs := ha.holds (cx := cx) (β := β) (a := a) (w := w) (st' := st') (fun x hx => hag.ops x (by simp [Op.operands, hx])) hi hp
    refine ⟨.func (.func g) #[] (xs.map a.eval).toArray, by simp [execOp, Instr.makeFunc], _, ⟨g, _, rfl, hent, fun w' ok' hk hok x v hx hv => ?_⟩, rfl⟩
    have := (h x hx).calls w' ok' (v :: xs.map a.eval) hok ⟨_, _, rfl, of_holds hv, holdsAll_keep hp hk hargs⟩
    simpa using this
theorem op_mkfun2 {g : FuncId} {A : RT α} {D : RT δ} {B : RT γ} {φ : α → δ → Prop} (f : α → δ → γ) {xs : List Operand} {sa : List SV} (hent : ∀ w args, (callFunc g args).run P w = .ok (.enter g args) w)
    (h : ∀ x y, φ x y → Ct P g (SV.of A x :: SV.of D y :: sa) (SV.of B (f x y))) (ha : Args st xs sa) (hp : (sa.all SV.plain) = true) : Adr P cx st ⟨dst, .makeFunc (.func g) #[] xs.toArray, ty, pos, aft, gd⟩ (.tv (rFun2 P A D B φ) f) :=
  adr_still fun st' hag β a w hi => by
    have hargs := ha.holds (cx := cx) (β := β) (a := a) (w := w) (st' := st') (fun x hx => hag.ops x (by simp [Op.operands, hx])) hi hp
    refine ⟨.func (.func g) #[] (xs.map a.eval).toArray, by simp [execOp, Instr.makeFunc], _, ⟨g, _, rfl, hent, fun w' ok' hk hok x y v u hx hv hu => ?_⟩, rfl⟩
    have := (h x y hx).calls w' ok' (v :: u :: xs.map a.eval) hok ⟨_, _, rfl, of_holds hv, _, _, rfl, of_holds hu, holdsAll_keep hp hk hargs⟩
    simpa using this

theorem fun_form {A : RT α} {B : RT γ} {φ : α → Prop} {f : α → γ} {ok : Ok} {v : Value} (h : (SV.tv (rFun P A B φ) f).holds β w ok v) : ∃ g caps, v = .func (.func g) #[] caps ∧ (∀ w args, (callFunc g args).run P w = .ok (.enter g args) w) ∧
    ∀ (w' : World) (ok' : Ok), (∀ b, ok b → ok' b ∧ w'.heap[b]? = w.heap[b]?) → (∀ b, ok' b → b < w'.heap.size) → ∀ x v, φ x → A.val w' ok' v x → Calls P g (#[v] ++ caps) w' (RetR (Cx.of w' ok' 0) (SV.of B (f x))) := by
  obtain ⟨cs, ⟨g, caps, rfl, h1, h2⟩, rfl⟩ := h
  exact ⟨g, caps, rfl, h1, h2⟩
theorem fun2_form {A : RT α} {D : RT δ} {B : RT γ} {φ : α → δ → Prop} {f : α → δ → γ} {ok : Ok} {v : Value} (h : (SV.tv (rFun2 P A D B φ) f).holds β w ok v) : ∃ g caps, v = .func (.func g) #[] caps ∧ (∀ w args, (callFunc g args).run P w = .ok (.enter g args) w) ∧
    ∀ (w' : World) (ok' : Ok), (∀ b, ok b → ok' b ∧ w'.heap[b]? = w.heap[b]?) → (∀ b, ok' b → b < w'.heap.size) → ∀ x y v u, φ x y → A.val w' ok' v x → D.val w' ok' u y → Calls P g (#[v, u] ++ caps) w' (RetR (Cx.of w' ok' 0) (SV.of B (f x y))) := by
  obtain ⟨cs, ⟨g, caps, rfl, h1, h2⟩, rfl⟩ := h
  exact ⟨g, caps, rfl, h1, h2⟩

/-- what a call leaves is taken up -/
theorem ret_take {r : SV} (hr : r.plain = true) {d : Nat} (hdn : d < cx.n) (hi : InvB cx st β a w) {v : Value} (hb : Below w.heap.size w w') (hv : r.holds noLoc w' (okR (Cx.of w (okOf cx st.heap β w) 0) w') v) : Inv cx (st.put d r) (a.put (some d) v) w' := by
  have hl := hi.later hb
  refine ⟨β, hl.put hdn (SV.plain_keep hr (fun b hb' => ⟨⟨?_, hb'.2, ?_⟩, rfl⟩) hv)⟩
  · rcases hb'.1 with h1 | h1
    · exact h1.1
    · exact .inr (.inl (Nat.le_trans hi.below.size (Cx.new_of h1)))
  · rcases hb'.1 with h1 | h1
    · exact h1.2.2
    · intro nm x hx y hy e
      have := (hi.own nm x hx y hy).2
      have h1 : w.heap.size ≤ b := Cx.new_of h1
      omega

theorem op_callf {A : RT α} {B : RT γ} {φ : α → Prop} {f : α → γ} {y x : Operand} {d : α} {ts : Array TypeId} (hf : Ev st y (.tv (rFun P A B φ) f)) (hx : Rd st x A d) (hφ : φ d) :
    Adr P cx st ⟨dst, .call { callee := .value y, args := #[x], argTypes := ts }, ty, pos, aft, gd⟩ (SV.of B (f d)) := by
  intro st' hag d' hd hdn a w ⟨β, hi⟩ Q
  obtain ⟨g, caps, h1, h2, h3⟩ := fun_form (hi.ev (hag.ev (by simp [Op.operands, Call.operands]) hf))
  have hv := (hx.tr (hag.ops x (by simp [Op.operands, Call.operands]))).val hi
  have hrun : (execOp a.eval ⟨dst, .call { callee := .value y, args := #[x], argTypes := ts }, ty, pos, aft, gd⟩).run P w = .ok (.enter g (#[a.eval x] ++ caps)) w := by
    simp [execOp, resolve, h1, Deferred.ofValue, invoke, h2]
  unfold Oper.wp
  rw [hrun, Oper.upon_enter]
  refine (h3 w _ (fun b hb => ⟨hb, rfl⟩) (fun b hb => hb.2.1) d _ hφ hv).mono ?_
  rintro e w' ⟨v, rfl, hb, hv⟩
  have hb := hb.plain (fun _ h => h)
  subst hd
  exact ret_take of_plain hdn hi hb hv
theorem op_callf2 {A : RT α} {D : RT δ} {B : RT γ} {φ : α → δ → Prop} {f : α → δ → γ} {y x z : Operand} {d : α} {e : δ} {ts : Array TypeId} (hf : Ev st y (.tv (rFun2 P A D B φ) f)) (hx : Rd st x A d) (hz : Rd st z D e) (hφ : φ d e) :
    Adr P cx st ⟨dst, .call { callee := .value y, args := #[x, z], argTypes := ts }, ty, pos, aft, gd⟩ (SV.of B (f d e)) := by
  intro st' hag d' hd hdn a w ⟨β, hi⟩ Q
  obtain ⟨g, caps, h1, h2, h3⟩ := fun2_form (hi.ev (hag.ev (by simp [Op.operands, Call.operands]) hf))
  have hv := (hx.tr (hag.ops x (by simp [Op.operands, Call.operands]))).val hi
  have hu := (hz.tr (hag.ops z (by simp [Op.operands, Call.operands]))).val hi
  have hrun : (execOp a.eval ⟨dst, .call { callee := .value y, args := #[x, z], argTypes := ts }, ty, pos, aft, gd⟩).run P w = .ok (.enter g (#[a.eval x, a.eval z] ++ caps)) w := by
    simp [execOp, resolve, h1, Deferred.ofValue, invoke, h2]
  unfold Oper.wp
  rw [hrun, Oper.upon_enter]
  refine (h3 w _ (fun b hb => ⟨hb, rfl⟩) (fun b hb => hb.2.1) d e _ _ hφ hv hu).mono ?_
  rintro e w' ⟨v, rfl, hb, hv⟩
  have hb := hb.plain (fun _ h => h)
  subst hd
  exact ret_take of_plain hdn hi hb hv

/-- a variable's own block that is written no more -/
theorem op_boxe {T : TypeId} {rt : RT α} [NM rt] {x : Operand} {z : α} (hx : Rd st x rt z) : Adr P cx st ⟨dst, .box T x, ty, pos, aft, gd⟩ (.eptr rt z) :=
  adr_later fun st' hag β a w hi => by
    have hval := (hx.tr (hag.ops x (by simp [Op.operands]))).val hi
    have hb : Below w.heap.size w (w.alloc (.cells (a.eval x).cells T)) := (Below.refl _ _).alloc (Nat.le_refl _) _
    refine ⟨_, _, by simp [execOp, Instr.box, newVar, newRow], hb, w.heap.size, 0, (a.eval x).cells.toList, rfl, ⟨.inr (.inl hi.below.size), by simp, fun nm hb hh y hy e1 => by have := (hi.own nm hb hh y hy).2; omega⟩, ?_, fun j v hj => ?_⟩
    · exact rt.keep (fun b hb' => ⟨⟨hb'.1, by simp; have := hb'.2.1; omega, hb'.2.2⟩, hb.block b hb'.2.1⟩) (rt.val_cells hval)
    · rw [World.cell?_alloc_new]; simpa using hj

theorem inv_sealp {nm i : Nat} {rt : RT α} [NM rt] {x : α} {hp : List (Nat × HB)} (hs : lookS st.slots i = some (.optr nm rt.n 0 0)) (hn : lookH st.heap nm = some ⟨rt, [x]⟩) (hsub : ∀ j s, lookH hp j = some s → lookH st.heap j = some s) (hno : lookH hp nm = none) (hi : Inv cx st a w) :
    Inv cx ⟨(i, .eptr rt x) :: st.slots, hp⟩ a w := by
  obtain ⟨β, hb⟩ := hi
  have hok : ∀ b, okOf cx st.heap β w b → okOf cx hp β w b := fun b ⟨h1, h2, h3⟩ => ⟨h1, h2, fun k h hk => h3 k h (hsub _ _ hk)⟩
  have hb' : InvB cx ⟨st.slots, hp⟩ β a w := hb.toHeap hsub
  obtain ⟨v, h1, b, o, h2, h3⟩ := hb.slots i _ hs
  refine ⟨β, hb'.below, hb'.old, hb'.defers, hb'.size, hb'.own, hb'.sep, hb'.rows, fun j s hj => ?_⟩
  simp only [lookS_cons] at hj
  split at hj
  · rename_i e1
    subst e1
    injection hj with hj; subst hj
    obtain ⟨cur, e, h4, h5, h6⟩ := own_row hb hn h2
    obtain ⟨cs, h7, h8⟩ := h6 0 x rfl
    have hown := hb.own nm _ hn _ h2
    refine ⟨v, h1, b, o, cs, by simpa using h3, ⟨.inr hown.1, hown.2, fun k h hk y hy e1 => ?_⟩, rt.keep (fun b h => ⟨hok b h, rfl⟩) h7, fun j u hj => ?_⟩
    · have : k = nm := hb.sep k nm _ _ (hsub _ _ hk) hn y (b, o) hy h2 e1
      subst this
      rw [hno] at hk; cases hk
    · have := h8 j u hj
      simp only [Nat.zero_mul, Nat.add_zero] at this
      simp [World.cell?, h4, this]
  · exact hb'.slots j s hj
theorem j_sealp (nm i : Nat) {rt : RT α} [NM rt] {x : α} (hp : List (Nat × HB)) (hs : lookS st.slots i = some (.optr nm rt.n 0 0)) (hn : lookH st.heap nm = some ⟨rt, [x]⟩) (hsub : ∀ j s, lookH hp j = some s → lookH st.heap j = some s) (hno : lookH hp nm = none)
    (h : J P cx ⟨(i, .eptr rt x) :: st.slots, hp⟩ c k) : J P cx st c k := fun a w hi => h a w (inv_sealp hs hn hsub hno hi)

/-! ### a fresh slice that is handed back: the caller may write it -/
def OwnRep (rt : RT α) (w w' : World) (ok : Ok) (xs : List α) (v : Value) : Prop :=
  (xs = [] ∧ v = .slice none 0 0) ∨ ∃ A b o cap cur e, v = .slice A xs.length cap ∧ ((xs = [] ∧ cap = 0) ∨ A = some ⟨b, o, none⟩) ∧ xs.length ≤ cap ∧ cap ≤ maxLen ∧ w.heap.size ≤ b ∧ w'.heap[b]? = some (.cells cur e (0, 0)) ∧ o + cap * rt.n ≤ cur.size ∧
    ∀ i x, xs[i]? = some x → ∃ cs, rt.rep w' (fun b' => ok b' ∧ b' ≠ b) cs x ∧ ∀ j v, cs[j]? = some v → cur[o + i * rt.n + j]? = some v

structure CtO (P : Program) (k : FuncId) (as : List SV) (rt : RT α) (xs : List α) : Prop where
  ent : ∀ w args, (callFunc k args).run P w = .ok (.enter k args) w
  calls : ∀ w ok0 vs, (∀ b, ok0 b → b < w.heap.size) → HoldsAll w ok0 as vs → Calls P k vs.toArray w (fun e w' => ∃ v, e = .returned v ∧ BelowX (fun _ => False) w.heap.size w w' ∧ OwnRep rt w w' (okR (Cx.of w ok0 0) w') xs v)

theorem hdr_own (hi : InvB cx st β a w) {nm off n : Nat} {rt : RT α} [NM rt] {xs : List α} {v : Value} (hn : lookH st.heap nm = some ⟨rt, xs⟩) (hv : hdr β w nm rt.n off n v) (hle : off + n ≤ xs.length) (hex : ∀ b, ¬ cx.ex b) : OwnRep rt cx.w0 w (okR cx w) ((xs.drop off).take n) v := by
  have hr := hi.rows nm _ hn
  have hlen : ((xs.drop off).take n).length = n := by simp; omega
  unfold hdr at hv
  cases hb : β nm with
  | none =>
    rw [hb] at hv hr
    refine .inl ⟨by rw [hv.2]; simp, hv.1⟩
  | some q =>
    obtain ⟨b, o⟩ := q
    rw [hb] at hv hr
    obtain ⟨A, cap, g1, g2, g3, g4⟩ := hv
    have hown : cx.w0.heap.size ≤ b ∧ b < w.heap.size := ⟨(hi.own nm _ hn _ hb).1.elim id (fun q => absurd q (hex b)), (hi.own nm _ hn _ hb).2⟩
    obtain ⟨cur, e, h2, h3, h4⟩ : RowRep rt w _ b o xs := hr.1 NM.no
    have hrep : ∀ i x, ((xs.drop off).take n)[i]? = some x → ∃ cs, rt.rep w (fun b' => okR cx w b' ∧ b' ≠ b) cs x ∧ ∀ j v, cs[j]? = some v → cur[o + off * rt.n + i * rt.n + j]? = some v := fun i x hx => by
      have hi' : i < n := by have := (List.getElem?_eq_some_iff.1 hx).1; omega
      rw [List.getElem?_take_of_lt hi', List.getElem?_drop] at hx
      obtain ⟨cs, h5, h6⟩ := h4 _ x hx
      refine ⟨cs, rt.keep (fun b' hb' => ⟨⟨⟨hb'.1, hb'.2.1⟩, fun e1 => hb'.2.2 nm _ hn _ hb e1.symm⟩, rfl⟩) h5, fun j u hj => ?_⟩
      have := h6 j u hj
      rw [Nat.add_mul] at this
      rw [← this]; congr 1; omega
    have hsz : (off + n) * rt.n ≤ xs.length * rt.n := Nat.mul_le_mul_right _ hle
    rcases g4 with ⟨g4, g5⟩ | ⟨g4, cur', e', fr, g5, g6⟩
    · subst g4 g5
      exact .inr ⟨A, b, o + off * rt.n, 0, cur, e, by rw [hlen, g1], .inl ⟨by simp, rfl⟩, by omega, g3, hown.1, h2, by rw [Nat.add_mul] at hsz; omega, hrep⟩
    · rw [h2] at g5
      injection g5 with g5; injection g5 with g5 _ _; subst g5
      exact .inr ⟨A, b, o + off * rt.n, cap, cur, e, by rw [hlen, g1], .inr g4, by omega, g3, hown.1, h2, by rw [Nat.add_mul] at g6; omega, hrep⟩

theorem jr_finO {fn : Func} {t nm off n : Nat} {rt : RT α} [NM rt] {xs ys : List α} (hr : fn.results = #[.tmp t]) (hs : lookS st.slots t = some (.own nm rt.n off n)) (hn : lookH st.heap nm = some ⟨rt, xs⟩) (hle : off + n ≤ xs.length) (e : (xs.drop off).take n = ys) (hex : ∀ b, ¬ cx.ex b := by intro _ h; exact h) :
    JR P cx st (.fin fn (fun e w' => ∃ v, e = .returned v ∧ BelowX cx.ex cx.w0.heap.size cx.w0 w' ∧ OwnRep rt cx.w0 w' (okR cx w') ys v)) := by
  rintro a w ⟨β, hi⟩
  obtain ⟨v, h1, h2⟩ := hi.slots t _ hs
  subst e
  refine ⟨hi.defers, v, ?_, v, rfl, hi.below, hdr_own hi hn h2 hle hex⟩
  simp [results_eq, hr, resRun, h1]
theorem jr_finO_nil {fn : Func} {t : Nat} {rt : RT α} [NM rt] {ys : List α} (hr : fn.results = #[.tmp t]) (hs : lookS st.slots t = some (.raw (.slice none 0 0))) (e : [] = ys) :
    JR P cx st (.fin fn (fun e w' => ∃ v, e = .returned v ∧ BelowX cx.ex cx.w0.heap.size cx.w0 w' ∧ OwnRep rt cx.w0 w' (okR cx w') ys v)) := by
  rintro a w ⟨β, hi⟩
  obtain ⟨v, h1, h2⟩ := hi.slots t _ hs
  subst e
  refine ⟨hi.defers, v, ?_, v, rfl, hi.below, .inl ⟨rfl, h2⟩⟩
  simp [results_eq, hr, resRun, h1]

theorem ctO_intro {k : FuncId} {fn : Func} {c : Code} {as : List SV} {rt : RT α} [NM rt] {xs : List α} (hf : P.funcs[k]? = some fn) (hb : fn.body = some c) (hn : (fn.name == "runtime.NumGoroutine") = false) {m : Nat} (hm : fn.ntmps = m) (hlen : Nat.ble as.length m = true)
    (hp : (as.all SV.plain) = true) (h : ∀ (w0 : World) (ok0 : Ok), J P (Cx.of w0 ok0 m) ⟨slots0 0 as, []⟩ c (.fin fn (fun e w' => ∃ v, e = .returned v ∧ BelowX (fun _ => False) w0.heap.size w0 w' ∧ OwnRep rt w0 w' (okR (Cx.of w0 ok0 m) w') xs v))) : CtO P k as rt xs := by
  refine ⟨callFunc_enter hf hb hn, fun w ok0 vs hok hh => ?_⟩
  have hl := holdsAll_len hh
  have hlen' : as.length ≤ m := by simpa using hlen
  refine calls_of_wp hf hb ?_
  have := h w ok0 { tmps := vs.toArray ++ Array.replicate (fn.ntmps - vs.toArray.size) undef, defers := [] } w ⟨noLoc, ?_⟩
  · exact wp_mono this fun e a w hq => hq
  · refine ⟨(Below.refl _ _).toX, hok, rfl, by simp [hm, hl]; omega, fun nm hb hh => by simp [lookH] at hh, fun nm nm' hb hb' hh => by simp [lookH] at hh, fun nm hb hh => by simp [lookH] at hh, fun i s hs => ?_⟩
    obtain ⟨j, rfl, hj⟩ := slots0_look hs
    obtain ⟨v, h1, h2⟩ := holdsAll_at hh hj
    have hjl : j < vs.length := (List.getElem?_eq_some_iff.1 h1).1
    refine ⟨v, by simp only [Nat.zero_add]; rw [Array.getElem?_append_left (by simpa using hjl)]; simpa using h1, ?_⟩
    have hps : s.plain = true := List.all_eq_true.1 hp s (List.mem_of_getElem? hj)
    exact SV.plain_keep hps (fun b hb => ⟨⟨.inl hb, hok b hb, fun nm x hx => by simp [lookH] at hx⟩, rfl⟩) h2

/-- a new row that a callee hands over -/
theorem inv_take (hi : InvB cx st β a w) {nm : Nat} {rt : RT α} [NM rt] {xs : List α} {v : Value} {d : Nat} (hdn : d < cx.n) (hf : freeS nm st.slots = true) (hn : lookH st.heap nm = none) (hb : Below w.heap.size w w') (hv : OwnRep rt w w' (okR (Cx.of w (okOf cx st.heap β w) 0) w') xs v) :
    Inv cx ⟨(d, .own nm rt.n 0 xs.length) :: st.slots, (nm, ⟨rt, xs⟩) :: st.heap⟩ (a.put (some d) v) w' := by
  have hl := hi.later hb
  have key : ∀ (l : Option (Nat × Nat)), (∀ x, l = some x → w.heap.size ≤ x.1 ∧ x.1 < w'.heap.size) → (HB.mk rt xs).holds w' (okOf cx ((nm, ⟨rt, xs⟩) :: st.heap) (fun k => if k = nm then l else β k) w') l →
      (∀ β', β' nm = l → hdr β' w' nm rt.n 0 xs.length v) → Inv cx ⟨(d, .own nm rt.n 0 xs.length) :: st.slots, (nm, ⟨rt, xs⟩) :: st.heap⟩ (a.put (some d) v) w' := by
    intro l hl1 hl2 hl3
    have hok : ∀ b, okOf cx st.heap β w b → okOf cx ((nm, ⟨rt, xs⟩) :: st.heap) (fun k => if k = nm then l else β k) w' b ∧ w'.heap[b]? = w.heap[b]? := by
      rintro b ⟨h1, h2, h3⟩
      refine ⟨⟨h1, Nat.lt_of_lt_of_le h2 hb.size, fun k hb' hk x hx => ?_⟩, hb.block b h2⟩
      rw [lookH_cons] at hk
      by_cases e1 : k = nm
      · subst e1; simp at hx; have := (hl1 x hx).1; omega
      · rw [if_neg (Ne.symm e1)] at hk
        simp only [if_neg e1] at hx
        exact h3 k hb' hk x hx
    have hbase : InvB cx ⟨st.slots, (nm, ⟨rt, xs⟩) :: st.heap⟩ (fun k => if k = nm then l else β k) a w' := by
      refine ⟨hl.below, hl.old, hl.defers, hl.size, fun k hb' hk x hx => ?_, fun k k' h1 h2 hk hk' x y hx hy hxy => ?_, fun k hb' hk => ?_, fun i s hs => ?_⟩
      · by_cases e1 : k = nm
        · subst e1; simp at hx; have := hl1 x hx; exact ⟨.inl (Nat.le_trans hi.below.size this.1), this.2⟩
        · rw [lookH_cons, if_neg (Ne.symm e1)] at hk
          simp only [if_neg e1] at hx
          exact hl.own k hb' hk x hx
      · rw [lookH_cons] at hk hk'
        by_cases e1 : k = nm <;> by_cases e2 : k' = nm
        · rw [e1, e2]
        · subst e1
          rw [if_neg (Ne.symm e2)] at hk'
          simp only [if_pos] at hx
          simp only [if_neg e2] at hy
          have g1 := (hl1 x hx).1
          have g2 := (hi.own k' _ hk' y hy).2
          omega
        · subst e2
          rw [if_neg (Ne.symm e1)] at hk
          simp only [if_pos] at hy
          simp only [if_neg e1] at hx
          have g1 := (hl1 y hy).1
          have g2 := (hi.own k _ hk x hx).2
          omega
        · rw [if_neg (Ne.symm e1)] at hk
          rw [if_neg (Ne.symm e2)] at hk'
          simp only [if_neg e1] at hx
          simp only [if_neg e2] at hy
          exact hi.sep k k' _ _ hk hk' x y hx hy hxy
      · rw [lookH_cons] at hk
        by_cases e1 : k = nm
        · subst e1
          rw [if_pos rfl] at hk
          injection hk with hk; subst hk
          simp only [if_pos]; exact hl2
        · rw [if_neg (Ne.symm e1)] at hk
          simp only [if_neg e1]
          exact HB.keep hok (fun x hx => hb.block _ (hi.own k hb' hk x hx).2) (hi.rows k hb' hk)
      · obtain ⟨u, h1, h2⟩ := hi.slots i s hs
        have hfree := freeS_look hf hs
        refine ⟨u, h1, SV.keep hok (fun k hk => ?_) h2⟩
        have hne : k ≠ nm := by rintro rfl; rw [hfree] at hk; cases hk
        refine ⟨by simp [hne], fun b o hbo cur e' fr hcur => ⟨cur, e', fr, ?_, rfl⟩⟩
        rw [hb.block b (InvB.cell_lt hcur)]; exact hcur
    exact ⟨_, hbase.put hdn (hl3 _ (by simp))⟩
  rcases hv with ⟨rfl, rfl⟩ | ⟨A, b, o, cap, cur, e, rfl, hA, h1, h2, h3, h4, h5, h6⟩
  · exact key none (fun x h => by cases h) rfl (fun β' h => by simp [hdr, h])
  · have hbs := InvB.cell_lt h4
    refine key (some (b, o)) (fun x h => by injection h with h; subst h; exact ⟨h3, hbs⟩) ⟨fun _ => ⟨cur, e, h4, ?_, fun i x hx => ?_⟩, fun hm => by rw [show rt.mp = false from NM.no] at hm; cases hm⟩ (fun β' h => ?_)
    · have := Nat.mul_le_mul_right rt.n h1
      simp only; omega
    · obtain ⟨cs, g1, g2⟩ := h6 i x hx
      refine ⟨cs, rt.keep (fun b' hb' => ⟨⟨?_, hb'.1.2, fun k hb2 hk y hy e1 => ?_⟩, rfl⟩) g1, g2⟩
      · rcases hb'.1.1 with h | h
        · exact h.1
        · exact .inr (.inl (Nat.le_trans hi.below.size (Cx.new_of h)))
      · rw [lookH_cons] at hk
        by_cases e2 : k = nm
        · subst e2; simp at hy; subst hy; exact hb'.2 e1.symm
        · rw [if_neg (Ne.symm e2)] at hk
          simp only [if_neg e2] at hy
          rcases hb'.1.1 with h | h
          · exact h.2.2 k hb2 hk y hy e1
          · have := (hi.own k hb2 hk y hy).2
            have h : w.heap.size ≤ b' := Cx.new_of h
            omega
    · simp only [hdr, h]
      refine ⟨A, cap, rfl, h1, h2, ?_⟩
      rcases hA with ⟨hA, hc⟩ | hA
      · subst hA; exact .inl ⟨rfl, hc⟩
      · exact .inr ⟨by rw [hA]; simp, cur, e, _, h4, by rw [Nat.zero_add]; exact h5⟩

theorem op_callO {k : FuncId} {as : List SV} {rt : RT α} [NM rt] {ys : List α} {xs : List Operand} {ts : Array TypeId} {d : Nat} (h : CtO P k as rt ys) (ha : Args st xs as) (hp : (as.all SV.plain) = true) (hd : Nat.blt d cx.n = true) (hf : freeS d st.slots = true) (hn : lookH st.heap d = none) :
    OS P cx ⟨some d, .call { callee := .value (.func k), args := xs.toArray, argTypes := ts }, ty, pos, aft, gd⟩ st ⟨(d, .own d rt.n 0 ys.length) :: st.slots, (d, ⟨rt, ys⟩) :: st.heap⟩ := by
  rintro a w ⟨β, hi⟩ Q
  have hargs := ha.holds (cx := cx) (β := β) (a := a) (w := w) (st' := st) (fun x hx => rfl) hi hp
  have hrun : (execOp a.eval ⟨some d, .call { callee := .value (.func k), args := xs.toArray, argTypes := ts }, ty, pos, aft, gd⟩).run P w = .ok (.enter k (xs.map a.eval).toArray) w := by
    simp [execOp, resolve, Act.eval, Deferred.ofValue, invoke, h.ent]
  unfold Oper.wp
  rw [hrun, Oper.upon_enter]
  refine (h.calls w (okOf cx st.heap β w) _ (fun b hb => hb.2.1) hargs).mono ?_
  rintro e w' ⟨v, rfl, hb, hv⟩
  have hb := hb.plain (fun _ h => h)
  exact inv_take hi (by simpa using hd) hf hn hb hv
end
end Go.Eng
