import Derived.Test.YthfhekohlmboiaaEngL
import Derived.Test.YthfhekohlmboiaaEng12
set_option maxRecDepth 100000
set_option linter.unusedVariables false
set_option linter.unusedSimpArgs false
namespace Go.Eng
/-! ### slices in blocks that came after B, and may be written -/
def rSliceF {α : Type} (B : Nat) (e : RT α) : RT (List α) where
  n := 1
  agg := false
  raw _ := none
  rep w ok cs xs := ∃ A cap, cs = [.slice A xs.length cap] ∧ xs.length ≤ cap ∧ cap ≤ maxLen ∧
    (xs ≠ [] → ∃ b o, A = some ⟨b, o, none⟩ ∧ ok b ∧ B ≤ b ∧ (∃ cur ty, w.heap[b]? = some (.cells cur ty (0, 0))) ∧ ∀ i x, xs[i]? = some x → ∃ cs, e.rep w ok cs x ∧ CellsAt w b (o + i * e.n) cs)
  len := by rintro w ok cs d ⟨A, cap, rfl, _⟩; rfl
  one := by rintro w ok cs d ⟨A, cap, rfl, _⟩ v hv; simp at hv; simp [hv, Value.oneCell']
  keep := by
    rintro w w' ok ok' cs d h ⟨A, cap, rfl, h1, h2, h3⟩
    refine ⟨A, cap, rfl, h1, h2, fun hne => ?_⟩
    obtain ⟨b, o, g1, g2, g3, ⟨cur, ty, g4⟩, g5⟩ := h3 hne
    refine ⟨b, o, g1, (h b g2).1, g3, ⟨cur, ty, (h b g2).2.trans g4⟩, fun i x hx => ?_⟩
    obtain ⟨cs, k1, k2⟩ := g5 i x hx
    exact ⟨cs, e.keep h k1, k2.keep (h b g2).2⟩
  scal _ := rfl
  exact_ h := by simp at h
  exact' h := by simp at h
instance {α : Type} {B : Nat} {a : RT α} : NM (rSliceF B a) := ⟨rfl⟩
theorem zr_sliceF {α : Type} {B : Nat} {e : RT α} : ZR (rSliceF B e) [.slice none 0 0] [] := fun _ _ => ⟨none, 0, rfl, by simp, by simp [maxLen], fun h => absurd rfl h⟩
/-- a pointer to a datum that may be written -/
def rPtrF {α : Type} (B : Nat) (e : RT α) : RT α where
  n := 1
  agg := false
  raw _ := none
  rep w ok cs x := ∃ b p, cs = [.pointer (some ⟨b, p, none⟩)] ∧ ok b ∧ B ≤ b ∧ (∃ cur ty, w.heap[b]? = some (.cells cur ty (0, 0))) ∧ ∃ cs', e.rep w ok cs' x ∧ CellsAt w b p cs'
  len := by rintro w ok cs d ⟨b, p, rfl, _⟩; rfl
  one := by rintro w ok cs d ⟨b, p, rfl, _⟩ v hv; simp at hv; simp [hv, Value.oneCell']
  keep := by
    rintro w w' ok ok' cs d h ⟨b, p, rfl, g2, g3, ⟨cur, ty, g4⟩, cs', k1, k2⟩
    exact ⟨b, p, rfl, (h b g2).1, g3, ⟨cur, ty, (h b g2).2.trans g4⟩, cs', e.keep h k1, k2.keep (h b g2).2⟩
  scal _ := rfl
  exact_ h := by simp at h
  exact' h := by simp at h

section
variable {P : Program} {cx : Cx} {st st' : St} {β : Loc} {a : Act} {w w' : World} {ops : Array Oper} {k : Kn} {c : Code}
variable {dst : Option Tmp} {ty : TypeId} {pos : String} {aft : Array Edge} {gd : Option (Nat × Bool)}
theorem tvF_form {α : Type} {B : Nat} {rt : RT α} {ok : Ok} {xs : List α} {v : Value} (h : (SV.tv (rSliceF B rt) xs).holds β w ok v) : ∃ A cap, v = .slice A xs.length cap ∧ xs.length ≤ cap ∧
    (xs ≠ [] → ∃ b o, A = some ⟨b, o, none⟩ ∧ ok b ∧ B ≤ b ∧ (∃ cur ty, w.heap[b]? = some (.cells cur ty (0, 0))) ∧ ∀ i x, xs[i]? = some x → ∃ cs, rt.rep w ok cs x ∧ CellsAt w b (o + i * rt.n) cs) := by
  obtain ⟨cs, ⟨A, cap, rfl, h1, h2, h3⟩, rfl⟩ := h
  exact ⟨A, cap, by simp [rSliceF], h1, h3⟩
theorem op_lenF {α : Type} {B : Nat} {rt : RT α} {x : Operand} {t e : TypeId} {xs : List α} (ht : P.underlying t = some (.slice e)) (hx : Ev st x (.tv (rSliceF B rt) xs)) :
    Adr P cx st ⟨dst, .call { callee := .builtin .len, args := #[x], argTypes := #[t] }, ty, pos, aft, gd⟩ (.raw (.int .i64 (xs.length : Int))) :=
  adr_still fun st' hag β a w hi => by
    obtain ⟨A, cap, h1, _⟩ := tvF_form (hi.ev (hag.ev (by simp [Op.operands, Call.operands]) hx))
    exact ⟨.int .i64 _, by simp [execOp, resolve, invoke, builtin, h1, Builtin.len_, run_underlying ht, goInt], rfl⟩
theorem op_indexF {α : Type} {B : Nat} {rt : RT α} {x ix : Operand} {t e : TypeId} {k : IntKind} {i : Int} {j : Nat} {xs : List α} {d : α} (ht : P.underlying t = some (.slice e)) (he : Ty P e rt)
    (hx : Ev st x (.tv (rSliceF B rt) xs)) (hi' : Ev st ix (.raw (.int k i))) (hij : i = (j : Int)) (hd : xs[j]? = some d) : Adr P cx st ⟨dst, .indexAddr t x ix, ty, pos, aft, gd⟩ (.tv (rPtrF B rt) d) :=
  adr_still fun st' hag β a w hi => by
    obtain ⟨A, cap, h1, h2, h4⟩ := tvF_form (hi.ev (hag.ev (by simp [Op.operands]) hx))
    have h5 := hi.raw (hag.ev (by simp [Op.operands]) hi')
    have hlt : j < xs.length := (List.getElem?_eq_some_iff.1 hd).1
    obtain ⟨b, o, rfl, hb, hB, hh, hc⟩ := h4 (by intro h; simp [h] at hlt)
    obtain ⟨cs, h6, h7⟩ := hc j d hd
    obtain ⟨_, i0, hi0, hs⟩ := he
    have hb2 : (0 : Int) ≤ i ∧ i < (xs.length : Int) := by omega
    have hj : i.toNat = j := by omega
    exact ⟨.pointer (some ⟨b, o + j * rt.n, none⟩), by simp [execOp, h1, h5, Instr.indexAt, asIntOf, run_underlying ht, hb2, run_sizeOf hi0, hs, hj, Addr.add_lit], [.pointer (some ⟨b, o + j * rt.n, none⟩)], ⟨b, _, rfl, hb, hB, hh, cs, h6, h7⟩, by simp [rPtrF]⟩
theorem op_fieldF {α γ : Type} {B : Nat} {rt : RT α} {rt' : RT γ} {get : α → γ} {set : α → γ → α} {x : Operand} {t : TypeId} {k off : Nat} {d : α} (hf : fld P t k = some off) (hl : Lens rt off rt' get set) (hx : Ev st x (.tv (rPtrF B rt) d)) :
    Adr P cx st ⟨dst, .fieldAddr t x k, ty, pos, aft, gd⟩ (.tv (rPtrF B rt') (get d)) :=
  adr_still fun st' hag β a w hi => by
    obtain ⟨cs, ⟨b, p, rfl, hb, hB, hh, cs', h6, h7⟩, h1⟩ := hi.ev (hag.ev (by simp [Op.operands]) hx)
    have h1 : a.eval x = .pointer (some ⟨b, p, none⟩) := by rw [h1]; simp [rPtrF]
    exact ⟨.pointer (some ⟨b, p + off, none⟩), by simp [execOp, h1, run_fieldAt hf], [.pointer (some ⟨b, p + off, none⟩)], ⟨b, _, rfl, hb, hB, hh, _, hl.get_ h6, h7.part off rt'.n⟩, by simp [rPtrF]⟩
theorem op_loadF {α : Type} {B : Nat} {rt : RT α} {x : Operand} {t : TypeId} {d : α} (ht : Ty P t rt) (hx : Ev st x (.tv (rPtrF B rt) d)) : Adr P cx st ⟨dst, .load t x, ty, pos, aft, gd⟩ (SV.of rt d) :=
  adr_still fun st' hag β a w hi => by
    obtain ⟨cs, ⟨b, p, rfl, hb, hB, hh, cs', h3, h4⟩, h1⟩ := hi.ev (hag.ev (by simp [Op.operands]) hx)
    have h1 : a.eval x = .pointer (some ⟨b, p, none⟩) := by rw [h1]; simp [rPtrF]
    obtain ⟨v, h5, h6⟩ := run_loadVar (P := P) ht h3 h4
    exact ⟨v, by simp [execOp, Instr.loadAt, h1, Instr.sureAddr, h5], of_holds h6⟩

/-! ### a function of which it is asked that B blocks be there -/
structure CtB (B : Nat) (P : Program) (k : FuncId) (ars : List SV) (r : SV) : Prop where
  ent : ∀ w args, (callFunc k args).run P w = .ok (.enter k args) w
  calls : ∀ w ok0 vs, B ≤ w.heap.size → (∀ b, ok0 b → b < w.heap.size) → HoldsAll w ok0 ars vs → Calls P k vs.toArray w (RetR (Cx.of w ok0 0) r)
theorem ctB_intro {B : Nat} {k : FuncId} {fn : Func} {c : Code} {ars : List SV} {r : SV} (hf : P.funcs[k]? = some fn) (hb : fn.body = some c) (hn : (fn.name == "runtime.NumGoroutine") = false) {m : Nat} (hm : fn.ntmps = m) (hlen : Nat.ble ars.length m = true)
    (hp : (ars.all SV.plain) = true) (h : ∀ (w0 : World) (ok0 : Ok), B ≤ w0.heap.size → J P (Cx.of w0 ok0 m) ⟨slots0 0 ars, []⟩ c (.fin fn (RetR (Cx.of w0 ok0 m) r))) : CtB B P k ars r := by
  refine ⟨callFunc_enter hf hb hn, fun w ok0 vs hB hok hh => ?_⟩
  have hl := holdsAll_len hh
  have hlen' : ars.length ≤ m := by simpa using hlen
  refine calls_of_wp hf hb ?_
  have := h w ok0 hB { tmps := vs.toArray ++ Array.replicate (fn.ntmps - vs.toArray.size) undef, defers := [] } w ⟨noLoc, ?_⟩
  · exact wp_mono this fun e a w hq => hq
  · refine ⟨(Below.refl _ _).toX, hok, rfl, by simp [hm, hl]; omega, fun nm hb hh => by simp [lookH] at hh, fun nm nm' hb hb' hh => by simp [lookH] at hh, fun nm hb hh => by simp [lookH] at hh, fun i s hs => ?_⟩
    obtain ⟨j, rfl, hj⟩ := slots0_look hs
    obtain ⟨v, h1, h2⟩ := holdsAll_at hh hj
    have hjl : j < vs.length := (List.getElem?_eq_some_iff.1 h1).1
    refine ⟨v, by simp only [Nat.zero_add]; rw [Array.getElem?_append_left (by simpa using hjl)]; simpa using h1, ?_⟩
    have hps : s.plain = true := List.all_eq_true.1 hp s (List.mem_of_getElem? hj)
    exact SV.plain_keep hps (fun b hb => ⟨⟨.inl hb, hok b hb, fun nm x hx => by simp [lookH] at hx⟩, rfl⟩) h2
theorem op_callB {B : Nat} {k : FuncId} {ars : List SV} {r : SV} {xs : List Operand} {ts : Array TypeId} (hB : B ≤ cx.w0.heap.size) (h : CtB B P k ars r) (ha : Args st xs ars) (hp : (ars.all SV.plain) = true) (hr : r.plain = true) :
    Adr P cx st ⟨dst, .call { callee := .value (.func k), args := xs.toArray, argTypes := ts }, ty, pos, aft, gd⟩ r := by
  intro st' hag d hd hdn a w ⟨β, hi⟩ Q
  have hargs := ha.holds (cx := cx) (β := β) (a := a) (w := w) (st' := st') (fun x hx => hag.ops x (by simp [Op.operands, Call.operands, hx])) hi hp
  have hrun : (execOp a.eval ⟨dst, .call { callee := .value (.func k), args := xs.toArray, argTypes := ts }, ty, pos, aft, gd⟩).run P w = .ok (.enter k (xs.map a.eval).toArray) w := by
    simp [execOp, resolve, Act.eval, Deferred.ofValue, invoke, h.ent]
  unfold Oper.wp
  rw [hrun, Oper.upon_enter]
  refine (h.calls w (okOf cx st'.heap β w) _ (Nat.le_trans hB hi.below.size) (fun b hb => hb.2.1) hargs).mono ?_
  rintro e w' ⟨v, rfl, hb, hv⟩
  have hb := hb.plain (fun _ h => h)
  subst hd
  have hl := hi.later hb
  refine ⟨β, hl.put hdn (SV.plain_keep hr (fun b hb' => ⟨⟨?_, hb'.2, ?_⟩, rfl⟩) hv)⟩
  · rcases hb'.1 with h1 | h1
    · exact h1.1
    · exact .inr (.inl (Nat.le_trans hi.below.size (Cx.new_of h1)))
  · rcases hb'.1 with h1 | h1
    · exact h1.2.2
    · intro nm x hx y hy e
      have := (hi.own nm x hx y hy).2
      have h1 : w.heap.size ≤ b := Cx.new_of h1
      omega
/-- a row is given out of hand, and it is known to have come late -/
theorem inv_sealF {B : Nat} {nm i off n : Nat} {α : Type} {rt : RT α} [NM rt] {xs : List α} {hp : List (Nat × HB)} (hB : B ≤ cx.w0.heap.size) (hx0 : ∀ q, ¬ cx.ex q) (hs : lookS st.slots i = some (.own nm rt.n off n)) (hn : lookH st.heap nm = some ⟨rt, xs⟩) (hle : off + n ≤ xs.length) (hsub : ∀ j s, lookH hp j = some s → lookH st.heap j = some s) (hno : lookH hp nm = none) (hi : Inv cx st a w) :
    Inv cx ⟨(i, .tv (rSliceF B rt) ((xs.drop off).take n)) :: st.slots, hp⟩ a w := by
  have hi2 := inv_seal hs hn hle hsub hno hi
  obtain ⟨β, hb⟩ := hi
  have hok : ∀ b, okOf cx st.heap β w b → okOf cx hp β w b := fun b ⟨h1, h2, h3⟩ => ⟨h1, h2, fun k h hk => h3 k h (hsub _ _ hk)⟩
  have hb' : InvB cx ⟨st.slots, hp⟩ β a w := by
    refine ⟨hb.below, hb.old, hb.defers, hb.size, fun nm x hx => hb.own nm x (hsub _ _ hx), fun nm nm' x y hx hy => hb.sep nm nm' x y (hsub _ _ hx) (hsub _ _ hy), fun nm x hx => HB.keep (fun b h => ⟨hok b h, rfl⟩) (fun _ _ => rfl) (hb.rows nm x (hsub _ _ hx)), fun i s hs => ?_⟩
    obtain ⟨v, h1, h2⟩ := hb.slots i s hs
    exact ⟨v, h1, SV.keep (fun b h => ⟨hok b h, rfl⟩) (fun nm _ => ⟨rfl, fun b o _ cur e fr hc => ⟨cur, e, fr, hc, rfl⟩⟩) h2⟩
  obtain ⟨v, h1, h2⟩ := hb.slots i _ hs
  refine ⟨β, hb'.below, hb'.old, hb'.defers, hb'.size, hb'.own, hb'.sep, hb'.rows, fun j s hj => ?_⟩
  simp only [lookS_cons] at hj
  split at hj
  · rename_i e1
    subst e1
    injection hj with hj; subst hj
    refine ⟨v, h1, ?_⟩
    have hlen : ((xs.drop off).take n).length = n := by simp; omega
    have hv : hdr β w nm rt.n off n v := h2
    unfold hdr at hv
    cases hbn : β nm with
    | none =>
      rw [hbn] at hv
      obtain ⟨rfl, rfl⟩ := hv
      simp only [List.take_zero]
      exact ⟨[.slice none 0 0], ⟨none, 0, rfl, by simp, by simp [maxLen], fun h => absurd rfl h⟩, by simp [rSliceF]⟩
    | some x =>
      obtain ⟨b, o⟩ := x
      rw [hbn] at hv
      obtain ⟨A, cap, rfl, g2, g3, g4⟩ := hv
      have hown := hb.own nm _ hn _ hbn
      have hbB : B ≤ b := by
        rcases hown.1 with q | q
        · exact Nat.le_trans hB q
        · exact absurd q (hx0 _)
      refine ⟨[.slice A n cap], ⟨A, cap, by rw [hlen], by omega, g3, fun hne => ?_⟩, by simp [rSliceF]⟩
      rcases g4 with g4 | ⟨g4, _⟩
      · exfalso; apply hne; apply List.eq_nil_of_length_eq_zero; omega
      · obtain ⟨cur, e, h5, h6, h7⟩ := own_row hb hn hbn
        refine ⟨b, o + off * rt.n, g4, ⟨.inr hown.1, hown.2, fun k h hk x hx e1 => by
          have : k = nm := hb.sep k nm _ _ (hsub _ _ hk) hn x (b, o) hx hbn e1
          subst this
          rw [hno] at hk; cases hk⟩, hbB, ⟨cur, e, h5⟩, fun i x hix => ?_⟩
        have hin : i < n := by rw [← hlen]; exact (List.getElem?_eq_some_iff.1 hix).1
        rw [List.getElem?_take_of_lt hin, List.getElem?_drop] at hix
        obtain ⟨cs, h8, h9⟩ := h7 _ x hix
        refine ⟨cs, rt.keep (fun b hb => ⟨hok b hb, rfl⟩) h8, fun j u hj => ?_⟩
        have := h9 j u hj
        rw [show o + off * rt.n + i * rt.n + j = o + (off + i) * rt.n + j by rw [Nat.add_mul]; omega]
        simp [World.cell?, h5, this]
  · exact hb'.slots j s hj
theorem j_sealF {B : Nat} (nm i : Nat) {off n : Nat} {α : Type} {rt : RT α} [NM rt] {xs : List α} (hp : List (Nat × HB)) (hB : B ≤ cx.w0.heap.size) (hx0 : ∀ q, ¬ cx.ex q) (hs : lookS st.slots i = some (.own nm rt.n off n)) (hn : lookH st.heap nm = some ⟨rt, xs⟩) (hle : off + n ≤ xs.length) (hsub : ∀ j s, lookH hp j = some s → lookH st.heap j = some s) (hno : lookH hp nm = none)
    (h : J P cx ⟨(i, .tv (rSliceF B rt) ((xs.drop off).take n)) :: st.slots, hp⟩ c k) : J P cx st c k := fun a w hi => h a w (inv_sealF hB hx0 hs hn hle hsub hno hi)
theorem jr_sealF {B : Nat} (nm i : Nat) {off n : Nat} {α : Type} {rt : RT α} [NM rt] {xs : List α} (hp : List (Nat × HB)) (hB : B ≤ cx.w0.heap.size) (hx0 : ∀ q, ¬ cx.ex q) (hs : lookS st.slots i = some (.own nm rt.n off n)) (hn : lookH st.heap nm = some ⟨rt, xs⟩) (hle : off + n ≤ xs.length) (hsub : ∀ j s, lookH hp j = some s → lookH st.heap j = some s) (hno : lookH hp nm = none)
    (h : JR P cx ⟨(i, .tv (rSliceF B rt) ((xs.drop off).take n)) :: st.slots, hp⟩ k) : JR P cx st k := fun a w hi => h a w (inv_sealF hB hx0 hs hn hle hsub hno hi)

/-! ### a store that changes how a variable is read -/
structure LensT {α γ : Type} (r1 : RT α) (off : Nat) (rc : RT γ) (r2 : RT α) (set : α → γ → α) : Prop where
  n : r1.n = r2.n
  fits : off + rc.n ≤ r1.n
  set_ : ∀ {w ok cs d cs' d'}, r1.rep w ok cs d → rc.rep w ok cs' d' → r2.rep w ok (cs.take off ++ cs' ++ cs.drop (off + rc.n)) (set d d')
theorem LensT.id {α : Type} (r1 r2 : RT α) (h : r1.n = r2.n) : LensT r1 0 r2 r2 (fun _ d => d) where
  n := h
  fits := by omega
  set_ {w ok cs d cs' d'} h1 h' := by have hl := r1.len h1; have hd : List.drop r2.n cs = [] := List.drop_of_length_le (by omega); simpa [hd] using h'
theorem LensT.fst {α β γ : Type} {a a' : RT α} {b : RT β} {off : Nat} {c : RT γ} {set : α → γ → α} (l : LensT a off c a' set) : LensT (rPair a b) off c (rPair a' b) (fun d x => (set d.1 x, d.2)) where
  n := by show a.n + b.n = a'.n + b.n; rw [l.n]
  fits := by have := l.fits; simp only [rPair]; omega
  set_ := by
    rintro w ok cs d cs' d' ⟨c1, c2, rfl, h1, h2⟩ h'
    have hl := a.len h1
    have hf := l.fits
    refine ⟨c1.take off ++ cs' ++ c1.drop (off + c.n), c2, ?_, l.set_ h1 h', h2⟩
    rw [List.take_append_of_le_length (by omega), List.drop_append_of_le_length (by omega)]
    simp
theorem LensT.snd {α β γ : Type} {a : RT α} {b b' : RT β} {off o' : Nat} {c : RT γ} {set : β → γ → β} (l : LensT b off c b' set) (ho : o' = a.n + off) : LensT (rPair a b) o' c (rPair a b') (fun d x => (d.1, set d.2 x)) where
  n := by show a.n + b.n = a.n + b'.n; rw [l.n]
  fits := by have := l.fits; simp only [rPair]; omega
  set_ := by
    subst ho
    rintro w ok cs d cs' d' ⟨c1, c2, rfl, h1, h2⟩ h'
    have hl := a.len h1
    refine ⟨c1, c2.take off ++ cs' ++ c2.drop (off + c.n), ?_, h1, l.set_ h2 h'⟩
    rw [List.take_append, List.drop_append, List.take_of_length_le (by omega), List.drop_of_length_le (by omega), show a.n + off - c1.length = off by omega, show a.n + off + c.n - c1.length = off + c.n by omega]
    simp
theorem op_ostoreT {α γ : Type} {rt rt2 : RT α} [NM rt] [NM rt2] {rt' : RT γ} [NM rt'] {set : α → γ → α} {nm f : Nat} {y : α} {d : γ} {x v : Operand} {t : TypeId} (ht : Ty P t rt') (hx : Ev st x (.optr nm rt.n 0 f)) (hn : lookH st.heap nm = some ⟨rt, [y]⟩) (hl : LensT rt f rt' rt2 set) (hv : Rd st v rt' d) :
    OS P cx ⟨none, .store t x v, ty, pos, aft, gd⟩ st ⟨st.slots, (nm, ⟨rt2, [set y d]⟩) :: st.heap⟩ := by
  rintro a w ⟨β, hi⟩ Q
  obtain ⟨b, o, h1, h2⟩ := hi.ev hx
  obtain ⟨cur, e, h3, h4, h5⟩ := own_row hi hn h1
  have hval := hv.val hi
  have hc := rt'.val_cells hval
  have hlen := rt'.len hc
  have hone := rt'.one hc
  obtain ⟨_, i0, hi0, hs⟩ := ht
  obtain ⟨cs, h6, h7⟩ := h5 0 y rfl
  have hcl := rt.len h6
  have hfit := hl.fits
  have hnn := hl.n
  simp only [List.length_singleton, Nat.one_mul, Nat.zero_mul, Nat.add_zero] at h4 h7 h2
  have hsz : (a.eval v).cells.size = rt'.n := by simpa using hlen
  have hst := run_storeCells_at P b (o + f) e (a.eval v).cells.toList 0 cur w h3 (by rw [hlen]; omega) hone
  simp only [Nat.add_zero, hlen] at hst
  have hrun : (execOp a.eval ⟨none, .store t x v, ty, pos, aft, gd⟩).run P w = .ok .skip (w.setRow b (cur.toList.take (o + f) ++ (a.eval v).cells.toList ++ cur.toList.drop (o + f + rt'.n)).toArray) := by
    simp only [execOp, Instr.storeAt, h2, Instr.sureAddr, Sem.run_bind, Sem.run_pure, Result.andThen_ok, storeVar, run_sizeOf hi0, hs]
    rw [if_neg (by simp [hsz])]
    rw [hst]
    rfl
  unfold Oper.wp
  rw [hrun, Oper.upon_skip]
  refine ⟨_, InvB.setRow hi hn h1 h3 (by simp [hlen]; omega) (.inl rfl) (by simp [hlen]; omega) (fun j z hz => ?_)⟩
  have hget : ∀ q, (cur.toList.take (o + f) ++ (a.eval v).cells.toList ++ cur.toList.drop (o + f + rt'.n)).toArray[q]? = if q < o + f then cur[q]? else if q < o + f + rt'.n then (a.eval v).cells.toList[q - (o + f)]? else cur[q]? := by
    intro q
    rw [List.getElem?_toArray]
    have e1 : (cur.toList.take (o + f)).length = o + f := by simp; omega
    by_cases q1 : q < o + f
    · rw [if_pos q1, List.append_assoc, List.getElem?_append_left (by omega), List.getElem?_take_of_lt q1]; simp
    · rw [if_neg q1]
      by_cases q2 : q < o + f + rt'.n
      · rw [if_pos q2, List.append_assoc, List.getElem?_append_right (by omega), e1, List.getElem?_append_left (by omega)]
      · rw [if_neg q2, List.getElem?_append_right (by rw [List.length_append, e1, hlen]; omega), List.length_append, e1, hlen, List.getElem?_drop]
        rw [show o + f + rt'.n + (q - (o + f + rt'.n)) = q by omega]; simp
  have hj0 : j = 0 := by have := (List.getElem?_eq_some_iff.1 hz).1; simpa using this
  subst hj0
  simp at hz
  subst hz
  refine ⟨_, hl.set_ h6 hc, fun q u hq => ?_⟩
  rw [Nat.zero_mul, Nat.add_zero, hget]
  have hql : q < rt.n := by
    have := (List.getElem?_eq_some_iff.1 hq).1
    simp only [List.length_append, List.length_take, List.length_drop, hlen, hcl] at this
    omega
  rw [List.append_assoc] at hq
  by_cases q1 : q < f
  · rw [if_pos (by omega)]
    rw [List.getElem?_append_left (by simp; omega), List.getElem?_take_of_lt q1] at hq
    exact h7 q u hq
  · rw [if_neg (by omega)]
    rw [List.getElem?_append_right (by simp; omega)] at hq
    simp only [List.length_take, hcl, show min f rt.n = f by omega] at hq
    by_cases q2 : q < f + rt'.n
    · rw [if_pos (by omega)]
      rw [List.getElem?_append_left (by omega)] at hq
      rw [show o + q - (o + f) = q - f by omega]
      exact hq
    · rw [if_neg (by omega)]
      rw [List.getElem?_append_right (by omega), hlen, List.getElem?_drop] at hq
      rw [show f + rt'.n + (q - f - rt'.n) = q by omega] at hq
      exact h7 q u hq
end
end Go.Eng
