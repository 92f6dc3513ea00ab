import Derived.Test.YthfhekohlmboiaaEng20
namespace Go.Eng
set_option linter.unusedSimpArgs false

/-! ### a function that is lent a row of its caller's, writes it, and hands back what leads to it -/
section
variable {P : Program} {cx : Cx} {st st' : St} {β : Loc} {a : Act} {w w' : World} {ops : Array Oper} {k : Kn} {c : Code}
variable {dst : Option Tmp} {ty : TypeId} {pos : String} {aft : Array Edge} {gd : Option (Nat × Bool)}
variable {α γ δ : Type}

/-- the head of a slice, and nothing of what lies there -/
def rHd : RT (Option Addr × Nat × Nat) where
  n := 1
  agg := false
  raw d := some (.slice d.1 d.2.1 d.2.2)
  rep _ _ cs d := cs = [.slice d.1 d.2.1 d.2.2]
  len h := by simp [h]
  one h := by simp [h, Value.oneCell']
  keep _ h := h
  scal _ := rfl
  exact_ h1 h2 := by simp at h1; simp [h2, h1]
  exact' h := by simp at h; simp [h]
instance : NM rHd := ⟨rfl⟩

/-- slot j holds the very value that slot i holds -/
theorem inv_up {i j : Nat} {s : SV} {v : Value} (h0 : lookS st.slots i = some (.both s v)) (hj : lookS st.slots j = some (.raw v)) (hi : Inv cx st a w) : Inv cx ⟨(j, s) :: st.slots, st.heap⟩ a w := by
  obtain ⟨β, hb⟩ := hi
  obtain ⟨u, h1, h2, h3⟩ := hb.slots i _ h0
  obtain ⟨u', h4, h5⟩ := hb.slots j _ hj
  have h5 : u' = v := h5
  refine ⟨β, hb.below, hb.old, hb.defers, hb.size, hb.own, hb.sep, hb.rows, fun q s' hs => ?_⟩
  rw [lookS_cons] at hs
  split at hs
  · rename_i e; subst e; injection hs with hs; subst hs
    exact ⟨u', h4, by rw [h5, ← h3]; exact h2⟩
  · exact hb.slots q s' hs
theorem jg_up (i j : Nat) {s : SV} {v : Value} {l : List Oper} (h0 : lookS st.slots i = some (.both s v)) (hj : lookS st.slots j = some (.raw v)) (h : JG P cx ops ⟨(j, s) :: st.slots, st.heap⟩ l k) : JG P cx ops st l k := fun a w hi => h a w (inv_up h0 hj hi)

theorem inv_sealB {nm i off n : Nat} {rt : RT α} [NM rt] {xs : List α} {v : Value} {hp : List (Nat × HB)} (hs : lookS st.slots i = some (.both (.own nm rt.n off n) v)) (hn : lookH st.heap nm = some ⟨rt, xs⟩) (hle : off + n ≤ xs.length) (hsub : ∀ j s, lookH hp j = some s → lookH st.heap j = some s) (hno : lookH hp nm = none) (hi : Inv cx st a w) :
    Inv cx ⟨(i, .both (.tv (rSlice rt) ((xs.drop off).take n)) v) :: st.slots, hp⟩ a w := by
  obtain ⟨β, hb⟩ := hi
  have hok : ∀ b, okOf cx st.heap β w b → okOf cx hp β w b := fun b ⟨h1, h2, h3⟩ => ⟨h1, h2, fun k h hk => h3 k h (hsub _ _ hk)⟩
  have hb' : InvB cx ⟨st.slots, hp⟩ β a w := hb.toHeap hsub
  obtain ⟨u, h1, h2, h3⟩ := hb.slots i _ hs
  refine ⟨β, hb'.below, hb'.old, hb'.defers, hb'.size, hb'.own, hb'.sep, hb'.rows, fun j s hj => ?_⟩
  simp only [lookS_cons] at hj
  split at hj
  · rename_i e1
    subst e1
    injection hj with hj; subst hj
    refine ⟨u, h1, own_sliceRep hb hn h2 hle hok (fun b o hbo => ?_), h3⟩
    have := hb.own nm _ hn _ hbo
    exact ⟨.inr this.1, this.2, fun k h hk x hx e1 => by
      have : k = nm := hb.sep k nm _ _ (hsub _ _ hk) hn x (b, o) hx hbo e1
      subst this
      rw [hno] at hk; cases hk⟩
  · exact hb'.slots j s hj
theorem jg_sealB (nm i : Nat) {off n : Nat} {rt : RT α} [NM rt] {xs : List α} {v : Value} {l : List Oper} (hp : List (Nat × HB)) (hs : lookS st.slots i = some (.both (.own nm rt.n off n) v)) (hn : lookH st.heap nm = some ⟨rt, xs⟩) (hle : off + n ≤ xs.length) (hsub : ∀ j s, lookH hp j = some s → lookH st.heap j = some s) (hno : lookH hp nm = none)
    (h : JG P cx ops ⟨(i, .both (.tv (rSlice rt) ((xs.drop off).take n)) v) :: st.slots, hp⟩ l k) : JG P cx ops st l k := fun a w hi => h a w (inv_sealB hs hn hle hsub hno hi)

/-- what reads as d1 reads as d2 besides, where the value v reads as ys -/
def Casts (rt : RT α) (ys : List α) (v : Value) (r1 : RT γ) (d1 : γ) (r2 : RT δ) (d2 : δ) : Prop :=
  r1.agg = r2.agg ∧ ∀ (w : World) (ok : Ok) (cs : List Value), (rSlice rt).val w ok v ys → r1.rep w ok cs d1 → r2.rep w ok cs d2
theorem casts_hd {rt : RT α} {ys : List α} {A : Option Addr} {n cap : Nat} : Casts rt ys (.slice A n cap) rHd (A, n, cap) (rSlice rt) ys := by
  refine ⟨rfl, fun w ok cs hv h => ?_⟩
  have h : cs = [.slice A n cap] := h
  subst h
  obtain ⟨cs', h1, h2⟩ := hv
  obtain ⟨c', hc⟩ := rep_head (rSlice rt) rfl h1
  subst hc
  have h2 : Value.slice A n cap = c' := h2
  rw [h2]; exact h1
theorem casts_pair {rt : RT α} {ys : List α} {v : Value} {ε : Type} {r0 : RT ε} {r1 : RT γ} {d1 : γ} {r2 : RT δ} {d2 : δ} (x : ε) (h : Casts rt ys v r1 d1 r2 d2) : Casts rt ys v (rPair r0 r1) (x, d1) (rPair r0 r2) (x, d2) :=
  ⟨rfl, fun w ok _ hv ⟨c1, c2, e, g1, g2⟩ => ⟨c1, c2, e, g1, h.2 w ok c2 hv g2⟩⟩
theorem inv_cast {i j : Nat} {rt : RT α} {ys : List α} {v : Value} {r1 : RT γ} {d1 : γ} {r2 : RT δ} {d2 : δ} (hc : Casts rt ys v r1 d1 r2 d2) (h0 : lookS st.slots i = some (.both (.tv (rSlice rt) ys) v)) (hj : lookS st.slots j = some (.tv r1 d1)) (hi : Inv cx st a w) : Inv cx ⟨(j, .tv r2 d2) :: st.slots, st.heap⟩ a w := by
  obtain ⟨β, hb⟩ := hi
  obtain ⟨u, h1, h2, h3⟩ := hb.slots i _ h0
  obtain ⟨u', h4, cs, h5, h6⟩ := hb.slots j _ hj
  subst h3
  refine ⟨β, hb.below, hb.old, hb.defers, hb.size, hb.own, hb.sep, hb.rows, fun q s' hs => ?_⟩
  rw [lookS_cons] at hs
  split at hs
  · rename_i e; subst e; injection hs with hs; subst hs
    exact ⟨u', h4, cs, hc.2 _ _ _ h2 h5, by rw [h6, hc.1]⟩
  · exact hb.slots q s' hs
theorem jg_cast (i j : Nat) {rt : RT α} {ys : List α} {v : Value} {r1 : RT γ} {d1 : γ} {r2 : RT δ} {d2 : δ} {l : List Oper} (hc : Casts rt ys v r1 d1 r2 d2) (h0 : lookS st.slots i = some (.both (.tv (rSlice rt) ys) v)) (hj : lookS st.slots j = some (.tv r1 d1)) (h : JG P cx ops ⟨(j, .tv r2 d2) :: st.slots, st.heap⟩ l k) : JG P cx ops st l k := fun a w hi => h a w (inv_cast hc h0 hj hi)

/-- called with a slice over a row that is lent, the function hands back what reads as r (which may lead into the row) -/
structure CtS (P : Program) (k : FuncId) (rt : RT α) (xs : List α) (r : SV) : Prop where
  ent : ∀ w args, (callFunc k args).run P w = .ok (.enter k args) w
  calls : ∀ (w : World) (ok0 : Ok) (b o cap : Nat), (∀ b', ok0 b' → b' < w.heap.size) → b < w.heap.size → xs.length ≤ cap → cap ≤ maxLen → (∃ cur e fr, w.heap[b]? = some (.cells cur e fr) ∧ o + cap * rt.n ≤ cur.size) → RowRep rt w (fun b' => ok0 b' ∧ b' ≠ b) b o xs →
    Calls P k #[.slice (some ⟨b, o, none⟩) xs.length cap] w (RetR ⟨w, ok0, 0, fun q => q = b⟩ r)

theorem ctS_intro {kf : FuncId} {fn : Func} {c : Code} {rt : RT α} [NM rt] {xs : List α} {r : SV} (hf : P.funcs[kf]? = some fn) (hb : fn.body = some c) (hn : (fn.name == "runtime.NumGoroutine") = false) {m : Nat} (hm : fn.ntmps = m) (hlen : Nat.ble 1 m = true)
    (h : ∀ (w0 : World) (ok0 : Ok) (b o cap : Nat), xs.length ≤ maxLen → J P ⟨w0, ok0, m, fun q => q = b⟩ ⟨[(0, .both (.own 100 rt.n 0 xs.length) (.slice (some ⟨b, o, none⟩) xs.length cap))], [(100, ⟨rt, xs⟩)]⟩ c (.fin fn (RetR ⟨w0, ok0, m, fun q => q = b⟩ r))) : CtS P kf rt xs r := by
  refine ⟨callFunc_enter hf hb hn, fun w ok0 b o cap hok hbs hcap hmax hfit hrow => ?_⟩
  have hlen' : 1 ≤ m := by simpa using hlen
  refine calls_of_wp hf hb ?_
  have := h w ok0 b o cap (by omega) { tmps := #[Value.slice (some ⟨b, o, none⟩) xs.length cap] ++ Array.replicate (fn.ntmps - 1) undef, defers := [] } w ⟨fun q => if q = 100 then some (b, o) else none, ?_⟩
  · exact wp_mono this fun e a w hq => hq
  · have hlk : ∀ nm hb, lookH [(100, HB.mk rt xs)] nm = some hb → nm = 100 ∧ hb = ⟨rt, xs⟩ := fun nm hb hh => by
      rw [lookH_cons] at hh
      split at hh
      · rename_i e; injection hh with hh; exact ⟨e.symm, hh.symm⟩
      · simp [lookH] at hh
    have hkk : ∀ b', (ok0 b' ∧ b' ≠ b) → okOf ⟨w, ok0, m, fun q => q = b⟩ [(100, HB.mk rt xs)] (fun q => if q = 100 then some (b, o) else none) w b' ∧ w.heap[b']? = w.heap[b']? := fun b' hb' =>
      ⟨⟨.inl hb'.1, hok b' hb'.1, fun nm hb hh x hx => by
        obtain ⟨rfl, rfl⟩ := hlk nm hb hh
        simp at hx; subst hx; exact fun e => hb'.2 e.symm⟩, rfl⟩
    refine ⟨(Below.refl _ _).toX, hok, rfl, by simp [hm]; omega, fun nm hb hh x hx => ?_, fun nm nm' hb hb' hh hh' x y hx hy _ => ?_, fun nm hb hh => ?_, fun i s hs => ?_⟩
    · obtain ⟨rfl, rfl⟩ := hlk nm hb hh
      simp at hx; subst hx
      exact ⟨.inr rfl, hbs⟩
    · rw [(hlk nm hb hh).1, (hlk nm' hb' hh').1]
    · obtain ⟨rfl, rfl⟩ := hlk nm hb hh
      simp only [if_pos]
      exact HB.keep (hb := ⟨rt, xs⟩) (l := some (b, o)) hkk (fun _ _ => rfl) ⟨fun _ => hrow, fun hm => by rw [show rt.mp = false from NM.no] at hm; cases hm⟩
    · rw [lookS_cons] at hs
      split at hs
      · rename_i e; subst e; injection hs with hs; subst hs
        refine ⟨.slice (some ⟨b, o, none⟩) xs.length cap, by rw [Array.getElem?_append_left (by simp)]; rfl, ?_, rfl⟩
        simp only [SV.holds, hdr, if_pos]
        refine ⟨_, cap, rfl, hcap, hmax, .inr ⟨by simp, ?_⟩⟩
        obtain ⟨cur, e, fr, g1, g2⟩ := hfit
        exact ⟨cur, e, fr, g1, by rw [Nat.zero_add]; exact g2⟩
      · simp [lookS] at hs

theorem op_callS {kf : FuncId} {rt : RT α} [NM rt] {xs : List α} {r : SV} {nm n d : Nat} {x : Operand} {ts : Array TypeId} (h : CtS P kf rt xs r) (hx : Ev st x (.own nm rt.n 0 n)) (hn : lookH st.heap nm = some ⟨rt, xs⟩) (hfull : n = xs.length) (hne : xs ≠ []) (hr : r.plain = true) (hd : Nat.blt d cx.n = true)
    (sl : List (Nat × SV)) (hsub : ∀ j s, lookS sl j = some s → lookS st.slots j = some s) (hpl : (sl.all fun p => p.2.plain) = true) :
    OS P cx ⟨some d, .call { callee := .value (.func kf), args := #[x], argTypes := ts }, ty, pos, aft, gd⟩ st ⟨(d, r) :: sl, dropH nm st.heap⟩ := by
  rintro a w ⟨β, hi⟩ Q
  subst hfull
  have hrun : (execOp a.eval ⟨some d, .call { callee := .value (.func kf), args := #[x], argTypes := ts }, ty, pos, aft, gd⟩).run P w = .ok (.enter kf #[a.eval x]) w := by
    simp [execOp, resolve, Act.eval, Deferred.ofValue, invoke, h.ent]
  unfold Oper.wp
  rw [hrun, Oper.upon_enter]
  have hv := hi.ev hx
  have hrow := hi.rows nm _ hn
  simp only [SV.holds, hdr] at hv
  have hpos : xs.length ≠ 0 := fun e => hne (List.length_eq_zero_iff.1 e)
  cases hβ : β nm with
  | none => rw [hβ] at hrow; exact absurd hrow hne
  | some bo =>
    obtain ⟨b, o⟩ := bo
    rw [hβ] at hrow hv
    obtain ⟨A, cap, hv, hc1, hc2, hc3⟩ := hv
    rcases hc3 with ⟨e0, _⟩ | ⟨hA, cur, e, fr, hcur, hfit⟩
    · exact absurd e0 hpos
    have hA : A = some ⟨b, o, none⟩ := by rw [hA]; simp
    subst hA
    rw [hv]
    have hown := hi.own nm _ hn _ hβ
    have hrr : RowRep rt w (okOf cx st.heap β w) b o xs := hrow.1 NM.no
    refine (h.calls w (okOf cx st.heap β w) b o cap (fun _ hb => hb.2.1) hown.2 hc1 hc2 ⟨cur, e, fr, hcur, by rw [Nat.zero_add] at hfit; exact hfit⟩ ?_).mono ?_
    · obtain ⟨cur', e', g1, g2, g3⟩ := hrr
      refine ⟨cur', e', g1, g2, fun i x hx => ?_⟩
      obtain ⟨cs, g4, g5⟩ := g3 i x hx
      exact ⟨cs, rt.keep (fun b' hb' => ⟨⟨hb', fun e1 => hb'.2.2 nm _ hn _ hβ e1.symm⟩, rfl⟩) g4, g5⟩
    rintro e' w' ⟨v, rfl, hb, hu⟩
    have hbl : ∀ q, q < w.heap.size → q ≠ b → w'.heap[q]? = w.heap[q]? := fun q hq hne => hb.blockX q hq hne
    have hdl : ∀ q hq, lookH (dropH nm st.heap) q = some hq → q ≠ nm ∧ lookH st.heap q = some hq := fun q hq hh => by
      refine ⟨?_, dropH_sub nm _ _ _ hh⟩
      rintro rfl; rw [dropH_no] at hh; cases hh
    have hbo : ∀ q hq, q ≠ nm → lookH st.heap q = some hq → ∀ x, β q = some x → x.1 ≠ b := fun q hq hne hh x hx e1 => hne (hi.sep q nm _ _ hh hn x (b, o) hx hβ e1)
    have hok : ∀ b', okOf cx st.heap β w b' → okOf cx (dropH nm st.heap) β w' b' ∧ w'.heap[b']? = w.heap[b']? := fun b' ⟨g1, g2, g3⟩ =>
      ⟨⟨g1, Nat.lt_of_lt_of_le g2 hb.size, fun q hq hh => g3 q hq (hdl q hq hh).2⟩, hbl b' g2 (fun e1 => g3 nm _ hn _ hβ e1.symm)⟩
    have hbase : InvB cx ⟨sl, dropH nm st.heap⟩ β a w' := by
      refine ⟨⟨hb.os.trans hi.below.os, hb.tape.trans hi.below.tape, hb.output.trans hi.below.output, Nat.le_trans hi.below.size hb.size, fun q hq hx => ?_, Nat.le_trans hi.below.drawn hb.drawn⟩, hi.old, hi.defers, hi.size, fun q hq hh x hx => ?_, fun q q' h1 h2 hh hh' => hi.sep q q' _ _ (hdl q _ hh).2 (hdl q' _ hh').2, fun q hq hh => ?_, fun i s hs => ?_⟩
      · refine (hbl q (Nat.lt_of_lt_of_le hq hi.below.size) ?_).trans (hi.below.blockX q hq hx)
        rintro rfl
        rcases hown.1 with z | z
        · simp only at z; omega
        · exact hx z
      · have := hi.own q hq (hdl q hq hh).2 x hx
        exact ⟨this.1, Nat.lt_of_lt_of_le this.2 hb.size⟩
      · exact HB.keep hok (fun x hx => hbl _ (hi.own q hq (hdl q hq hh).2 x hx).2 (hbo q hq (hdl q hq hh).1 (hdl q hq hh).2 x hx)) (hi.rows q hq (hdl q hq hh).2)
      · obtain ⟨u, g1, g2⟩ := hi.slots i s (hsub i s hs)
        have hps : s.plain = true := by
          clear hsub
          induction sl with
          | nil => simp [lookS] at hs
          | cons p l ih =>
            simp only [List.all_cons, Bool.and_eq_true] at hpl
            obtain ⟨j, t⟩ := p
            rw [lookS_cons] at hs
            split at hs
            · injection hs with hs; subst hs; exact hpl.1
            · exact ih hpl.2 hs
        exact ⟨u, g1, SV.keep hok (fun q hq => by rw [SV.plain_free hps q] at hq; cases hq) g2⟩
    refine ⟨β, hbase.put (by simpa using hd) (SV.plain_keep hr (fun b' hb' => ⟨⟨?_, hb'.2, ?_⟩, rfl⟩) hu)⟩
    · rcases hb'.1 with z | z | z
      · exact z.1
      · exact .inr (.inl (Nat.le_trans hi.below.size z))
      · have z : b' = b := z
        subst z; exact .inr hown.1
    · intro q hq hh x hx e1
      have hqn := hdl q hq hh
      rcases hb'.1 with z | z | z
      · exact z.2.2 q hq hqn.2 x hx e1
      · have := (hi.own q hq hqn.2 x hx).2
        have z : w.heap.size ≤ b' := z
        omega
      · have z : b' = b := z
        exact hbo q hq hqn.1 hqn.2 x hx (e1.trans z)
end
end Go.Eng
