import Derived.Test.YtemcooggkcneiaaEngR
import Derived.Test.YtemcooggkcneiaaEngL
namespace Go.Eng
set_option linter.unusedSimpArgs false
set_option linter.unusedVariables false
/-! ### functions that are given a pointer to a variable that holds a row's head -/
section
variable {P : Program} {cx : Cx} {st st' : St} {β : Loc} {a : Act} {w w' : World} {ops : Array Oper} {k : Kn} {c : Code}
variable {dst : Option Tmp} {ty : TypeId} {pos : String} {aft : Array Edge} {gd : Option (Nat × Bool)}
variable {α : Type} {rt : RT α} [NM rt]
abbrev outOf (bo : Option (Nat × Nat)) (q : Nat) : Prop := ∀ x, bo = some x → x.1 ≠ q
def boxed (rt : RT α) (w : World) (ok : Ok) (pb po : Nat) (A : Option Addr) (n cap : Nat) (bo : Option (Nat × Nat)) (xs : List α) : Prop :=
  RowRep rHd w ok pb po [(A, n, cap)] ∧ HB.holds w ok ⟨rt, xs⟩ bo ∧ hdr (fun _ => bo) w 101 rt.n 0 n (.slice A n cap)
abbrev ptrAt (pb po : Nat) : Value := .pointer (some ⟨pb, po, none⟩)
def RetP (cx : Cx) (pb po : Nat) (rt : RT α) (Q : List α → Prop) (r : SV) : Ending → World → Prop := fun e w' =>
  ∃ v, e = .returned v ∧ BelowX cx.ex cx.w0.heap.size cx.w0 w' ∧ ∃ ys A n cap bo, Q ys ∧ n = ys.length ∧ (∀ x, bo = some x → cx.new x.1 ∧ x.1 < w'.heap.size ∧ x.1 ≠ pb) ∧
    boxed rt w' (fun q => okR cx w' q ∧ q ≠ pb ∧ outOf bo q) pb po A n cap bo ys ∧ r.holds noLoc w' (fun q => okR cx w' q ∧ q ≠ pb ∧ outOf bo q) v
structure CtP (P : Program) (kf : FuncId) {α : Type} (rt : RT α) (xs : List α) (Q : List α → Prop) (ss : List SV) (r : SV) : Prop where
  ent : ∀ w args, (callFunc kf args).run P w = .ok (.enter kf args) w
  calls : ∀ (w : World) (ok0 : Ok) (pb po : Nat) (A : Option Addr) (cap : Nat) (bo : Option (Nat × Nat)) (vs : List Value), (∀ b', ok0 b' → b' < w.heap.size) → ¬ ok0 pb → pb < w.heap.size →
    (∀ x, bo = some x → ¬ ok0 x.1 ∧ x.1 ≠ pb ∧ x.1 < w.heap.size) → boxed rt w ok0 pb po A xs.length cap bo xs → HoldsAll w ok0 ss vs →
    Calls P kf ((ptrAt pb po :: vs).toArray) w (RetP ⟨w, ok0, 0, fun q => q = pb ∨ ∃ x, bo = some x ∧ x.1 = q⟩ pb po rt Q r)

omit [NM rt] in
theorem ctP_intro {kf : FuncId} {fn : Func} {c : Code} {xs : List α} {Q : List α → Prop} {ss : List SV} {r : SV} (hf : P.funcs[kf]? = some fn) (hb : fn.body = some c) (hn : (fn.name == "runtime.NumGoroutine") = false) {m : Nat} (hm : fn.ntmps = m) (hlen : Nat.ble (ss.length + 1) m = true)
    (hp : (ss.all SV.plain) = true)
    (h : ∀ (w0 : World) (ok0 : Ok) (pb po : Nat) (A : Option Addr) (cap : Nat) (ex : Nat → Prop), J P ⟨w0, ok0, m, ex⟩ ⟨(0, .lnk (.both (.optr 100 1 0 0) (ptrAt pb po)) (.slice A xs.length cap) (.own 101 rt.n 0 xs.length)) :: slots0 1 ss, [(100, ⟨rHd, [(A, xs.length, cap)]⟩), (101, ⟨rt, xs⟩)]⟩ c
      (.fin fn (RetP ⟨w0, ok0, m, ex⟩ pb po rt Q r))) : CtP P kf rt xs Q ss r := by
  refine ⟨callFunc_enter hf hb hn, fun w ok0 pb po A cap bo vs hok hnp hps hbo hbx hh => ?_⟩
  have hl := holdsAll_len hh
  have hlen' : ss.length + 1 ≤ m := by simpa using hlen
  refine calls_of_wp hf hb ?_
  have := h w ok0 pb po A cap (fun q => q = pb ∨ ∃ x, bo = some x ∧ x.1 = q) { tmps := (ptrAt pb po :: vs).toArray ++ Array.replicate (fn.ntmps - (ptrAt pb po :: vs).toArray.size) undef, defers := [] } w ⟨fun q => if q = 100 then some (pb, po) else if q = 101 then bo else none, ?_⟩
  · exact wp_mono this fun e a w' hq => hq
  · have hlk : ∀ nm hb, lookH [(100, HB.mk rHd [(A, xs.length, cap)]), (101, HB.mk rt xs)] nm = some hb → (nm = 100 ∧ hb = ⟨rHd, [(A, xs.length, cap)]⟩) ∨ (nm = 101 ∧ hb = ⟨rt, xs⟩) := fun nm hb hh => by
      rw [lookH_cons] at hh
      split at hh
      · rename_i e; injection hh with hh; exact .inl ⟨e.symm, hh.symm⟩
      · rw [lookH_cons] at hh
        split at hh
        · rename_i e; injection hh with hh; exact .inr ⟨e.symm, hh.symm⟩
        · simp [lookH] at hh
    have hkk : ∀ b', ok0 b' → okOf ⟨w, ok0, m, fun q => q = pb ∨ ∃ x, bo = some x ∧ x.1 = q⟩ [(100, HB.mk rHd [(A, xs.length, cap)]), (101, HB.mk rt xs)] (fun q => if q = 100 then some (pb, po) else if q = 101 then bo else none) w b' ∧ w.heap[b']? = w.heap[b']? := fun b' hb' =>
      ⟨⟨.inl hb', hok b' hb', fun nm hb hh x hx => by
        rcases hlk nm hb hh with ⟨rfl, rfl⟩ | ⟨rfl, rfl⟩
        · simp at hx; subst hx; intro e; exact hnp (by rw [show pb = b' from e]; exact hb')
        · simp at hx; intro e; exact (hbo x hx).1 (by rw [e]; exact hb')⟩, rfl⟩
    obtain ⟨hb1, hb2, hb3⟩ := hbx
    refine ⟨(Below.refl _ _).toX, hok, rfl, by simp [hm, hl]; omega, fun nm hb hh x hx => ?_, fun nm nm' hb hb' hh hh' x y hx hy hxy => ?_, fun nm hb hh => ?_, fun i s hs => ?_⟩
    · rcases hlk nm hb hh with ⟨rfl, rfl⟩ | ⟨rfl, rfl⟩
      · simp at hx; subst hx; exact ⟨.inr (.inl rfl), hps⟩
      · simp at hx; exact ⟨.inr (.inr ⟨x, hx, rfl⟩), (hbo x hx).2.2⟩
    · rcases hlk nm hb hh with ⟨rfl, rfl⟩ | ⟨rfl, rfl⟩ <;> rcases hlk nm' hb' hh' with ⟨rfl, rfl⟩ | ⟨rfl, rfl⟩
      · rfl
      · simp at hx hy; subst hx; exact absurd hxy.symm (hbo y hy).2.1
      · simp at hx hy; subst hy; exact absurd hxy (hbo x hx).2.1
      · rfl
    · rcases hlk nm hb hh with ⟨rfl, rfl⟩ | ⟨rfl, rfl⟩
      · simp only [if_pos]
        exact HB.keep (hb := ⟨rHd, [(A, xs.length, cap)]⟩) (l := some (pb, po)) hkk (fun _ _ => rfl) ⟨fun _ => hb1, fun hm => by cases hm⟩
      · simp only [show (101 : Nat) ≠ 100 by decide, if_neg, if_pos, not_false_iff]
        exact HB.keep hkk (fun _ _ => rfl) hb2
    · rw [lookS_cons] at hs
      split at hs
      · rename_i e; subst e; injection hs with hs; subst hs
        refine ⟨ptrAt pb po, by rw [Array.getElem?_append_left (by simp)]; rfl, ⟨⟨pb, po, by simp, by simp [ptrAt]⟩, rfl⟩, ?_⟩
        simp only [SV.holds]
        exact hdr_keep (β := fun _ => bo) ⟨by simp, fun b o hb cur e fr hc => ⟨cur, e, fr, hc, rfl⟩⟩ hb3
      · obtain ⟨j, rfl, hj⟩ := slots0_look hs
        obtain ⟨v, h1, h2⟩ := holdsAll_at hh hj
        have hjl : j < vs.length := (List.getElem?_eq_some_iff.1 h1).1
        have hps' : s.plain = true := List.all_eq_true.1 hp s (List.mem_of_getElem? hj)
        exact ⟨v, by rw [Array.getElem?_append_left (by simp; omega)]; simp [Nat.add_comm 1 j, h1], SV.plain_keep hps' hkk h2⟩

omit [NM rt] in
/-- what the variable and its row are at the end -/
theorem fin_boxed {pb po s0 : Nat} {A : Option Addr} {n cap : Nat} {xs : List α} {Q : List α → Prop} (hi : InvB cx st β a w) (hm : lookS st.slots s0 = some (.lnk (.both (.optr 100 1 0 0) (ptrAt pb po)) (.slice A n cap) (.own 101 rt.n 0 n))) (h0 : lookH st.heap 100 = some ⟨rHd, [(A, n, cap)]⟩) (hn : lookH st.heap 101 = some ⟨rt, xs⟩) (hl : n = xs.length) (hQ : Q xs) :
    (∃ ys A n cap bo, Q ys ∧ n = ys.length ∧ (∀ x, bo = some x → cx.new x.1 ∧ x.1 < w.heap.size ∧ x.1 ≠ pb) ∧ boxed rt w (fun q => okR cx w q ∧ q ≠ pb ∧ outOf bo q) pb po A n cap bo ys ∧ ∀ q, okOf cx st.heap β w q → okR cx w q ∧ q ≠ pb ∧ outOf bo q) := by
  obtain ⟨v, _, ⟨⟨b, o, e1, e2⟩, e3⟩, e4⟩ := hi.slots s0 _ hm
  have e2 : v = .pointer (some ⟨b, o + 0 * 1 + 0, none⟩) := e2
  rw [e3] at e2
  have e2 : some (⟨pb, po, none⟩ : Addr) = some ⟨b, o + 0 * 1 + 0, none⟩ := by injection e2
  have e5 : pb = b ∧ po = o := by injection e2 with e2; injection e2 with q1 q2; simp at q2; exact ⟨q1, q2⟩
  obtain ⟨rfl, rfl⟩ := e5
  have hk : ∀ q, okOf cx st.heap β w q → okR cx w q ∧ q ≠ pb ∧ outOf (β 101) q := fun q hq => ⟨okOf_okR hq, fun e => hq.2.2 100 _ h0 _ e1 e.symm, fun x hx => hq.2.2 101 _ hn x hx⟩
  have hkk : ∀ q, okOf cx st.heap β w q → (okR cx w q ∧ q ≠ pb ∧ outOf (β 101) q) ∧ w.heap[q]? = w.heap[q]? := fun q hq => ⟨hk q hq, rfl⟩
  refine ⟨xs, A, n, cap, β 101, hQ, hl, fun x hx => ?_, ⟨?_, ?_, ?_⟩, hk⟩
  · have := hi.own 101 _ hn x hx
    exact ⟨this.1, this.2, fun e => absurd (hi.sep 101 100 _ _ hn h0 x (pb, po) hx e1 e) (by decide)⟩
  · have hr := hi.rows 100 _ h0
    rw [e1] at hr
    obtain ⟨cur, e, g1, g2, g3⟩ := hr.1 rfl
    refine ⟨cur, e, g1, g2, fun i x hx => ?_⟩
    obtain ⟨cs, g4, g5⟩ := g3 i x hx
    exact ⟨cs, rHd.keep hkk g4, g5⟩
  · exact HB.keep hkk (fun _ _ => rfl) (hi.rows 101 _ hn)
  · exact hdr_keep (β := β) ⟨rfl, fun b o hb cur e fr hc => ⟨cur, e, fr, hc, rfl⟩⟩ e4
omit [NM rt] in
theorem jn_finP0 {fn : Func} {pb po s0 : Nat} {A : Option Addr} {n cap : Nat} {xs : List α} {Q : List α → Prop} (hr : fn.results = #[]) (hm : lookS st.slots s0 = some (.lnk (.both (.optr 100 1 0 0) (ptrAt pb po)) (.slice A n cap) (.own 101 rt.n 0 n))) (h0 : lookH st.heap 100 = some ⟨rHd, [(A, n, cap)]⟩) (hn : lookH st.heap 101 = some ⟨rt, xs⟩) (hl : n = xs.length) (hQ : Q xs) :
    JN P cx st (.fin fn (RetP cx pb po rt Q (.raw (.tuple #[])))) := by
  rintro a w ⟨β, hi⟩
  obtain ⟨ys, A', n', cap', bo, g1, g2, g3, g4, _⟩ := fin_boxed hi hm h0 hn hl hQ
  refine ⟨hi.defers, .tuple #[], ?_, _, rfl, hi.below, ys, A', n', cap', bo, g1, g2, g3, g4, rfl⟩
  simp [results_eq, hr]
omit [NM rt] in
theorem jr_finP1 {fn : Func} {v0 : ResultVar} {s r : SV} {pb po s0 : Nat} {A : Option Addr} {n cap : Nat} {xs : List α} {Q : List α → Prop} (hr : fn.results = #[v0]) (hs0 : Res P cx st v0 s) (hp : s.plain = true) (e : s = r) (hm : lookS st.slots s0 = some (.lnk (.both (.optr 100 1 0 0) (ptrAt pb po)) (.slice A n cap) (.own 101 rt.n 0 n))) (h0 : lookH st.heap 100 = some ⟨rHd, [(A, n, cap)]⟩) (hn : lookH st.heap 101 = some ⟨rt, xs⟩) (hl : n = xs.length) (hQ : Q xs) :
    JR P cx st (.fin fn (RetP cx pb po rt Q r)) := by
  rintro a w ⟨β, hi⟩
  subst e
  obtain ⟨v, h1, h2⟩ := hs0 β a w hi
  obtain ⟨ys, A', n', cap', bo, g1, g2, g3, g4, g5⟩ := fin_boxed hi hm h0 hn hl hQ
  refine ⟨hi.defers, v, ?_, v, rfl, hi.below, ys, A', n', cap', bo, g1, g2, g3, g4, SV.plain_keep hp (fun q hq => ⟨g5 q hq, rfl⟩) h2⟩
  simp [results_eq, hr, h1]

/-- the slots that are kept: those that speak only of other rows -/
inductive KeepP (R : List Nat) (l : List (Nat × SV)) : List Nat → List (Nat × SV) → Prop
  | nil : KeepP R l [] []
  | free {j : Nat} {ks : List Nat} {t : SV} {r : List (Nat × SV)} (h : lookS l j = some t) (hf : t.within R = true) (hr : KeepP R l ks r) : KeepP R l (j :: ks) ((j, t) :: r)
theorem KeepP.look {R : List Nat} {l : List (Nat × SV)} {ks : List Nat} {r : List (Nat × SV)} (h : KeepP R l ks r) : ∀ i s, lookS r i = some s → lookS l i = some s ∧ s.within R = true := by
  induction h with
  | nil => intro i s hs; simp [lookS] at hs
  | free h hf _ ih =>
    intro i s hs; rw [lookS_cons] at hs; split at hs
    · rename_i e; subst e; injection hs with hs; subst hs; exact ⟨h, hf⟩
    · exact ih i s hs
/-- what a slot says of where the variable lies -/
def boxS (nb : Nat) (s : SV) : Prop := s = .optr nb 1 0 0 ∨ ∃ p, s = .both (.optr nb 1 0 0) p
theorem boxS.holds {nb : Nat} {s : SV} (h : boxS nb s) {ok ok' : Ok} {β' : Loc} (e : β' nb = β nb) {v : Value} (hv : s.holds β w ok v) : s.holds β' w' ok' v := by
  rcases h with rfl | ⟨p, rfl⟩
  · obtain ⟨b, o, h1, h2⟩ := hv
    exact ⟨b, o, e.trans h1, h2⟩
  · obtain ⟨⟨b, o, h1, h2⟩, h3⟩ := hv
    exact ⟨⟨b, o, e.trans h1, h2⟩, h3⟩
theorem boxS.at {nb : Nat} {s : SV} (h : boxS nb s) {ok : Ok} {v : Value} (hv : s.holds β w ok v) : ∃ b o, β nb = some (b, o) ∧ v = ptrAt b o := by
  rcases h with rfl | ⟨p, rfl⟩
  · obtain ⟨b, o, h1, h2⟩ := hv
    exact ⟨b, o, h1, by simpa using h2⟩
  · obtain ⟨⟨b, o, h1, h2⟩, h3⟩ := hv
    exact ⟨b, o, h1, by simpa using h2⟩

omit [NM rt] in
theorem InvB.turnP (hi : InvB cx st β a w) {nb nm c0 pb po n n' cap cap' : Nat} {A A' : Option Addr} {bo : Option (Nat × Nat)} {xs ys : List α} {s : SV} {r : List (Nat × SV)} {ks R : List Nat} (hne : nb ≠ nm)
    (hR : (R.all fun k => !Nat.beq k nm && !Nat.beq k nb && (lookH st.heap k).isSome) = true) (hnb : lookH st.heap nb = some ⟨rHd, [(A, n, cap)]⟩) (hn : lookH st.heap nm = some ⟨rt, xs⟩) (hpb : β nb = some (pb, po))
    (hc0 : lookS st.slots c0 = some (.lnk s (.slice A n cap) (.own nm rt.n 0 n))) (hs : boxS nb s) (hk : KeepP R st.slots ks r)
    (hg : BelowX (fun q => q = pb ∨ ∃ x, β nm = some x ∧ x.1 = q) w.heap.size w w')
    (hbo : ∀ x, bo = some x → ((w.heap.size ≤ x.1) ∨ (x.1 = pb ∨ ∃ y, β nm = some y ∧ y.1 = x.1)) ∧ x.1 < w'.heap.size ∧ x.1 ≠ pb)
    (hbx : boxed rt w' (fun q => okR (Cx.mk w (okOf cx st.heap β w) 0 (fun q => q = pb ∨ ∃ x, β nm = some x ∧ x.1 = q)) w' q ∧ q ≠ pb ∧ outOf bo q) pb po A' n' cap' bo ys) :
    InvB cx ⟨(c0, .lnk s (.slice A' n' cap') (.own nm rt.n 0 n')) :: r, (nb, ⟨rHd, [(A', n', cap')]⟩) :: (nm, ⟨rt, ys⟩) :: st.heap⟩ (fun q => if q = nm then bo else β q) a w' := by
  have hownb := hi.own nb _ hnb _ hpb
  have hothers : ∀ k hb', lookH st.heap k = some hb' → k ≠ nm → k ≠ nb → ∀ x, β k = some x → x.1 ≠ pb ∧ (∀ y, β nm = some y → x.1 ≠ y.1) ∧ ∀ y, bo = some y → x.1 ≠ y.1 := fun k hb' hk h1 h2 x hx => by
    have q1 : x.1 ≠ pb := fun e => h2 (hi.sep k nb _ _ hk hnb x (pb, po) hx hpb e)
    have q2 : ∀ y, β nm = some y → x.1 ≠ y.1 := fun y hy e => h1 (hi.sep k nm _ _ hk hn x y hx hy e)
    refine ⟨q1, q2, fun y hy e => ?_⟩
    rcases (hbo y hy).1 with z | z | ⟨u, z1, z2⟩
    · have := (hi.own k _ hk x hx).2; omega
    · exact q1 (e.trans z)
    · exact q2 u z1 (e.trans z2.symm)
  have hbl : ∀ k, k < w.heap.size → k ≠ pb → (∀ y, β nm = some y → k ≠ y.1) → w'.heap[k]? = w.heap[k]? := fun k hk h1 h2 => hg.blockX k hk (by
    rintro (q | ⟨x, q1, q2⟩)
    · exact h1 q
    · exact h2 x q1 q2.symm)
  have hh0 : ∀ k h, lookH ((nb, HB.mk rHd [(A', n', cap')]) :: (nm, HB.mk rt ys) :: st.heap) k = some h → (k = nb ∧ h = ⟨rHd, [(A', n', cap')]⟩) ∨ (k = nm ∧ h = ⟨rt, ys⟩) ∨ (k ≠ nb ∧ k ≠ nm ∧ lookH st.heap k = some h) := fun k h hh => by
    rw [lookH_cons] at hh
    split at hh
    · rename_i e; injection hh with hh; exact .inl ⟨e.symm, hh.symm⟩
    · rename_i e1
      rw [lookH_cons] at hh
      split at hh
      · rename_i e; injection hh with hh; exact .inr (.inl ⟨e.symm, hh.symm⟩)
      · rename_i e2; exact .inr (.inr ⟨fun e => e1 e.symm, fun e => e2 e.symm, hh⟩)
  have hβo : ∀ k, k ≠ nm → (fun q => if q = nm then bo else β q : Loc) k = β k := fun k h => by simp [h]
  have hβn : (fun q => if q = nm then bo else β q : Loc) nm = bo := by simp
  generalize hβ' : (fun q => if q = nm then bo else β q : Loc) = β' at *
  have hpb' : β' nb = some (pb, po) := (hβo nb hne).trans hpb
  have hok : ∀ b', okOf cx st.heap β w b' → okOf cx ((nb, ⟨rHd, [(A', n', cap')]⟩) :: (nm, ⟨rt, ys⟩) :: st.heap) β' w' b' ∧ w'.heap[b']? = w.heap[b']? := by
    rintro b' ⟨h1, h2, h3⟩
    have z1 : b' ≠ pb := fun e => h3 nb _ hnb _ hpb e.symm
    have z2 : ∀ y, β nm = some y → b' ≠ y.1 := fun y hy e => h3 nm _ hn y hy e.symm
    refine ⟨⟨h1, Nat.lt_of_lt_of_le h2 hg.size, fun k hb' hk x hx => ?_⟩, hbl b' h2 z1 z2⟩
    rcases hh0 k hb' hk with ⟨rfl, _⟩ | ⟨rfl, _⟩ | ⟨q1, q2, hk⟩
    · rw [hpb'] at hx; injection hx with hx; subst hx; exact fun e => z1 e.symm
    · rw [hβn] at hx
      intro e
      rcases (hbo x hx).1 with z | z | ⟨u, y1, y2⟩
      · omega
      · exact z1 (e.symm.trans z)
      · exact z2 u y1 (e.symm.trans y2.symm)
    · rw [hβo k q2] at hx; exact h3 k hb' hk x hx
  have hok2 : ∀ q, (okR (Cx.mk w (okOf cx st.heap β w) 0 (fun q => q = pb ∨ ∃ x, β nm = some x ∧ x.1 = q)) w' q ∧ q ≠ pb ∧ outOf bo q) → okOf cx ((nb, ⟨rHd, [(A', n', cap')]⟩) :: (nm, ⟨rt, ys⟩) :: st.heap) β' w' q ∧ w'.heap[q]? = w'.heap[q]? := fun q hq => by
    refine ⟨?_, rfl⟩
    have hnk : cx.ok0 q ∨ cx.new q := by
      rcases hq.1.1 with z | z | z
      · exact z.1
      · exact .inr (.inl (Nat.le_trans hi.below.size z))
      · rcases z with z | ⟨u, z1, z2⟩
        · exact absurd z hq.2.1
        · exact .inr (z2 ▸ (hi.own nm _ hn u z1).1)
    refine ⟨hnk, hq.1.2, fun k hb' hk x hx e1 => ?_⟩
    rcases hh0 k hb' hk with ⟨rfl, _⟩ | ⟨rfl, _⟩ | ⟨q1, q2, hk⟩
    · rw [hpb'] at hx; injection hx with hx; subst hx; exact hq.2.1 e1.symm
    · rw [hβn] at hx; exact hq.2.2 x hx e1
    · rw [hβo k q2] at hx
      rcases hq.1.1 with z | z | z
      · exact z.2.2 k _ hk x hx e1
      · have := (hi.own k _ hk x hx).2
        have z : w.heap.size ≤ q := z
        omega
      · rcases z with z | ⟨u, z1, z2⟩
        · exact hq.2.1 z
        · exact (hothers k _ hk q2 q1 x hx).2.1 u z1 (e1.trans z2.symm)
  obtain ⟨bx1, bx2, bx3⟩ := hbx
  refine ⟨⟨hg.os.trans hi.below.os, hg.tape.trans hi.below.tape, hg.output.trans hi.below.output, Nat.le_trans hi.below.size hg.size, fun k hk hx => ?_, Nat.le_trans hi.below.drawn hg.drawn⟩, hi.old, hi.defers, hi.size, fun k hb' hk x hx => ?_, fun k k' h1 h2 hk hk' x y hx hy hxy => ?_, fun k hb' hk => ?_, fun i t hs' => ?_⟩
  · refine (hbl k (Nat.lt_of_lt_of_le hk hi.below.size) ?_ ?_).trans (hi.below.blockX k hk hx)
    · rintro rfl
      rcases hownb.1 with q | q
      · simp only at q; omega
      · exact hx q
    · rintro y hy rfl
      rcases (hi.own nm _ hn y hy).1 with q | q
      · omega
      · exact hx q
  · rcases hh0 k hb' hk with ⟨rfl, _⟩ | ⟨rfl, _⟩ | ⟨q1, q2, hk⟩
    · rw [hpb'] at hx; injection hx with hx; subst hx; exact ⟨hownb.1, Nat.lt_of_lt_of_le hownb.2 hg.size⟩
    · rw [hβn] at hx
      refine ⟨?_, (hbo x hx).2.1⟩
      rcases (hbo x hx).1 with z | z | ⟨u, y1, y2⟩
      · exact .inl (Nat.le_trans hi.below.size z)
      · exact absurd z (hbo x hx).2.2
      · exact y2 ▸ (hi.own _ _ hn u y1).1
    · rw [hβo k q2] at hx
      have := hi.own k hb' hk x hx
      exact ⟨this.1, Nat.lt_of_lt_of_le this.2 hg.size⟩
  · rcases hh0 k _ hk with ⟨rfl, _⟩ | ⟨rfl, _⟩ | ⟨q1, q2, hk3⟩ <;> rcases hh0 k' _ hk' with ⟨rfl, _⟩ | ⟨rfl, _⟩ | ⟨q3, q4, hk4⟩
    · rfl
    · rw [hpb'] at hx; injection hx with hx; subst hx; rw [hβn] at hy; exact absurd hxy.symm (hbo y hy).2.2
    · rw [hpb'] at hx; injection hx with hx; subst hx; rw [hβo k' q4] at hy; exact absurd hxy.symm (hothers k' _ hk4 q4 q3 y hy).1
    · rw [hpb'] at hy; injection hy with hy; subst hy; rw [hβn] at hx; exact absurd hxy (hbo x hx).2.2
    · rfl
    · rw [hβn] at hx; rw [hβo k' q4] at hy; exact absurd hxy.symm ((hothers k' _ hk4 q4 q3 y hy).2.2 x hx)
    · rw [hpb'] at hy; injection hy with hy; subst hy; rw [hβo k q2] at hx; exact absurd hxy (hothers k _ hk3 q2 q1 x hx).1
    · rw [hβn] at hy; rw [hβo k q2] at hx; exact absurd hxy ((hothers k _ hk3 q2 q1 x hx).2.2 y hy)
    · rw [hβo k q2] at hx; rw [hβo k' q4] at hy; exact hi.sep k k' _ _ hk3 hk4 x y hx hy hxy
  · rcases hh0 k _ hk with ⟨rfl, rfl⟩ | ⟨rfl, rfl⟩ | ⟨q1, q2, hk⟩
    · rw [hpb']
      exact HB.keep (hb := ⟨rHd, [(A', n', cap')]⟩) (l := some (pb, po)) hok2 (fun _ _ => rfl) ⟨fun _ => bx1, fun hm => by cases hm⟩
    · rw [hβn]; exact HB.keep hok2 (fun _ _ => rfl) bx2
    · rw [hβo k q2]
      exact HB.keep hok (fun x hx => hbl _ (hi.own k _ hk x hx).2 (hothers k _ hk q2 q1 x hx).1 (hothers k _ hk q2 q1 x hx).2.1) (hi.rows k _ hk)
  · rw [lookS_cons] at hs'
    split at hs'
    · rename_i e; subst e; injection hs' with hs'; subst hs'
      obtain ⟨v, h1, h2, _⟩ := hi.slots _ _ hc0
      refine ⟨v, h1, hs.holds (hβo nb hne) h2, ?_⟩
      simp only [SV.holds]
      exact hdr_keep (β := fun _ => bo) ⟨hβn, fun b o hb cur e fr hc => ⟨cur, e, fr, hc, rfl⟩⟩ bx3
    · obtain ⟨hs0, hw⟩ := hk.look i t hs'
      obtain ⟨v, h1, h2⟩ := hi.slots i t hs0
      refine ⟨v, h1, SV.keep hok (fun k hkf => ?_) h2⟩
      have hmem := SV.within_mem hw hkf
      have := List.all_eq_true.1 hR k hmem
      simp only [Bool.and_eq_true, Bool.not_eq_true'] at this
      have z1 : k ≠ nm := fun e => by subst e; simp at this
      have z2 : k ≠ nb := fun e => by subst e; simp at this
      cases hlk : lookH st.heap k with
      | none => rw [hlk] at this; simp at this
      | some hb2 =>
        refine ⟨hβo k z1, fun b1 o1 hbo1 cur e fr hc => ⟨cur, e, fr, ?_, rfl⟩⟩
        have hz := hothers k _ hlk z1 z2 (b1, o1) hbo1
        rw [hbl b1 (InvB.cell_lt hc) hz.1 hz.2.1]; exact hc

omit [NM rt] in
/-- a call that is given a pointer to the variable that holds the row's head -/
theorem jg_callP {rest : List Oper} {kf : FuncId} {nb nm c0 n cap d : Nat} {A : Option Addr} {xs : List α} {Q : List α → Prop} {ss : List SV} {rr s s' : SV} {x : Operand} {xo : List Operand} {ts : Array TypeId} (R ks : List Nat) {r : List (Nat × SV)} (h : CtP P kf rt xs Q ss rr)
    (hx : Ev st x s') (hs' : boxS nb s') (hc0 : lookS st.slots c0 = some (.lnk s (.slice A n cap) (.own nm rt.n 0 n))) (hs : boxS nb s) (hnb : lookH st.heap nb = some ⟨rHd, [(A, n, cap)]⟩) (hn : lookH st.heap nm = some ⟨rt, xs⟩) (hne : Nat.beq nb nm = false) (hfull : n = xs.length) (ha : Args st xo ss) (hp : (ss.all SV.plain) = true) (hr : rr.plain = true) (hd : Nat.blt d cx.n = true)
    (hR : (R.all fun k => !Nat.beq k nm && !Nat.beq k nb && (lookH st.heap k).isSome) = true) (hk : KeepP R st.slots ks r)
    (hnext : ∀ ys A' cap', Q ys → JG P cx ops ⟨(d, rr) :: (c0, .lnk s (.slice A' ys.length cap') (.own nm rt.n 0 ys.length)) :: r, (nb, ⟨rHd, [(A', ys.length, cap')]⟩) :: (nm, ⟨rt, ys⟩) :: st.heap⟩ rest k) :
    JG P cx ops st (⟨some d, .call { callee := .value (.func kf), args := (x :: xo).toArray, argTypes := ts }, ty, pos, aft, none⟩ :: rest) k := by
  rintro a w ⟨β, hi⟩
  have hne : nb ≠ nm := fun e => by subst e; simp at hne
  refine wpList_plain rfl fun K hK => ?_
  have hrun : (execOp a.eval ⟨some d, .call { callee := .value (.func kf), args := (x :: xo).toArray, argTypes := ts }, ty, pos, aft, none⟩).run P w = .ok (.enter kf ((x :: xo).map a.eval).toArray) w := by
    simp [execOp, resolve, Act.eval, Deferred.ofValue, invoke, h.ent]
  unfold Oper.wp
  rw [hrun, Oper.upon_enter]
  obtain ⟨pb, po, hβ, e2⟩ := hs'.at (hi.ev hx)
  obtain ⟨v0, _, hv0, hhd⟩ := hi.slots c0 _ hc0
  have hargs := ha.holds (fun _ _ => rfl) hi hp
  have hpb := hi.own nb _ hnb _ hβ
  have hnok : ¬ okOf cx st.heap β w pb := fun q => q.2.2 nb _ hnb _ hβ rfl
  have hrow : RowRep rHd w (okOf cx st.heap β w) pb po [(A, n, cap)] := by
    have := hi.rows nb _ hnb
    rw [hβ] at this; exact this.1 rfl
  rw [List.map_cons, e2]
  subst hfull
  refine (h.calls w (okOf cx st.heap β w) pb po A cap (β nm) _ (fun _ hb => hb.2.1) hnok hpb.2 (fun y hy => ⟨fun q => q.2.2 nm _ hn y hy rfl, fun e => hne (hi.sep nb nm _ _ hnb hn (pb, po) y hβ hy e.symm), (hi.own nm _ hn y hy).2⟩)
    ⟨hrow, hi.rows nm _ hn, (show hdr (fun _ => β nm) w 101 rt.n 0 xs.length (.slice A xs.length cap) from hhd)⟩ hargs).mono ?_
  rintro e0 w' ⟨v, rfl, hb, ys, A', n', cap', bo, q0, rfl, q2, q3, q4⟩
  have hi' := hi.turnP hne hR hnb hn hβ hc0 hs hk hb (fun y hy => ⟨(q2 y hy).1, (q2 y hy).2.1, (q2 y hy).2.2⟩) q3
  refine hK _ _ (hnext ys A' cap' q0 _ _ ⟨_, hi'.put (by simpa using hd) (SV.plain_keep hr (fun q hq => ⟨?_, rfl⟩) q4)⟩)
  have hnk : cx.ok0 q ∨ cx.new q := by
    rcases hq.1.1 with z | z | z
    · exact z.1
    · exact .inr (.inl (Nat.le_trans hi.below.size z))
    · rcases z with z | ⟨u, z1, z2⟩
      · exact absurd z hq.2.1
      · exact .inr (z2 ▸ (hi.own nm _ hn u z1).1)
  refine ⟨hnk, hq.1.2, fun k' hb' hk' y hy e1 => ?_⟩
  rw [lookH_cons] at hk'
  split at hk'
  · rename_i e; subst e
    simp only [if_neg hne] at hy
    rw [hβ] at hy; injection hy with hy; subst hy; exact hq.2.1 e1.symm
  · rename_i z1
    rw [lookH_cons] at hk'
    split at hk'
    · rename_i e; subst e
      simp only [if_pos] at hy
      exact hq.2.2 y hy e1
    · rename_i z2
      simp only [if_neg (Ne.symm z2)] at hy
      rcases hq.1.1 with z | z | z
      · exact z.2.2 k' _ hk' y hy e1
      · have := (hi.own k' _ hk' y hy).2
        have z : w.heap.size ≤ q := z
        omega
      · rcases z with z | ⟨u, y1, y2⟩
        · exact hq.2.1 z
        · exact z2 (hi.sep nm k' _ _ hn hk' u y y1 hy (y2.trans e1.symm))
end
end Go.Eng
