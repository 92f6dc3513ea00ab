import Derived.Test.YtemcooggkcneiaaEngZ
import Derived.Test.YtemcooggkcneiaaEngQ
namespace Go.Eng
set_option linter.unusedSimpArgs false
set_option linter.unusedVariables false
/-! ### functions that are given a variable that holds a row's head: by a pointer, in an interface, or by the head itself -/
section
variable {P : Program} {cx : Cx} {st st' : St} {β : Loc} {a : Act} {w w' : World} {ops : Array Oper} {k : Kn} {c : Code}
variable {dst : Option Tmp} {ty : TypeId} {pos : String} {aft : Array Edge} {gd : Option (Nat × Bool)}
variable {α : Type} {rt : RT α} [NM rt]
/-- a slot that says where the variable lies and which head it holds; its own value is u -/
def Is0 (nb nm sz pb po : Nat) (A : Option Addr) (n cap : Nat) (u : Value) (s : SV) : Prop :=
  ∀ (β : Loc) (w : World) (ok : Ok) (v : Value), s.holds β w ok v ↔ (β nb = some (pb, po) ∧ hdr β w nm sz 0 n (.slice A n cap) ∧ v = u)
abbrev svPtr (nb nm sz pb po : Nat) (A : Option Addr) (n cap : Nat) : SV := .lnk (.both (.optr nb 1 0 0) (ptrAt pb po)) (.slice A n cap) (.own nm sz 0 n)
abbrev svIfc (T : TypeId) (nb nm sz pb po : Nat) (A : Option Addr) (n cap : Nat) : SV := .lnk (.lnk (.raw (.iface T (ptrAt pb po))) (ptrAt pb po) (.optr nb 1 0 0)) (.slice A n cap) (.own nm sz 0 n)
abbrev svHead (nb nm sz pb po : Nat) (A : Option Addr) (n cap : Nat) : SV := .lnk (.both (.own nm sz 0 n) (.slice A n cap)) (ptrAt pb po) (.optr nb 1 0 0)
theorem optr_ptr {nb pb po : Nat} {ok : Ok} : (SV.optr nb 1 0 0).holds β w ok (ptrAt pb po) ↔ β nb = some (pb, po) := by
  constructor
  · rintro ⟨b, o, e1, e2⟩
    have e2 : (ptrAt pb po : Value) = .pointer (some ⟨b, o + 0 * 1 + 0, none⟩) := e2
    have e2 : some (⟨pb, po, none⟩ : Addr) = some ⟨b, o + 0 * 1 + 0, none⟩ := by injection e2
    have e5 : pb = b ∧ po = o := by injection e2 with e2; injection e2 with q1 q2; simp at q2; exact ⟨q1, q2⟩
    obtain ⟨rfl, rfl⟩ := e5
    exact e1
  · intro h; exact ⟨pb, po, h, by simp [ptrAt]⟩
theorem is0_ptr {nb nm sz pb po : Nat} {A : Option Addr} {n cap : Nat} : Is0 nb nm sz pb po A n cap (ptrAt pb po) (svPtr nb nm sz pb po A n cap) := fun β w ok v => by
  constructor
  · rintro ⟨⟨h1, h2⟩, h3⟩
    subst h2
    exact ⟨optr_ptr.1 h1, h3, rfl⟩
  · rintro ⟨h1, h2, rfl⟩
    exact ⟨⟨optr_ptr.2 h1, rfl⟩, h2⟩
theorem is0_ifc {T : TypeId} {nb nm sz pb po : Nat} {A : Option Addr} {n cap : Nat} : Is0 nb nm sz pb po A n cap (.iface T (ptrAt pb po)) (svIfc T nb nm sz pb po A n cap) := fun β w ok v => by
  constructor
  · rintro ⟨⟨h1, h2⟩, h3⟩
    exact ⟨optr_ptr.1 h2, h3, h1⟩
  · rintro ⟨h1, h2, rfl⟩
    exact ⟨⟨rfl, optr_ptr.2 h1⟩, h2⟩
theorem is0_head {nb nm sz pb po : Nat} {A : Option Addr} {n cap : Nat} : Is0 nb nm sz pb po A n cap (.slice A n cap) (svHead nb nm sz pb po A n cap) := fun β w ok v => by
  constructor
  · rintro ⟨⟨h1, h2⟩, h3⟩
    subst h2
    exact ⟨optr_ptr.1 h3, h1, rfl⟩
  · rintro ⟨h1, h2, rfl⟩
    exact ⟨⟨h2, rfl⟩, optr_ptr.2 h1⟩
structure CtI (P : Program) (kf : FuncId) {α : Type} (rt : RT α) (u : Nat → Nat → Option Addr → Nat → Nat → Value) (xs : List α) (Q : List α → Prop) (ss : List SV) (r : SV) : Prop where
  ent : ∀ w args, (callFunc kf args).run P w = .ok (.enter kf args) w
  calls : ∀ (w : World) (ok0 : Ok) (pb po : Nat) (A : Option Addr) (cap : Nat) (bo : Option (Nat × Nat)) (vs : List Value), (∀ b', ok0 b' → b' < w.heap.size) → ¬ ok0 pb → pb < w.heap.size →
    (∀ x, bo = some x → ¬ ok0 x.1 ∧ x.1 ≠ pb ∧ x.1 < w.heap.size) → boxed rt w ok0 pb po A xs.length cap bo xs → HoldsAll w ok0 ss vs →
    Calls P kf ((u pb po A xs.length cap :: vs).toArray) w (RetP ⟨w, ok0, 0, fun q => q = pb ∨ ∃ x, bo = some x ∧ x.1 = q⟩ pb po rt Q r)
abbrev uPtr (pb po : Nat) (_ : Option Addr) (_ _ : Nat) : Value := ptrAt pb po
abbrev uIfc (T : TypeId) (pb po : Nat) (_ : Option Addr) (_ _ : Nat) : Value := .iface T (ptrAt pb po)
abbrev uHead (_ _ : Nat) (A : Option Addr) (n cap : Nat) : Value := .slice A n cap

omit [NM rt] in
theorem ctI_intro {kf : FuncId} {fn : Func} {c : Code} {xs : List α} {Q : List α → Prop} {ss : List SV} {r : SV} {u : Nat → Nat → Option Addr → Nat → Nat → Value} (sv : Nat → Nat → Option Addr → Nat → Nat → SV) (hsv : ∀ pb po A n cap, Is0 100 101 rt.n pb po A n cap (u pb po A n cap) (sv pb po A n cap)) (hf : P.funcs[kf]? = some fn) (hb : fn.body = some c) (hn : (fn.name == "runtime.NumGoroutine") = false) {m : Nat} (hm : fn.ntmps = m) (hlen : Nat.ble (ss.length + 1) m = true)
    (hp : (ss.all SV.plain) = true)
    (h : ∀ (w0 : World) (ok0 : Ok) (pb po : Nat) (A : Option Addr) (cap : Nat) (ex : Nat → Prop), J P ⟨w0, ok0, m, ex⟩ ⟨(0, sv pb po A xs.length cap) :: slots0 1 ss, [(100, ⟨rHd, [(A, xs.length, cap)]⟩), (101, ⟨rt, xs⟩)]⟩ c
      (.fin fn (RetP ⟨w0, ok0, m, ex⟩ pb po rt Q r))) : CtI P kf rt u xs Q ss r := by
  refine ⟨callFunc_enter hf hb hn, fun w ok0 pb po A cap bo vs hok hnp hps hbo hbx hh => ?_⟩
  have hl := holdsAll_len hh
  have hlen' : ss.length + 1 ≤ m := by simpa using hlen
  refine calls_of_wp hf hb ?_
  have := h w ok0 pb po A cap (fun q => q = pb ∨ ∃ x, bo = some x ∧ x.1 = q) { tmps := (u pb po A xs.length cap :: vs).toArray ++ Array.replicate (fn.ntmps - (u pb po A xs.length cap :: vs).toArray.size) undef, defers := [] } w ⟨fun q => if q = 100 then some (pb, po) else if q = 101 then bo else none, ?_⟩
  · exact wp_mono this fun e a w' hq => hq
  · have hlk : ∀ nm hb, lookH [(100, HB.mk rHd [(A, xs.length, cap)]), (101, HB.mk rt xs)] nm = some hb → (nm = 100 ∧ hb = ⟨rHd, [(A, xs.length, cap)]⟩) ∨ (nm = 101 ∧ hb = ⟨rt, xs⟩) := fun nm hb hh => by
      rw [lookH_cons] at hh
      split at hh
      · rename_i e; injection hh with hh; exact .inl ⟨e.symm, hh.symm⟩
      · rw [lookH_cons] at hh
        split at hh
        · rename_i e; injection hh with hh; exact .inr ⟨e.symm, hh.symm⟩
        · simp [lookH] at hh
    have hkk : ∀ b', ok0 b' → okOf ⟨w, ok0, m, fun q => q = pb ∨ ∃ x, bo = some x ∧ x.1 = q⟩ [(100, HB.mk rHd [(A, xs.length, cap)]), (101, HB.mk rt xs)] (fun q => if q = 100 then some (pb, po) else if q = 101 then bo else none) w b' ∧ w.heap[b']? = w.heap[b']? := fun b' hb' =>
      ⟨⟨.inl hb', hok b' hb', fun nm hb hh x hx => by
        rcases hlk nm hb hh with ⟨rfl, rfl⟩ | ⟨rfl, rfl⟩
        · simp at hx; subst hx; intro e; exact hnp (by rw [show pb = b' from e]; exact hb')
        · simp at hx; intro e; exact (hbo x hx).1 (by rw [e]; exact hb')⟩, rfl⟩
    obtain ⟨hb1, hb2, hb3⟩ := hbx
    refine ⟨(Below.refl _ _).toX, hok, rfl, by simp [hm, hl]; omega, fun nm hb hh x hx => ?_, fun nm nm' hb hb' hh hh' x y hx hy hxy => ?_, fun nm hb hh => ?_, fun i s hs => ?_⟩
    · rcases hlk nm hb hh with ⟨rfl, rfl⟩ | ⟨rfl, rfl⟩
      · simp at hx; subst hx; exact ⟨.inr (.inl rfl), hps⟩
      · simp at hx; exact ⟨.inr (.inr ⟨x, hx, rfl⟩), (hbo x hx).2.2⟩
    · rcases hlk nm hb hh with ⟨rfl, rfl⟩ | ⟨rfl, rfl⟩ <;> rcases hlk nm' hb' hh' with ⟨rfl, rfl⟩ | ⟨rfl, rfl⟩
      · rfl
      · simp at hx hy; subst hx; exact absurd hxy.symm (hbo y hy).2.1
      · simp at hx hy; subst hy; exact absurd hxy (hbo x hx).2.1
      · rfl
    · rcases hlk nm hb hh with ⟨rfl, rfl⟩ | ⟨rfl, rfl⟩
      · simp only [if_pos]
        exact HB.keep (hb := ⟨rHd, [(A, xs.length, cap)]⟩) (l := some (pb, po)) hkk (fun _ _ => rfl) ⟨fun _ => hb1, fun hm => by cases hm⟩
      · simp only [show (101 : Nat) ≠ 100 by decide, if_neg, if_pos, not_false_iff]
        exact HB.keep hkk (fun _ _ => rfl) hb2
    · rw [lookS_cons] at hs
      split at hs
      · rename_i e; subst e; injection hs with hs; subst hs
        refine ⟨u pb po A xs.length cap, by rw [Array.getElem?_append_left (by simp)]; rfl, (hsv _ _ _ _ _ _ _ _ _).2 ⟨by simp, ?_, rfl⟩⟩
        exact hdr_keep (β := fun _ => bo) ⟨by simp, fun b o hb cur e fr hc => ⟨cur, e, fr, hc, rfl⟩⟩ hb3
      · obtain ⟨j, rfl, hj⟩ := slots0_look hs
        obtain ⟨v, h1, h2⟩ := holdsAll_at hh hj
        have hjl : j < vs.length := (List.getElem?_eq_some_iff.1 h1).1
        have hps' : s.plain = true := List.all_eq_true.1 hp s (List.mem_of_getElem? hj)
        exact ⟨v, by rw [Array.getElem?_append_left (by simp; omega)]; simp [Nat.add_comm 1 j, h1], SV.plain_keep hps' hkk h2⟩

omit [NM rt] in
/-- what the variable and its row are at the end -/
theorem fin_boxedI {pb po s0 : Nat} {A : Option Addr} {n cap : Nat} {xs : List α} {Q : List α → Prop} (hi : InvB cx st β a w) {sv : SV} {u : Value} (hm : lookS st.slots s0 = some sv) (his : Is0 100 101 rt.n pb po A n cap u sv) (h0 : lookH st.heap 100 = some ⟨rHd, [(A, n, cap)]⟩) (hn : lookH st.heap 101 = some ⟨rt, xs⟩) (hl : n = xs.length) (hQ : Q xs) :
    (∃ ys A n cap bo, Q ys ∧ n = ys.length ∧ (∀ x, bo = some x → cx.new x.1 ∧ x.1 < w.heap.size ∧ x.1 ≠ pb) ∧ boxed rt w (fun q => okR cx w q ∧ q ≠ pb ∧ outOf bo q) pb po A n cap bo ys ∧ ∀ q, okOf cx st.heap β w q → okR cx w q ∧ q ≠ pb ∧ outOf bo q) := by
  obtain ⟨v, _, e0⟩ := hi.slots s0 _ hm
  obtain ⟨e1, e4, _⟩ := (his _ _ _ _).1 e0
  have hk : ∀ q, okOf cx st.heap β w q → okR cx w q ∧ q ≠ pb ∧ outOf (β 101) q := fun q hq => ⟨okOf_okR hq, fun e => hq.2.2 100 _ h0 _ e1 e.symm, fun x hx => hq.2.2 101 _ hn x hx⟩
  have hkk : ∀ q, okOf cx st.heap β w q → (okR cx w q ∧ q ≠ pb ∧ outOf (β 101) q) ∧ w.heap[q]? = w.heap[q]? := fun q hq => ⟨hk q hq, rfl⟩
  refine ⟨xs, A, n, cap, β 101, hQ, hl, fun x hx => ?_, ⟨?_, ?_, ?_⟩, hk⟩
  · have := hi.own 101 _ hn x hx
    exact ⟨this.1, this.2, fun e => absurd (hi.sep 101 100 _ _ hn h0 x (pb, po) hx e1 e) (by decide)⟩
  · have hr := hi.rows 100 _ h0
    rw [e1] at hr
    obtain ⟨cur, e, g1, g2, g3⟩ := hr.1 rfl
    refine ⟨cur, e, g1, g2, fun i x hx => ?_⟩
    obtain ⟨cs, g4, g5⟩ := g3 i x hx
    exact ⟨cs, rHd.keep hkk g4, g5⟩
  · exact HB.keep hkk (fun _ _ => rfl) (hi.rows 101 _ hn)
  · exact hdr_keep (β := β) ⟨rfl, fun b o hb cur e fr hc => ⟨cur, e, fr, hc, rfl⟩⟩ e4
omit [NM rt] in
theorem jn_finI0 {fn : Func} {pb po s0 : Nat} {A : Option Addr} {n cap : Nat} {xs : List α} {Q : List α → Prop} (hr : fn.results = #[]) {sv : SV} {u : Value} (hm : lookS st.slots s0 = some sv) (his : Is0 100 101 rt.n pb po A n cap u sv) (h0 : lookH st.heap 100 = some ⟨rHd, [(A, n, cap)]⟩) (hn : lookH st.heap 101 = some ⟨rt, xs⟩) (hl : n = xs.length) (hQ : Q xs) :
    JN P cx st (.fin fn (RetP cx pb po rt Q (.raw (.tuple #[])))) := by
  rintro a w ⟨β, hi⟩
  obtain ⟨ys, A', n', cap', bo, g1, g2, g3, g4, _⟩ := fin_boxedI hi hm his h0 hn hl hQ
  refine ⟨hi.defers, .tuple #[], ?_, _, rfl, hi.below, ys, A', n', cap', bo, g1, g2, g3, g4, rfl⟩
  simp [results_eq, hr]
omit [NM rt] in
theorem jr_finI1 {fn : Func} {v0 : ResultVar} {s r : SV} {pb po s0 : Nat} {A : Option Addr} {n cap : Nat} {xs : List α} {Q : List α → Prop} (hr : fn.results = #[v0]) (hs0 : Res P cx st v0 s) (hp : s.plain = true) (e : s = r) {sv : SV} {u : Value} (hm : lookS st.slots s0 = some sv) (his : Is0 100 101 rt.n pb po A n cap u sv) (h0 : lookH st.heap 100 = some ⟨rHd, [(A, n, cap)]⟩) (hn : lookH st.heap 101 = some ⟨rt, xs⟩) (hl : n = xs.length) (hQ : Q xs) :
    JR P cx st (.fin fn (RetP cx pb po rt Q r)) := by
  rintro a w ⟨β, hi⟩
  subst e
  obtain ⟨v, h1, h2⟩ := hs0 β a w hi
  obtain ⟨ys, A', n', cap', bo, g1, g2, g3, g4, g5⟩ := fin_boxedI hi hm his h0 hn hl hQ
  refine ⟨hi.defers, v, ?_, v, rfl, hi.below, ys, A', n', cap', bo, g1, g2, g3, g4, SV.plain_keep hp (fun q hq => ⟨g5 q hq, rfl⟩) h2⟩
  simp [results_eq, hr, h1]

omit [NM rt] in
theorem InvB.turnI (hi : InvB cx st β a w) {nb nm c0 pb po n n' cap cap' : Nat} {A A' : Option Addr} {bo : Option (Nat × Nat)} {xs ys : List α} {u : Value} {s s' : SV} {r : List (Nat × SV)} {ks R : List Nat} (hne : nb ≠ nm)
    (hR : (R.all fun k => !Nat.beq k nm && !Nat.beq k nb && (lookH st.heap k).isSome) = true) (hnb : lookH st.heap nb = some ⟨rHd, [(A, n, cap)]⟩) (hn : lookH st.heap nm = some ⟨rt, xs⟩) 
    (hc0 : lookS st.slots c0 = some s) (hs : Is0 nb nm rt.n pb po A n cap u s) (hs' : Is0 nb nm rt.n pb po A' n' cap' u s') (hk : KeepP R st.slots ks r)
    (hg : BelowX (fun q => q = pb ∨ ∃ x, β nm = some x ∧ x.1 = q) w.heap.size w w')
    (hbo : ∀ x, bo = some x → ((w.heap.size ≤ x.1) ∨ (x.1 = pb ∨ ∃ y, β nm = some y ∧ y.1 = x.1)) ∧ x.1 < w'.heap.size ∧ x.1 ≠ pb)
    (hbx : boxed rt w' (fun q => okR (Cx.mk w (okOf cx st.heap β w) 0 (fun q => q = pb ∨ ∃ x, β nm = some x ∧ x.1 = q)) w' q ∧ q ≠ pb ∧ outOf bo q) pb po A' n' cap' bo ys) :
    InvB cx ⟨(c0, s') :: r, (nb, ⟨rHd, [(A', n', cap')]⟩) :: (nm, ⟨rt, ys⟩) :: st.heap⟩ (fun q => if q = nm then bo else β q) a w' := by
  have hpb : β nb = some (pb, po) := by obtain ⟨v, _, h2⟩ := hi.slots _ _ hc0; exact ((hs _ _ _ _).1 h2).1
  have hownb := hi.own nb _ hnb _ hpb
  have hothers : ∀ k hb', lookH st.heap k = some hb' → k ≠ nm → k ≠ nb → ∀ x, β k = some x → x.1 ≠ pb ∧ (∀ y, β nm = some y → x.1 ≠ y.1) ∧ ∀ y, bo = some y → x.1 ≠ y.1 := fun k hb' hk h1 h2 x hx => by
    have q1 : x.1 ≠ pb := fun e => h2 (hi.sep k nb _ _ hk hnb x (pb, po) hx hpb e)
    have q2 : ∀ y, β nm = some y → x.1 ≠ y.1 := fun y hy e => h1 (hi.sep k nm _ _ hk hn x y hx hy e)
    refine ⟨q1, q2, fun y hy e => ?_⟩
    rcases (hbo y hy).1 with z | z | ⟨u, z1, z2⟩
    · have := (hi.own k _ hk x hx).2; omega
    · exact q1 (e.trans z)
    · exact q2 u z1 (e.trans z2.symm)
  have hbl : ∀ k, k < w.heap.size → k ≠ pb → (∀ y, β nm = some y → k ≠ y.1) → w'.heap[k]? = w.heap[k]? := fun k hk h1 h2 => hg.blockX k hk (by
    rintro (q | ⟨x, q1, q2⟩)
    · exact h1 q
    · exact h2 x q1 q2.symm)
  have hh0 : ∀ k h, lookH ((nb, HB.mk rHd [(A', n', cap')]) :: (nm, HB.mk rt ys) :: st.heap) k = some h → (k = nb ∧ h = ⟨rHd, [(A', n', cap')]⟩) ∨ (k = nm ∧ h = ⟨rt, ys⟩) ∨ (k ≠ nb ∧ k ≠ nm ∧ lookH st.heap k = some h) := fun k h hh => by
    rw [lookH_cons] at hh
    split at hh
    · rename_i e; injection hh with hh; exact .inl ⟨e.symm, hh.symm⟩
    · rename_i e1
      rw [lookH_cons] at hh
      split at hh
      · rename_i e; injection hh with hh; exact .inr (.inl ⟨e.symm, hh.symm⟩)
      · rename_i e2; exact .inr (.inr ⟨fun e => e1 e.symm, fun e => e2 e.symm, hh⟩)
  have hβo : ∀ k, k ≠ nm → (fun q => if q = nm then bo else β q : Loc) k = β k := fun k h => by simp [h]
  have hβn : (fun q => if q = nm then bo else β q : Loc) nm = bo := by simp
  generalize hβ' : (fun q => if q = nm then bo else β q : Loc) = β' at *
  have hpb' : β' nb = some (pb, po) := (hβo nb hne).trans hpb
  have hok : ∀ b', okOf cx st.heap β w b' → okOf cx ((nb, ⟨rHd, [(A', n', cap')]⟩) :: (nm, ⟨rt, ys⟩) :: st.heap) β' w' b' ∧ w'.heap[b']? = w.heap[b']? := by
    rintro b' ⟨h1, h2, h3⟩
    have z1 : b' ≠ pb := fun e => h3 nb _ hnb _ hpb e.symm
    have z2 : ∀ y, β nm = some y → b' ≠ y.1 := fun y hy e => h3 nm _ hn y hy e.symm
    refine ⟨⟨h1, Nat.lt_of_lt_of_le h2 hg.size, fun k hb' hk x hx => ?_⟩, hbl b' h2 z1 z2⟩
    rcases hh0 k hb' hk with ⟨rfl, _⟩ | ⟨rfl, _⟩ | ⟨q1, q2, hk⟩
    · rw [hpb'] at hx; injection hx with hx; subst hx; exact fun e => z1 e.symm
    · rw [hβn] at hx
      intro e
      rcases (hbo x hx).1 with z | z | ⟨u, y1, y2⟩
      · omega
      · exact z1 (e.symm.trans z)
      · exact z2 u y1 (e.symm.trans y2.symm)
    · rw [hβo k q2] at hx; exact h3 k hb' hk x hx
  have hok2 : ∀ q, (okR (Cx.mk w (okOf cx st.heap β w) 0 (fun q => q = pb ∨ ∃ x, β nm = some x ∧ x.1 = q)) w' q ∧ q ≠ pb ∧ outOf bo q) → okOf cx ((nb, ⟨rHd, [(A', n', cap')]⟩) :: (nm, ⟨rt, ys⟩) :: st.heap) β' w' q ∧ w'.heap[q]? = w'.heap[q]? := fun q hq => by
    refine ⟨?_, rfl⟩
    have hnk : cx.ok0 q ∨ cx.new q := by
      rcases hq.1.1 with z | z | z
      · exact z.1
      · exact .inr (.inl (Nat.le_trans hi.below.size z))
      · rcases z with z | ⟨u, z1, z2⟩
        · exact absurd z hq.2.1
        · exact .inr (z2 ▸ (hi.own nm _ hn u z1).1)
    refine ⟨hnk, hq.1.2, fun k hb' hk x hx e1 => ?_⟩
    rcases hh0 k hb' hk with ⟨rfl, _⟩ | ⟨rfl, _⟩ | ⟨q1, q2, hk⟩
    · rw [hpb'] at hx; injection hx with hx; subst hx; exact hq.2.1 e1.symm
    · rw [hβn] at hx; exact hq.2.2 x hx e1
    · rw [hβo k q2] at hx
      rcases hq.1.1 with z | z | z
      · exact z.2.2 k _ hk x hx e1
      · have := (hi.own k _ hk x hx).2
        have z : w.heap.size ≤ q := z
        omega
      · rcases z with z | ⟨u, z1, z2⟩
        · exact hq.2.1 z
        · exact (hothers k _ hk q2 q1 x hx).2.1 u z1 (e1.trans z2.symm)
  obtain ⟨bx1, bx2, bx3⟩ := hbx
  refine ⟨⟨hg.os.trans hi.below.os, hg.tape.trans hi.below.tape, hg.output.trans hi.below.output, Nat.le_trans hi.below.size hg.size, fun k hk hx => ?_, Nat.le_trans hi.below.drawn hg.drawn⟩, hi.old, hi.defers, hi.size, fun k hb' hk x hx => ?_, fun k k' h1 h2 hk hk' x y hx hy hxy => ?_, fun k hb' hk => ?_, fun i t hs2 => ?_⟩
  · refine (hbl k (Nat.lt_of_lt_of_le hk hi.below.size) ?_ ?_).trans (hi.below.blockX k hk hx)
    · rintro rfl
      rcases hownb.1 with q | q
      · simp only at q; omega
      · exact hx q
    · rintro y hy rfl
      rcases (hi.own nm _ hn y hy).1 with q | q
      · omega
      · exact hx q
  · rcases hh0 k hb' hk with ⟨rfl, _⟩ | ⟨rfl, _⟩ | ⟨q1, q2, hk⟩
    · rw [hpb'] at hx; injection hx with hx; subst hx; exact ⟨hownb.1, Nat.lt_of_lt_of_le hownb.2 hg.size⟩
    · rw [hβn] at hx
      refine ⟨?_, (hbo x hx).2.1⟩
      rcases (hbo x hx).1 with z | z | ⟨u, y1, y2⟩
      · exact .inl (Nat.le_trans hi.below.size z)
      · exact absurd z (hbo x hx).2.2
      · exact y2 ▸ (hi.own _ _ hn u y1).1
    · rw [hβo k q2] at hx
      have := hi.own k hb' hk x hx
      exact ⟨this.1, Nat.lt_of_lt_of_le this.2 hg.size⟩
  · rcases hh0 k _ hk with ⟨rfl, _⟩ | ⟨rfl, _⟩ | ⟨q1, q2, hk3⟩ <;> rcases hh0 k' _ hk' with ⟨rfl, _⟩ | ⟨rfl, _⟩ | ⟨q3, q4, hk4⟩
    · rfl
    · rw [hpb'] at hx; injection hx with hx; subst hx; rw [hβn] at hy; exact absurd hxy.symm (hbo y hy).2.2
    · rw [hpb'] at hx; injection hx with hx; subst hx; rw [hβo k' q4] at hy; exact absurd hxy.symm (hothers k' _ hk4 q4 q3 y hy).1
    · rw [hpb'] at hy; injection hy with hy; subst hy; rw [hβn] at hx; exact absurd hxy (hbo x hx).2.2
    · rfl
    · rw [hβn] at hx; rw [hβo k' q4] at hy; exact absurd hxy.symm ((hothers k' _ hk4 q4 q3 y hy).2.2 x hx)
    · rw [hpb'] at hy; injection hy with hy; subst hy; rw [hβo k q2] at hx; exact absurd hxy (hothers k _ hk3 q2 q1 x hx).1
    · rw [hβn] at hy; rw [hβo k q2] at hx; exact absurd hxy ((hothers k _ hk3 q2 q1 x hx).2.2 y hy)
    · rw [hβo k q2] at hx; rw [hβo k' q4] at hy; exact hi.sep k k' _ _ hk3 hk4 x y hx hy hxy
  · rcases hh0 k _ hk with ⟨rfl, rfl⟩ | ⟨rfl, rfl⟩ | ⟨q1, q2, hk⟩
    · rw [hpb']
      exact HB.keep (hb := ⟨rHd, [(A', n', cap')]⟩) (l := some (pb, po)) hok2 (fun _ _ => rfl) ⟨fun _ => bx1, fun hm => by cases hm⟩
    · rw [hβn]; exact HB.keep hok2 (fun _ _ => rfl) bx2
    · rw [hβo k q2]
      exact HB.keep hok (fun x hx => hbl _ (hi.own k _ hk x hx).2 (hothers k _ hk q2 q1 x hx).1 (hothers k _ hk q2 q1 x hx).2.1) (hi.rows k _ hk)
  · rw [lookS_cons] at hs2
    split at hs2
    · rename_i e; subst e; injection hs2 with hs2; subst hs2
      obtain ⟨v, h1, h2⟩ := hi.slots _ _ hc0
      refine ⟨v, h1, (hs' _ _ _ _).2 ⟨hpb', ?_, ((hs _ _ _ _).1 h2).2.2⟩⟩
      exact hdr_keep (β := fun _ => bo) ⟨hβn, fun b o hb cur e fr hc => ⟨cur, e, fr, hc, rfl⟩⟩ bx3
    · obtain ⟨hs0, hw⟩ := hk.look i t hs2
      obtain ⟨v, h1, h2⟩ := hi.slots i t hs0
      refine ⟨v, h1, SV.keep hok (fun k hkf => ?_) h2⟩
      have hmem := SV.within_mem hw hkf
      have := List.all_eq_true.1 hR k hmem
      simp only [Bool.and_eq_true, Bool.not_eq_true'] at this
      have z1 : k ≠ nm := fun e => by subst e; simp at this
      have z2 : k ≠ nb := fun e => by subst e; simp at this
      cases hlk : lookH st.heap k with
      | none => rw [hlk] at this; simp at this
      | some hb2 =>
        refine ⟨hβo k z1, fun b1 o1 hbo1 cur e fr hc => ⟨cur, e, fr, ?_, rfl⟩⟩
        have hz := hothers k _ hlk z1 z2 (b1, o1) hbo1
        rw [hbl b1 (InvB.cell_lt hc) hz.1 hz.2.1]; exact hc

omit [NM rt] in
/-- a call that is given, in one way or another, the variable that holds the row's head -/
theorem jg_callI {rest : List Oper} {o : Oper} {kf : FuncId} {nb nm c0 n cap d pb po : Nat} {A : Option Addr} {xs : List α} {Q : List α → Prop} {ss : List SV} {rr : SV} (sF : Option Addr → Nat → Nat → SV) {u0 : Value} {u : Nat → Nat → Option Addr → Nat → Nat → Value} {xo : List Operand} (R ks : List Nat) {r : List (Nat × SV)} (h : CtI P kf rt u xs Q ss rr)
    (hg : o.guard = none) (hd0 : o.dst = some d) (hc0 : lookS st.slots c0 = some (sF A n cap)) (his : ∀ A n cap, Is0 nb nm rt.n pb po A n cap u0 (sF A n cap))
    (hrun : ∀ (β : Loc) (a : Act) (w : World), InvB cx st β a w → (execOp a.eval o).run P w = .ok (.enter kf ((u pb po A n cap :: xo.map a.eval).toArray)) w)
    (hnb : lookH st.heap nb = some ⟨rHd, [(A, n, cap)]⟩) (hn : lookH st.heap nm = some ⟨rt, xs⟩) (hne : Nat.beq nb nm = false) (hfull : n = xs.length) (ha : Args st xo ss) (hp : (ss.all SV.plain) = true) (hr : rr.plain = true) (hd : Nat.blt d cx.n = true)
    (hR : (R.all fun k => !Nat.beq k nm && !Nat.beq k nb && (lookH st.heap k).isSome) = true) (hk : KeepP R st.slots ks r)
    (hnext : ∀ ys A' cap', Q ys → JG P cx ops ⟨(d, rr) :: (c0, sF A' ys.length cap') :: r, (nb, ⟨rHd, [(A', ys.length, cap')]⟩) :: (nm, ⟨rt, ys⟩) :: st.heap⟩ rest k) :
    JG P cx ops st (o :: rest) k := by
  rintro a w ⟨β, hi⟩
  have hne : nb ≠ nm := fun e => by subst e; simp at hne
  refine wpList_plain hg fun K hK => ?_
  unfold Oper.wp
  rw [hrun β a w hi, Oper.upon_enter, hd0] at *
  obtain ⟨v0, _, e0⟩ := hi.slots c0 _ hc0
  obtain ⟨hβ, hhd, _⟩ := (his _ _ _ _ _ _ _).1 e0
  have hargs := ha.holds (fun _ _ => rfl) hi hp
  have hpb := hi.own nb _ hnb _ hβ
  have hnok : ¬ okOf cx st.heap β w pb := fun q => q.2.2 nb _ hnb _ hβ rfl
  have hrow : RowRep rHd w (okOf cx st.heap β w) pb po [(A, n, cap)] := by
    have := hi.rows nb _ hnb
    rw [hβ] at this; exact this.1 rfl
  subst hfull
  refine (h.calls w (okOf cx st.heap β w) pb po A cap (β nm) _ (fun _ hb => hb.2.1) hnok hpb.2 (fun y hy => ⟨fun q => q.2.2 nm _ hn y hy rfl, fun e => hne (hi.sep nb nm _ _ hnb hn (pb, po) y hβ hy e.symm), (hi.own nm _ hn y hy).2⟩)
    ⟨hrow, hi.rows nm _ hn, (show hdr (fun _ => β nm) w 101 rt.n 0 xs.length (.slice A xs.length cap) from hhd)⟩ hargs).mono ?_
  rintro e0 w' ⟨v, rfl, hb, ys, A', n', cap', bo, q0, rfl, q2, q3, q4⟩
  have hi' := hi.turnI hne hR hnb hn hc0 (his _ _ _) (his A' ys.length cap') hk hb (fun y hy => ⟨(q2 y hy).1, (q2 y hy).2.1, (q2 y hy).2.2⟩) q3
  refine hK _ _ (hnext ys A' cap' q0 _ _ ⟨_, hi'.put (by simpa using hd) (SV.plain_keep hr (fun q hq => ⟨?_, rfl⟩) q4)⟩)
  have hnk : cx.ok0 q ∨ cx.new q := by
    rcases hq.1.1 with z | z | z
    · exact z.1
    · exact .inr (.inl (Nat.le_trans hi.below.size z))
    · rcases z with z | ⟨u, z1, z2⟩
      · exact absurd z hq.2.1
      · exact .inr (z2 ▸ (hi.own nm _ hn u z1).1)
  refine ⟨hnk, hq.1.2, fun k' hb' hk' y hy e1 => ?_⟩
  rw [lookH_cons] at hk'
  split at hk'
  · rename_i e; subst e
    simp only [if_neg hne] at hy
    rw [hβ] at hy; injection hy with hy; subst hy; exact hq.2.1 e1.symm
  · rename_i z1
    rw [lookH_cons] at hk'
    split at hk'
    · rename_i e; subst e
      simp only [if_pos] at hy
      exact hq.2.2 y hy e1
    · rename_i z2
      simp only [if_neg (Ne.symm z2)] at hy
      rcases hq.1.1 with z | z | z
      · exact z.2.2 k' _ hk' y hy e1
      · have := (hi.own k' _ hk' y hy).2
        have z : w.heap.size ≤ q := z
        omega
      · rcases z with z | ⟨u, y1, y2⟩
        · exact hq.2.1 z
        · exact z2 (hi.sep nm k' _ _ hn hk' u y y1 hy (y2.trans e1.symm))

/-! ### methods by name -/
/-- the dynamic type T (a pointer to e) has the method, and that is function f (pr: it takes the pointer) -/
def MT (P : Program) (T : TypeId) (name : String) (f : FuncId) (pr : Bool) : Prop :=
  ((P.info? T).bind fun ti => (ti.methods.find? (·.name == name)).bind fun m => if m.path.isEmpty then m.func else none) = some (f, pr)
theorem run_methodP {T e : TypeId} {name : String} {f : FuncId} (h : MT P T name f true) (hu : P.underlying T = some (.pointer e)) (n : Nat) (v : Value) : (method (n + 1) T v name).run P w = .ok (f, v) w := by
  unfold MT at h
  cases hi : P.info? T with
  | none => rw [hi] at h; cases h
  | some ti =>
    rw [hi] at h
    simp only [Option.bind_some] at h
    cases hm : ti.methods.find? (·.name == name) with
    | none => rw [hm] at h; cases h
    | some m =>
      rw [hm] at h
      simp only [Option.bind_some] at h
      split at h
      · rename_i hp
        have hp : m.path = #[] := by simpa using hp
        simp [method, typeInfo, hi, hm, hp, follow, h, receiverAt, run_underlying hu, Place.get]
      · cases h
theorem wrapnil (ts : Array TypeId) (t : TypeId) (ad : Addr) (s1 s2 : ByteArray) : Builtin.ssaWrapNilChk_ ts t #[.pointer (some ad), .string s1, .string s2] = pure (.pointer (some ad)) := rfl
theorem run_methodH {T e : TypeId} {name : String} {f : FuncId} {pb po : Nat} {hv : Value} (h : MT P T name f false) (hu : P.underlying T = some (.pointer e)) (n : Nat) (hl : (loadVar e ⟨pb, po, none⟩).run P w = .ok hv w) : (method (n + 1) T (ptrAt pb po) name).run P w = .ok (f, hv) w := by
  unfold MT at h
  cases hi : P.info? T with
  | none => rw [hi] at h; cases h
  | some ti =>
    rw [hi] at h
    simp only [Option.bind_some] at h
    cases hm : ti.methods.find? (·.name == name) with
    | none => rw [hm] at h; cases h
    | some m =>
      rw [hm] at h
      simp only [Option.bind_some] at h
      split at h
      · rename_i hp
        have hp : m.path = #[] := by simpa using hp
        simp [method, typeInfo, hi, hm, hp, follow, h, receiverAt, run_underlying hu, Place.get, ptrAt, wrapnil, strVal, asAddr, hl]
      · cases h
theorem depth_succ (P : Program) : P.types.size + Made.depth = (P.types.size + 99) + 1 := rfl
theorem hr_invP {T e : TypeId} {name : String} {kf : FuncId} {pb po : Nat} {x : Operand} {xo : List Operand} {ts : Array TypeId} (hent : ∀ w args, (callFunc kf args).run P w = .ok (.enter kf args) w) (hmt : MT P T name kf true) (hu : P.underlying T = some (.pointer e)) (hx : a.eval x = .iface T (ptrAt pb po)) :
    (execOp a.eval ⟨dst, .call { callee := .invoke x name, args := xo.toArray, argTypes := ts }, ty, pos, aft, gd⟩).run P w = .ok (.enter kf ((ptrAt pb po :: xo.map a.eval).toArray)) w := by
  simp [execOp, resolve, invoke, callMethod, hx, depth_succ, run_methodP hmt hu, hent]
  exact List.take_of_length_le (by simp)
theorem hr_invH {T e : TypeId} {name : String} {kf : FuncId} {pb po : Nat} {hv : Value} {x : Operand} {xo : List Operand} {ts : Array TypeId} (hent : ∀ w args, (callFunc kf args).run P w = .ok (.enter kf args) w) (hmt : MT P T name kf false) (hu : P.underlying T = some (.pointer e)) (hx : a.eval x = .iface T (ptrAt pb po)) (hl : (loadVar e ⟨pb, po, none⟩).run P w = .ok hv w) :
    (execOp a.eval ⟨dst, .call { callee := .invoke x name, args := xo.toArray, argTypes := ts }, ty, pos, aft, gd⟩).run P w = .ok (.enter kf ((hv :: xo.map a.eval).toArray)) w := by
  simp [execOp, resolve, invoke, callMethod, hx, depth_succ, run_methodH hmt hu _ hl, hent]
  exact List.take_of_length_le (by simp)
theorem hr_call {kf : FuncId} {v : Value} {x : Operand} {xo : List Operand} {ts : Array TypeId} (hent : ∀ w args, (callFunc kf args).run P w = .ok (.enter kf args) w) (hx : a.eval x = v) :
    (execOp a.eval ⟨dst, .call { callee := .value (.func kf), args := (x :: xo).toArray, argTypes := ts }, ty, pos, aft, gd⟩).run P w = .ok (.enter kf ((v :: xo.map a.eval).toArray)) w := by
  subst hx
  simp [execOp, resolve, Act.eval, Deferred.ofValue, invoke, hent]

/-! ### operations -/
theorem op_mkifaceP {T e : TypeId} {v : Value} {x : Operand} (hu : P.underlying T = some (.pointer e)) (hx : Ev st x (.raw v)) : Adr P cx st ⟨dst, .makeInterface T x, ty, pos, aft, gd⟩ (.raw (.iface T v)) :=
  adr_still fun st' hag β a w hi => by
    have h1 := hi.raw (hag.ev (by simp [Op.operands]) hx)
    exact ⟨_, by simp [execOp, Instr.makeInterface, run_underlying hu, h1], rfl⟩
theorem op_mkifaceI {T : TypeId} {ki : IntKind} {v : Value} {x : Operand} (hu : P.underlying T = some (.int ki)) (hx : Ev st x (.raw v)) : Adr P cx st ⟨dst, .makeInterface T x, ty, pos, aft, gd⟩ (.raw (.iface T v)) :=
  adr_still fun st' hag β a w hi => by
    have h1 := hi.raw (hag.ev (by simp [Op.operands]) hx)
    exact ⟨_, by simp [execOp, Instr.makeInterface, run_underlying hu, h1], rfl⟩
theorem op_assertI {xT T : TypeId} {ki : IntKind} {v : Value} {x : Operand} (hu : P.underlying T = some (.int ki)) (hx : Ev st x (.raw (.iface T v))) : Adr P cx st ⟨dst, .typeAssert x xT T true, ty, pos, aft, gd⟩ (.tup2 (.raw v) (.raw (.bool true))) :=
  adr_still fun st' hag β a w hi => by
    have h1 := hi.raw (hag.ev (by simp [Op.operands]) hx)
    exact ⟨.tuple #[v, .bool true], by simp [execOp, Instr.typeAssert, run_underlying hu, h1], _, _, rfl, rfl, rfl⟩
theorem loadHead (hi : InvB cx st β a w) {nb pb po n cap : Nat} {A : Option Addr} {e : TypeId} (hβ : β nb = some (pb, po)) (hnb : lookH st.heap nb = some ⟨rHd, [(A, n, cap)]⟩) (he : Ty P e rHd) : (loadVar e ⟨pb, po, none⟩).run P w = .ok (.slice A n cap) w := by
  obtain ⟨cs, h3, h4⟩ := row_part (own_row hi hnb hβ) (i := 0) (x := (A, n, cap)) rfl (Lens.id rHd)
  obtain ⟨v, h5, h6⟩ := run_loadVar (P := P) he h3 h4
  have : v = .slice A n cap := rHd.val_raw rfl h6
  subst this
  simpa using h5
theorem op_invokeR {kf : FuncId} {T e : TypeId} {name : String} {nb nm n cap pb po : Nat} {A : Option Addr} {xs : List α} {ss : List SV} {r s : SV} {x : Operand} {xo : List Operand} {ts : Array TypeId} (h : Ct P kf (.tv (rSlice rt) xs :: ss) r) (hmt : MT P T name kf false) (hu : P.underlying T = some (.pointer e)) (he : Ty P e rHd)
    (hx : Ev st x s) (his : Is0 nb nm rt.n pb po A n cap (.iface T (ptrAt pb po)) s) (hsf : s.free nb = false) (hsf' : s.free nm = false) (hnb : lookH st.heap nb = some ⟨rHd, [(A, n, cap)]⟩) (hn : lookH st.heap nm = some ⟨rt, xs⟩) (hfull : n = xs.length) (ha : ArgsB st xo ss) (hr : r.Flat) :
    Adr P cx st ⟨dst, .call { callee := .invoke x name, args := xo.toArray, argTypes := ts }, ty, pos, aft, gd⟩ r := by
  intro st' hag d hd hdn a w ⟨β, hi⟩ Q
  have hxm : x ∈ (Op.call { callee := .invoke x name, args := xo.toArray, argTypes := ts }).operands := by simp [Op.operands, Call.operands]
  have hnb' := (hag.look hxm hx hsf).trans hnb
  have hn' := (hag.look hxm hx hsf').trans hn
  obtain ⟨hβ, hhd, hval⟩ := (his _ _ _ _).1 (hi.ev (hag.ev hxm hx))
  have hargs := ha.holds (cx := cx) (β := β) (a := a) (w := w) (st' := st') (fun x hx => hag.ops x (by simp [Op.operands, Call.operands, hx])) (fun x hx s nm he hf => hag.look (by simp [Op.operands, Call.operands, hx]) he hf) hi
  have hsl := own_sliceRep (rt := rt) hi hn' hhd (by omega) (ok := fun b => b < w.heap.size) (fun _ hb => hb.2.1) (fun b o hb => hi.own_lt hn' hb)
  rw [List.drop_zero, List.take_of_length_le (by omega)] at hsl
  unfold Oper.wp
  rw [hr_invH h.ent hmt hu hval (loadHead hi hβ hnb' he), Oper.upon_enter]
  refine (h.calls w (fun b => b < w.heap.size) _ (fun b hb => hb) ⟨_, _, rfl, hsl, hargs⟩).mono ?_
  rintro e w' ⟨v, rfl, hb, hv⟩
  have hb := hb.plain (fun _ h => h)
  subst hd
  exact ⟨β, (hi.later hb).put hdn (hr hv)⟩

/-- slot j holds the head that slot c0 speaks of -/
theorem inv_headI {c0 j nb nm sz pb po n cap : Nat} {A : Option Addr} {u : Value} {s : SV} (hc : lookS st.slots c0 = some s) (his : Is0 nb nm sz pb po A n cap u s) (hj : lookS st.slots j = some (.raw (.slice A n cap))) (hi : Inv cx st a w) : Inv cx ⟨(j, .own nm sz 0 n) :: st.slots, st.heap⟩ a w := by
  obtain ⟨β, hb⟩ := hi
  obtain ⟨v, _, h2⟩ := hb.slots c0 _ hc
  obtain ⟨_, hhd, _⟩ := (his _ _ _ _).1 h2
  exact ⟨β, hb.turnS hj fun v' hv => by have hv : v' = .slice A n cap := hv; subst hv; exact hhd⟩
theorem jg_headI (c0 j : Nat) {nb nm sz pb po n cap : Nat} {A : Option Addr} {u : Value} {s : SV} {l : List Oper} (hc : lookS st.slots c0 = some s) (his : Is0 nb nm sz pb po A n cap u s) (hj : lookS st.slots j = some (.raw (.slice A n cap))) (h : JG P cx ops ⟨(j, .own nm sz 0 n) :: st.slots, st.heap⟩ l k) : JG P cx ops st l k := fun a w hi => h a w (inv_headI hc his hj hi)
/-- a link goes over to another slot -/
theorem jg_moveL (c0 c1 : Nat) {s s1 t : SV} {u : Value} {l : List Oper} (hc : lookS st.slots c0 = some (.lnk s u t)) (h1 : lookS st.slots c1 = some s1) (hne : Nat.beq c1 c0 = false) (h : JG P cx ops ⟨(c0, s) :: (c1, .lnk s1 u t) :: st.slots, st.heap⟩ l k) : JG P cx ops st l k := fun a w ⟨β, hb⟩ => by
  obtain ⟨_, _, _, ht⟩ := hb.slots c0 _ hc
  have h2 := hb.turnS (s' := .lnk s1 u t) h1 fun v hv => ⟨hv, ht⟩
  have hc' : lookS ((c1, SV.lnk s1 u t) :: st.slots) c0 = some (.lnk s u t) := by rw [show lookS ((c1, SV.lnk s1 u t) :: st.slots) c0 = bif Nat.beq c1 c0 then some (.lnk s1 u t) else lookS st.slots c0 from rfl, hne]; exact hc
  exact h a w ⟨β, h2.turnS (s' := s) hc' fun v hv => hv.1⟩
/-- where a variable of the call's own lies gets a name -/
theorem jg_pinP (j nb : Nat) {l : List Oper} (hj : lookS st.slots j = some (.optr nb 1 0 0)) (h : ∀ pb po, JG P cx ops ⟨(j, .both (.optr nb 1 0 0) (ptrAt pb po)) :: st.slots, st.heap⟩ l k) : JG P cx ops st l k := fun a w ⟨β, hb⟩ => by
  obtain ⟨v, _, b, o, e1, e2⟩ := hb.slots j _ hj
  refine h b o a w ⟨β, hb.turnS hj fun v' hv => ⟨hv, ?_⟩⟩
  obtain ⟨b', o', g1, g2⟩ := hv
  rw [e1] at g1; injection g1 with g1; injection g1 with g1 g1'
  subst g1; subst g1'
  simpa using g2
omit [NM rt] in
theorem is0_at (hi : InvB cx st β a w) {nb nm sz pb po n cap : Nat} {A : Option Addr} {u : Value} {s : SV} {x : Operand} (hx : Ev st x s) (his : Is0 nb nm sz pb po A n cap u s) : β nb = some (pb, po) ∧ a.eval x = u := by
  obtain ⟨h1, _, h2⟩ := (his _ _ _ _).1 (hi.ev hx)
  exact ⟨h1, h2⟩
theorem hr_invH2 (hi : InvB cx st β a w) {nb nm sz pb po n cap : Nat} {A : Option Addr} {s : SV} {x : Operand} {T e : TypeId} {name : String} {kf : FuncId} {xo : List Operand} {ts : Array TypeId} (hent : ∀ w args, (callFunc kf args).run P w = .ok (.enter kf args) w) (hmt : MT P T name kf false) (hu : P.underlying T = some (.pointer e)) (he : Ty P e rHd)
    (hx : Ev st x s) (his : Is0 nb nm sz pb po A n cap (.iface T (ptrAt pb po)) s) (hnb : lookH st.heap nb = some ⟨rHd, [(A, n, cap)]⟩) :
    (execOp a.eval ⟨dst, .call { callee := .invoke x name, args := xo.toArray, argTypes := ts }, ty, pos, aft, gd⟩).run P w = .ok (.enter kf ((.slice A n cap :: xo.map a.eval).toArray)) w :=
  hr_invH hent hmt hu (is0_at hi hx his).2 (loadHead hi (is0_at hi hx his).1 hnb he)
theorem hr_invP2 (hi : InvB cx st β a w) {nb nm sz pb po n cap : Nat} {A : Option Addr} {s : SV} {x : Operand} {T e : TypeId} {name : String} {kf : FuncId} {xo : List Operand} {ts : Array TypeId} (hent : ∀ w args, (callFunc kf args).run P w = .ok (.enter kf args) w) (hmt : MT P T name kf true) (hu : P.underlying T = some (.pointer e))
    (hx : Ev st x s) (his : Is0 nb nm sz pb po A n cap (.iface T (ptrAt pb po)) s) :
    (execOp a.eval ⟨dst, .call { callee := .invoke x name, args := xo.toArray, argTypes := ts }, ty, pos, aft, gd⟩).run P w = .ok (.enter kf ((ptrAt pb po :: xo.map a.eval).toArray)) w :=
  hr_invP hent hmt hu (is0_at hi hx his).2
theorem hr_call2 (hi : InvB cx st β a w) {nb nm sz pb po n cap : Nat} {A : Option Addr} {s : SV} {u : Value} {x : Operand} {kf : FuncId} {xo : List Operand} {ts : Array TypeId} (hent : ∀ w args, (callFunc kf args).run P w = .ok (.enter kf args) w)
    (hx : Ev st x s) (his : Is0 nb nm sz pb po A n cap u s) :
    (execOp a.eval ⟨dst, .call { callee := .value (.func kf), args := (x :: xo).toArray, argTypes := ts }, ty, pos, aft, gd⟩).run P w = .ok (.enter kf ((u :: xo.map a.eval).toArray)) w :=
  hr_call hent (is0_at hi hx his).2
/-- a row is known less far -/
theorem inv_shrink {nm : Nat} {xs : List α} (m : Nat) (hn : lookH st.heap nm = some ⟨rt, xs⟩) (hi : Inv cx st a w) : Inv cx ⟨st.slots, (nm, ⟨rt, xs.take m⟩) :: st.heap⟩ a w := by
  obtain ⟨β, hb⟩ := hi
  refine ⟨β, hb.re (fun k => k) β (fun k h hk => .inr ⟨rfl, ?_⟩) (fun _ _ _ _ _ _ _ _ e => e) (fun q t hq => hb.slots q t hq)⟩
  rw [lookH_cons] at hk
  split at hk
  · rename_i e; subst e; injection hk with hk; subst hk
    refine ⟨_, hn, fun l hl => ?_⟩
    cases l with
    | none => have hl : xs = [] := hl; subst hl; simp [HB.holds]
    | some bo =>
      obtain ⟨b', o'⟩ := bo
      refine ⟨fun hm' => ?_, fun hm' => by rw [show rt.mp = false from NM.no] at hm'; cases hm'⟩
      obtain ⟨cur, e', q1, q2, q3⟩ := hl.1 hm'
      refine ⟨cur, e', q1, ?_, fun i' x' hi' => q3 i' x' ?_⟩
      · have : (xs.take m).length * rt.n ≤ xs.length * rt.n := Nat.mul_le_mul_right _ (by simp; omega)
        simp only at q2 ⊢
        omega
      · simp only at hi'
        rw [List.getElem?_take] at hi'
        split at hi'
        · exact hi'
        · cases hi'
  · exact ⟨h, hk, fun _ x => x⟩
theorem jg_shrink (nm m : Nat) {xs : List α} {l : List Oper} (hn : lookH st.heap nm = some ⟨rt, xs⟩) (h : JG P cx ops ⟨st.slots, (nm, ⟨rt, xs.take m⟩) :: st.heap⟩ l k) : JG P cx ops st l k := fun a w hi => h a w (inv_shrink m hn hi)
/-- some truth value -/
def rSomeB : RT Unit where
  n := 1
  agg := false
  raw _ := none
  rep _ _ cs _ := ∃ b, cs = [.bool b]
  len h := by obtain ⟨b, rfl⟩ := h; rfl
  one h := by obtain ⟨b, rfl⟩ := h; simp [Value.oneCell']
  keep _ h := h
  scal _ := rfl
  exact_ h1 h2 := by cases h1
  exact' h := by cases h
omit [NM rt] in
theorem jr_someB (i : Nat) {b : Bool} (hs : lookS st.slots i = some (.raw (.bool b))) (h : JR P cx ⟨(i, .tv rSomeB ()) :: st.slots, st.heap⟩ k) : JR P cx st k := fun a w ⟨β, hb⟩ =>
  h a w ⟨β, hb.turnS hs fun v hv => (by have hv : v = .bool b := hv; subst hv; exact ⟨[.bool b], ⟨b, rfl⟩, by simp [rSomeB]⟩)⟩
end
end Go.Eng
