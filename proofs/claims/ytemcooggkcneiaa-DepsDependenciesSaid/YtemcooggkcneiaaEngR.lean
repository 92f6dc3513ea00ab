import Derived.Test.YtemcooggkcneiaaEngN
namespace Go.Eng
set_option linter.unusedSimpArgs false
set_option linter.unusedVariables false
/-! ### functions that are lent a row and turn it -/
section
variable {P : Program} {cx : Cx} {st st' : St} {β : Loc} {a : Act} {w w' : World} {ops : Array Oper} {k : Kn} {c : Code}
variable {dst : Option Tmp} {ty : TypeId} {pos : String} {aft : Array Edge} {gd : Option (Nat × Bool)}
variable {α : Type} {rt : RT α} [NM rt]
theorem gh_move {ops : Array Oper} {d : Nat} {s : SV} {x : Operand} (hdn : Nat.blt d cx.n = true) (hx : Ev st x s) :
    GH P cx ops st ⟨some d, .move x, ty, pos, aft, none⟩ (some (d, s), none) [] [] := by
  intro st' hag _ a w hi Q
  rw [if_pos (by simp [Region.wanted])]
  exact op_move (hag.ev (by simp [Op.operands]) hx) st' (Agr.refl _ _) d rfl (by simpa using hdn) a w hi Q
def RetT (cx : Cx) (b o cap : Nat) (rt : RT α) (Q : List α → Prop) (r : SV) : Ending → World → Prop := fun e w' =>
  ∃ v, e = .returned v ∧ BelowX cx.ex cx.w0.heap.size cx.w0 w' ∧ (∃ ys cur' e', Q ys ∧ w'.heap[b]? = some (.cells cur' e' (0, 0)) ∧ o + cap * rt.n ≤ cur'.size ∧ RowRep rt w' (fun q => okR cx w' q ∧ q ≠ b) b o ys) ∧ r.holds noLoc w' (fun q => okR cx w' q ∧ q ≠ b) v
structure CtT (P : Program) (kf : FuncId) {α : Type} (rt : RT α) (xs : List α) (Q : List α → Prop) (ss : List SV) (r : SV) : Prop where
  ent : ∀ w args, (callFunc kf args).run P w = .ok (.enter kf args) w
  calls : ∀ (w : World) (ok0 : Ok) (b o cap : Nat) (cur : Array Value) (e : TypeId) (vs : List Value), (∀ b', ok0 b' → b' < w.heap.size) → ¬ ok0 b → w.heap[b]? = some (.cells cur e (0, 0)) → xs.length ≤ cap → cap ≤ maxLen → o + cap * rt.n ≤ cur.size →
    RowRep rt w ok0 b o xs → HoldsAll w ok0 ss vs → Calls P kf ((.slice (some ⟨b, o, none⟩) xs.length cap :: vs).toArray) w (RetT ⟨w, ok0, 0, fun q => q = b⟩ b o cap rt Q r)

theorem ctT_intro {kf : FuncId} {fn : Func} {c : Code} {xs : List α} {Q : List α → Prop} {ss : List SV} {r : SV} (hf : P.funcs[kf]? = some fn) (hb : fn.body = some c) (hn : (fn.name == "runtime.NumGoroutine") = false) {m : Nat} (hm : fn.ntmps = m) (hlen : Nat.ble (ss.length + 1) m = true)
    (hp : (ss.all SV.plain) = true)
    (h : ∀ (w0 : World) (ok0 : Ok) (b o cap : Nat), xs.length ≤ maxLen → J P ⟨w0, ok0, m, fun q => q = b⟩ ⟨(0, .both (.own 100 rt.n 0 xs.length) (.slice (some ⟨b, o, none⟩) xs.length cap)) :: slots0 1 ss, [(100, ⟨rt, xs⟩)]⟩ c (.fin fn (RetT ⟨w0, ok0, m, fun q => q = b⟩ b o cap rt Q r))) : CtT P kf rt xs Q ss r := by
  refine ⟨callFunc_enter hf hb hn, fun w ok0 b o cap cur e vs hok hnb hcur hcap hmax hfit hrow hh => ?_⟩
  have hl := holdsAll_len hh
  have hlen' : ss.length + 1 ≤ m := by simpa using hlen
  have hbs : b < w.heap.size := InvB.cell_lt hcur
  refine calls_of_wp hf hb ?_
  have := h w ok0 b o cap (by omega) { tmps := (Value.slice (some ⟨b, o, none⟩) xs.length cap :: vs).toArray ++ Array.replicate (fn.ntmps - (Value.slice (some ⟨b, o, none⟩) xs.length cap :: vs).toArray.size) undef, defers := [] } w ⟨fun q => if q = 100 then some (b, o) else none, ?_⟩
  · exact wp_mono this fun e a w' hq => hq
  · have hlk : ∀ nm hb, lookH [(100, HB.mk rt xs)] nm = some hb → nm = 100 ∧ hb = ⟨rt, xs⟩ := fun nm hb hh => by
      rw [lookH_cons] at hh
      split at hh
      · rename_i e; injection hh with hh; exact ⟨e.symm, hh.symm⟩
      · simp [lookH] at hh
    have hkk : ∀ b', ok0 b' → okOf ⟨w, ok0, m, fun q => q = b⟩ [(100, HB.mk rt xs)] (fun q => if q = 100 then some (b, o) else none) w b' ∧ w.heap[b']? = w.heap[b']? := fun b' hb' =>
      ⟨⟨.inl hb', hok b' hb', fun nm hb hh x hx => by
        obtain ⟨rfl, rfl⟩ := hlk nm hb hh
        simp at hx; subst hx; intro e
        have e : b = b' := e
        subst e; exact hnb hb'⟩, rfl⟩
    refine ⟨(Below.refl _ _).toX, hok, rfl, by simp [hm, hl]; omega, fun nm hb hh x hx => ?_, fun nm nm' hb hb' hh hh' x y hx hy _ => ?_, fun nm hb hh => ?_, fun i s hs => ?_⟩
    · obtain ⟨rfl, rfl⟩ := hlk nm hb hh
      simp at hx; subst hx
      exact ⟨.inr rfl, hbs⟩
    · rw [(hlk nm hb hh).1, (hlk nm' hb' hh').1]
    · obtain ⟨rfl, rfl⟩ := hlk nm hb hh
      simp only [if_pos]
      exact HB.keep (hb := ⟨rt, xs⟩) (l := some (b, o)) hkk (fun _ _ => rfl) ⟨fun _ => hrow, fun hm => by rw [show rt.mp = false from NM.no] at hm; cases hm⟩
    · rw [lookS_cons] at hs
      split at hs
      · rename_i e; subst e; injection hs with hs; subst hs
        refine ⟨.slice (some ⟨b, o, none⟩) xs.length cap, by rw [Array.getElem?_append_left (by simp)]; rfl, ?_, rfl⟩
        simp only [SV.holds, hdr, if_pos]
        exact ⟨_, cap, rfl, hcap, hmax, .inr ⟨by simp, cur, e, (0, 0), hcur, by rw [Nat.zero_add]; exact hfit⟩⟩
      · obtain ⟨j, rfl, hj⟩ := slots0_look hs
        obtain ⟨v, h1, h2⟩ := holdsAll_at hh hj
        have hjl : j < vs.length := (List.getElem?_eq_some_iff.1 h1).1
        have hps : s.plain = true := List.all_eq_true.1 hp s (List.mem_of_getElem? hj)
        exact ⟨v, by rw [Array.getElem?_append_left (by simp; omega)]; simp [Nat.add_comm 1 j, h1], SV.plain_keep hps hkk h2⟩

/-- what the lent row is at the end -/
theorem fin_row {b o cap s0 n : Nat} {xs : List α} {Q : List α → Prop} (hi : InvB cx st β a w) (hm : lookS st.slots s0 = some (.both (.own 100 rt.n 0 n) (.slice (some ⟨b, o, none⟩) n cap))) (hn : lookH st.heap 100 = some ⟨rt, xs⟩) (hn0 : 0 < n) (hQ : Q xs) :
    (∃ ys cur' e', Q ys ∧ w.heap[b]? = some (.cells cur' e' (0, 0)) ∧ o + cap * rt.n ≤ cur'.size ∧ RowRep rt w (fun q => okR cx w q ∧ q ≠ b) b o ys) ∧ ∀ q, okOf cx st.heap β w q → okR cx w q ∧ q ≠ b := by
  obtain ⟨v, _, e1, e2⟩ := hi.slots s0 _ hm
  rw [e2] at e1
  simp only [SV.holds, hdr] at e1
  cases hβ : β 100 with
  | none => rw [hβ] at e1; obtain ⟨_, e3⟩ := e1; omega
  | some bo =>
    obtain ⟨b', o'⟩ := bo
    rw [hβ] at e1
    obtain ⟨A, cap', h1, h2, h3, h4⟩ := e1
    rcases h4 with ⟨h4, _⟩ | ⟨h4, cur, e, fr, h5, h6⟩
    · omega
    · injection h1 with h1 _ h1'
      subst h1'
      rw [← h1] at h4
      obtain ⟨rfl, rfl⟩ : b = b' ∧ o = o' := by
        injection h4 with h4; injection h4 with q1 q2; simp at q2; exact ⟨q1, q2⟩
      have hr := hi.rows 100 _ hn
      rw [hβ] at hr
      obtain ⟨cur', e', g1, g2, g3⟩ := hr.1 NM.no
      rw [g1] at h5; injection h5 with h5; injection h5 with h5 _ _; subst h5
      have hk : ∀ q, okOf cx st.heap β w q → okR cx w q ∧ q ≠ b := fun q hq => ⟨okOf_okR hq, fun e => hq.2.2 100 _ hn _ hβ e.symm⟩
      refine ⟨⟨xs, cur', e', hQ, g1, by rw [Nat.zero_add] at h6; exact h6, cur', e', g1, g2, fun i x hx => ?_⟩, hk⟩
      obtain ⟨cs, g4, g5⟩ := g3 i x hx
      exact ⟨cs, rt.keep (fun q hq => ⟨hk q hq, rfl⟩) g4, g5⟩
theorem jn_finT0 {fn : Func} {b o cap s0 n : Nat} {xs : List α} {Q : List α → Prop} (hr : fn.results = #[]) (hm : lookS st.slots s0 = some (.both (.own 100 rt.n 0 n) (.slice (some ⟨b, o, none⟩) n cap))) (hn : lookH st.heap 100 = some ⟨rt, xs⟩) (hn0 : 0 < n) (hQ : Q xs) :
    JN P cx st (.fin fn (RetT cx b o cap rt Q (.raw (.tuple #[])))) := by
  rintro a w ⟨β, hi⟩
  obtain ⟨g1, g2⟩ := fin_row hi hm hn hn0 hQ
  refine ⟨hi.defers, .tuple #[], ?_, _, rfl, hi.below, g1, rfl⟩
  simp [results_eq, hr]
theorem jr_finT0 {fn : Func} {b o cap s0 n : Nat} {xs : List α} {Q : List α → Prop} (hr : fn.results = #[]) (hm : lookS st.slots s0 = some (.both (.own 100 rt.n 0 n) (.slice (some ⟨b, o, none⟩) n cap))) (hn : lookH st.heap 100 = some ⟨rt, xs⟩) (hn0 : 0 < n) (hQ : Q xs) :
    JR P cx st (.fin fn (RetT cx b o cap rt Q (.raw (.tuple #[])))) := by
  rintro a w ⟨β, hi⟩
  obtain ⟨g1, g2⟩ := fin_row hi hm hn hn0 hQ
  refine ⟨hi.defers, .tuple #[], ?_, _, rfl, hi.below, g1, rfl⟩
  simp [results_eq, hr]
theorem jr_finT1 {fn : Func} {v0 : ResultVar} {s r : SV} {b o cap s0 n : Nat} {xs : List α} {Q : List α → Prop} (hr : fn.results = #[v0]) (h0 : Res P cx st v0 s) (hp : s.plain = true) (e : s = r) (hm : lookS st.slots s0 = some (.both (.own 100 rt.n 0 n) (.slice (some ⟨b, o, none⟩) n cap))) (hn : lookH st.heap 100 = some ⟨rt, xs⟩) (hn0 : 0 < n) (hQ : Q xs) :
    JR P cx st (.fin fn (RetT cx b o cap rt Q r)) := by
  rintro a w ⟨β, hi⟩
  subst e
  obtain ⟨v, h1, h2⟩ := h0 β a w hi
  obtain ⟨g1, g2⟩ := fin_row hi hm hn hn0 hQ
  refine ⟨hi.defers, v, ?_, v, rfl, hi.below, g1, SV.plain_keep hp (fun q hq => ⟨g2 q hq, rfl⟩) h2⟩
  simp [results_eq, hr, h1]

/-- the slots that are kept when row nm turns: those that do not speak of it, and those whose value is v itself -/
inductive KeepT (R : List Nat) (l : List (Nat × SV)) (nm sz n : Nat) (v : Value) : List Nat → List (Nat × SV) → Prop
  | nil : KeepT R l nm sz n v [] []
  | free {j : Nat} {ks : List Nat} {t : SV} {r : List (Nat × SV)} (h : lookS l j = some t) (hf : t.within R = true) (hr : KeepT R l nm sz n v ks r) : KeepT R l nm sz n v (j :: ks) ((j, t) :: r)
  | both {j : Nat} {ks : List Nat} {r : List (Nat × SV)} (h : lookS l j = some (.both (.own nm sz 0 n) v)) (hr : KeepT R l nm sz n v ks r) : KeepT R l nm sz n v (j :: ks) ((j, .both (.own nm sz 0 n) v) :: r)
  | lnk {j : Nat} {ks : List Nat} {s : SV} {r : List (Nat × SV)} (h : lookS l j = some (.lnk s v (.own nm sz 0 n))) (hf : s.within R = true) (hr : KeepT R l nm sz n v ks r) : KeepT R l nm sz n v (j :: ks) ((j, .lnk s v (.own nm sz 0 n)) :: r)
theorem KeepT.look {R : List Nat} {l : List (Nat × SV)} {nm sz n : Nat} {v : Value} {ks : List Nat} {r : List (Nat × SV)} (h : KeepT R l nm sz n v ks r) : ∀ i s, lookS r i = some s → lookS l i = some s ∧ (s.within R = true ∨ s = .both (.own nm sz 0 n) v ∨ ∃ s', s = .lnk s' v (.own nm sz 0 n) ∧ s'.within R = true) := by
  induction h with
  | nil => intro i s hs; simp [lookS] at hs
  | free h hf _ ih =>
    intro i s hs; rw [lookS_cons] at hs; split at hs
    · rename_i e; subst e; injection hs with hs; subst hs; exact ⟨h, .inl hf⟩
    · exact ih i s hs
  | both h _ ih =>
    intro i s hs; rw [lookS_cons] at hs; split at hs
    · rename_i e; subst e; injection hs with hs; subst hs; exact ⟨h, .inr (.inl rfl)⟩
    · exact ih i s hs
  | lnk h hf _ ih =>
    intro i s hs; rw [lookS_cons] at hs; split at hs
    · rename_i e; subst e; injection hs with hs; subst hs; exact ⟨h, .inr (.inr ⟨_, rfl, hf⟩)⟩
    · exact ih i s hs

/-- one of the call's own rows is turned by another -/
theorem InvB.turnRow (hi : InvB cx st β a w) {nm b o cap n : Nat} {xs ys : List α} {r : List (Nat × SV)} {ks R : List Nat} (hR : (R.all fun k => !Nat.beq k nm && (lookH st.heap k).isSome) = true) (hn : lookH st.heap nm = some ⟨rt, xs⟩) (hb : β nm = some (b, o)) (hcap : n ≤ cap ∧ cap ≤ maxLen)
    (hk : KeepT R st.slots nm rt.n n (.slice (some ⟨b, o, none⟩) n cap) ks r) (hg : BelowX (fun q => q = b) w.heap.size w w') {cur' : Array Value} {e' : TypeId} (hcur : w'.heap[b]? = some (.cells cur' e' (0, 0))) (hfit : o + cap * rt.n ≤ cur'.size)
    (hrow : RowRep rt w' (fun q => okR (Cx.mk w (okOf cx st.heap β w) 0 (fun q => q = b)) w' q ∧ q ≠ b) b o ys) : InvB cx ⟨r, (nm, ⟨rt, ys⟩) :: st.heap⟩ β a w' := by
  have hown := hi.own nm _ hn _ hb
  have hothers : ∀ k hb', lookH st.heap k = some hb' → k ≠ nm → ∀ x, β k = some x → x.1 ≠ b := fun k hb' hk hne x hx e1 => hne (hi.sep k nm _ _ hk hn x (b, o) hx hb e1)
  have hbl : ∀ k, k < w.heap.size → k ≠ b → w'.heap[k]? = w.heap[k]? := fun k hk hne => hg.blockX k hk hne
  have hh0 : ∀ k, lookH ((nm, HB.mk rt ys) :: st.heap) k = if nm = k then some ⟨rt, ys⟩ else lookH st.heap k := fun k => lookH_cons _ _ _ _
  have hok : ∀ b', okOf cx st.heap β w b' → okOf cx ((nm, ⟨rt, ys⟩) :: st.heap) β w' b' ∧ w'.heap[b']? = w.heap[b']? := by
    rintro b' ⟨h1, h2, h3⟩
    have hne : b' ≠ b := fun e1 => h3 nm _ hn _ hb e1.symm
    refine ⟨⟨h1, Nat.lt_of_lt_of_le h2 hg.size, fun k hb' hk x hx => ?_⟩, hbl b' h2 hne⟩
    rw [hh0] at hk
    by_cases e1 : nm = k
    · subst e1; rw [hb] at hx; injection hx with hx; subst hx; exact fun e2 => hne e2.symm
    · rw [if_neg e1] at hk
      exact h3 k hb' hk x hx
  have hok2 : ∀ q, (okR (Cx.mk w (okOf cx st.heap β w) 0 (fun q => q = b)) w' q ∧ q ≠ b) → okOf cx ((nm, ⟨rt, ys⟩) :: st.heap) β w' q := fun q hq => by
    rcases hq.1.1 with z | z | z
    · exact (hok q z).1
    · refine ⟨.inr (.inl (Nat.le_trans hi.below.size z)), hq.1.2, fun k hb' hk x hx e1 => ?_⟩
      rw [hh0] at hk
      have z : w.heap.size ≤ q := z
      split at hk
      · rename_i e2; subst e2; rw [hb] at hx; injection hx with hx; subst hx; exact hq.2 e1.symm
      · have := (hi.own k hb' hk x hx).2; omega
    · exact absurd z hq.2
  refine ⟨⟨hg.os.trans hi.below.os, hg.tape.trans hi.below.tape, hg.output.trans hi.below.output, Nat.le_trans hi.below.size hg.size, fun k hk hx => ?_, Nat.le_trans hi.below.drawn hg.drawn⟩, hi.old, hi.defers, hi.size, fun k hb' hk x hx => ?_, fun k k' h1 h2 hk hk' x y hx hy hxy => ?_, fun k hb' hk => ?_, fun i s hs' => ?_⟩
  · refine (hbl k (Nat.lt_of_lt_of_le hk hi.below.size) ?_).trans (hi.below.blockX k hk hx)
    rintro rfl
    rcases hown.1 with q | q
    · simp only at q; omega
    · exact hx q
  · rw [hh0] at hk
    by_cases e1 : nm = k
    · subst e1; have := hi.own nm _ hn x hx; exact ⟨this.1, Nat.lt_of_lt_of_le this.2 hg.size⟩
    · rw [if_neg e1] at hk
      have := hi.own k hb' hk x hx
      exact ⟨this.1, Nat.lt_of_lt_of_le this.2 hg.size⟩
  · rw [hh0] at hk hk'
    by_cases e1 : nm = k <;> by_cases e2 : nm = k'
    · rw [← e1, ← e2]
    · subst e1; rw [if_neg e2] at hk'; exact hi.sep _ k' _ _ hn hk' x y hx hy hxy
    · subst e2; rw [if_neg e1] at hk; exact hi.sep k _ _ _ hk hn x y hx hy hxy
    · rw [if_neg e1] at hk; rw [if_neg e2] at hk'; exact hi.sep k k' _ _ hk hk' x y hx hy hxy
  · rw [hh0] at hk
    by_cases e1 : nm = k
    · subst e1
      rw [if_pos rfl] at hk
      injection hk with hk; subst hk
      rw [hb]
      refine ⟨fun _ => ?_, fun hm => by rw [show rt.mp = false from NM.no] at hm; cases hm⟩
      obtain ⟨cur2, e2, g1, g2, g3⟩ := hrow
      refine ⟨cur2, e2, g1, g2, fun i x hx => ?_⟩
      obtain ⟨cs, g4, g5⟩ := g3 i x hx
      exact ⟨cs, rt.keep (fun q hq => ⟨hok2 q hq, rfl⟩) g4, g5⟩
    · rw [if_neg e1] at hk
      exact HB.keep hok (fun x hx => hbl _ (hi.own k hb' hk x hx).2 (hothers k _ hk (Ne.symm e1) x hx)) (hi.rows k hb' hk)
  · obtain ⟨hs0, hcase⟩ := hk.look i s hs'
    obtain ⟨v, h1, h2⟩ := hi.slots i s hs0
    have hRk : ∀ k ∈ R, k ≠ nm ∧ ∃ hb, lookH st.heap k = some hb := fun k hk => by
      have := List.all_eq_true.1 hR k hk
      rw [Bool.and_eq_true] at this
      refine ⟨fun e => by subst e; simp at this, ?_⟩
      cases h : lookH st.heap k with
      | none => rw [h] at this; simp at this
      | some hb => exact ⟨hb, rfl⟩
    have hfree : ∀ (s : SV) (v : Value), s.within R = true → s.holds β w (okOf cx st.heap β w) v → s.holds β w' (okOf cx ((nm, ⟨rt, ys⟩) :: st.heap) β w') v := fun s v hf hv =>
      SV.keep hok (fun k hk => ⟨rfl, fun b1 o1 hbo cur e fr hc => by
        obtain ⟨hne, hb2, hlk⟩ := hRk k (SV.within_mem hf hk)
        have hb1 : b1 ≠ b := hothers k hb2 hlk hne (b1, o1) hbo
        exact ⟨cur, e, fr, by rw [hbl b1 (InvB.cell_lt hc) hb1]; exact hc, rfl⟩⟩) hv
    have hhd : hdr β w' nm rt.n 0 n (.slice (some ⟨b, o, none⟩) n cap) := by
      simp only [hdr]
      rw [hb]
      exact ⟨_, cap, rfl, hcap.1, hcap.2, .inr ⟨by simp, cur', e', (0, 0), hcur, by rw [Nat.zero_add]; exact hfit⟩⟩
    rcases hcase with hf | rfl | ⟨s', rfl, hf⟩
    · exact ⟨v, h1, hfree s v hf h2⟩
    · obtain ⟨_, q2⟩ := h2
      exact ⟨v, h1, by rw [q2]; exact hhd, q2⟩
    · obtain ⟨q1, q2⟩ := h2
      exact ⟨v, h1, hfree s' v hf q1, hhd⟩

/-- a call that turns a row of the caller's -/
theorem jg_callT {rest : List Oper} {kf : FuncId} {nm n d : Nat} {xs : List α} {Q : List α → Prop} {ss : List SV} {rr : SV} {b o cap : Nat} {x : Operand} {xo : List Operand} {ts : Array TypeId} (R ks : List Nat) {r : List (Nat × SV)} (h : CtT P kf rt xs Q ss rr)
    (hx : Ev st x (.both (.own nm rt.n 0 n) (.slice (some ⟨b, o, none⟩) n cap))) (hn : lookH st.heap nm = some ⟨rt, xs⟩) (hfull : n = xs.length) (hn0 : 0 < n) (ha : Args st xo ss) (hp : (ss.all SV.plain) = true) (hr : rr.plain = true) (hd : Nat.blt d cx.n = true)
    (hR : (R.all fun k => !Nat.beq k nm && (lookH st.heap k).isSome) = true) (hk : KeepT R st.slots nm rt.n n (.slice (some ⟨b, o, none⟩) n cap) ks r)
    (hnext : ∀ ys, Q ys → JG P cx ops ⟨(d, rr) :: r, (nm, ⟨rt, ys⟩) :: st.heap⟩ rest k) :
    JG P cx ops st (⟨some d, .call { callee := .value (.func kf), args := (x :: xo).toArray, argTypes := ts }, ty, pos, aft, none⟩ :: rest) k := by
  rintro a w ⟨β, hi⟩
  refine wpList_plain rfl fun K hK => ?_
  have hrun : (execOp a.eval ⟨some d, .call { callee := .value (.func kf), args := (x :: xo).toArray, argTypes := ts }, ty, pos, aft, none⟩).run P w = .ok (.enter kf ((x :: xo).map a.eval).toArray) w := by
    simp [execOp, resolve, Act.eval, Deferred.ofValue, invoke, h.ent]
  unfold Oper.wp
  rw [hrun, Oper.upon_enter]
  obtain ⟨e1, e2⟩ := hi.ev hx
  rw [e2] at e1
  simp only [SV.holds, hdr] at e1
  cases hβ : β nm with
  | none => rw [hβ] at e1; obtain ⟨_, e3⟩ := e1; omega
  | some bo =>
    obtain ⟨b', o'⟩ := bo
    rw [hβ] at e1
    obtain ⟨A, cap', h1, h2, h3, h4⟩ := e1
    rcases h4 with ⟨h4, _⟩ | ⟨h4, cur, e, fr, h5, h6⟩
    · omega
    · injection h1 with h1 _ h1'
      subst h1'
      rw [← h1] at h4
      obtain ⟨rfl, rfl⟩ : b = b' ∧ o = o' := by
        injection h4 with h4; injection h4 with q1 q2; simp at q2; exact ⟨q1, q2⟩
      have hrw := hi.rows nm _ hn
      rw [hβ] at hrw
      have hrow : RowRep rt w (okOf cx st.heap β w) b o xs := hrw.1 NM.no
      obtain ⟨cur2, e', g1, g2, g3⟩ := id hrow
      rw [g1] at h5; injection h5 with h5; injection h5 with h5 _ _; subst h5
      have hargs := ha.holds (fun _ _ => rfl) hi hp
      have hnok : ¬ okOf cx st.heap β w b := fun q => q.2.2 nm _ hn _ hβ rfl
      rw [List.map_cons, e2]
      subst hfull
      refine (h.calls w (okOf cx st.heap β w) b o cap cur2 e' _ (fun _ hb => hb.2.1) hnok g1 h2 h3 (by rw [Nat.zero_add] at h6; exact h6) hrow hargs).mono ?_
      rintro e0 w' ⟨v, rfl, hb, ⟨ys, cur3, e3, q0, q1, q2, q3⟩, hu⟩
      have hb : BelowX (fun q => q = b) w.heap.size w w' := hb
      have hi' := hi.turnRow hR hn hβ ⟨h2, h3⟩ hk hb q1 q2 q3
      refine hK _ _ (hnext ys q0 _ _ ⟨β, hi'.put (by simpa using hd) (SV.plain_keep hr (fun q hq => ⟨⟨?_, hq.1.2, ?_⟩, rfl⟩) hu)⟩)
      · rcases hq.1.1 with z | z | z
        · exact z.1
        · exact .inr (.inl (Nat.le_trans hi.below.size z))
        · exact absurd z hq.2
      · intro q' hq' hh y hy e1
        rw [lookH_cons] at hh
        split at hh
        · rename_i e2; subst e2
          rw [hβ] at hy; injection hy with hy; subst hy
          exact hq.2 e1.symm
        · rcases hq.1.1 with z | z | z
          · exact z.2.2 q' hq' hh y hy e1
          · have := (hi.own q' hq' hh y hy).2
            have z : w.heap.size ≤ q := z
            omega
          · exact hq.2 z
end
end Go.Eng
