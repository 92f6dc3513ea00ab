import Derived.Test.YtemcooggkcneiaaEngP
namespace Go.Eng
set_option linter.unusedSimpArgs false
set_option linter.unusedVariables false
/-! ### a row of the call's own whose elements are heads of rows of the call's own: the family of those rows rides at the tail of the heap, its names from b on -/
section
variable {α : Type}
def famH (rt : RT α) : Nat → List (List α) → List (Nat × HB)
  | _, [] => []
  | b, xs :: r => (b, ⟨rt, xs⟩) :: famH rt (b + 1) r
theorem famH_look (rt : RT α) : ∀ (xss : List (List α)) (b k : Nat), lookH (famH rt b xss) k = if b ≤ k then (xss[k - b]?).map (fun xs => HB.mk rt xs) else none
  | [], b, k => by simp [famH, lookH]
  | xs :: r, b, k => by
    rw [famH, lookH_cons, famH_look rt r (b + 1) k]
    by_cases h1 : b = k
    · subst h1; simp
    · rw [if_neg h1]
      by_cases h2 : b ≤ k
      · rw [if_pos (by omega), if_pos h2, show k - b = (k - (b + 1)) + 1 by omega]; simp
      · rw [if_neg (by omega), if_neg h2]
theorem famH_no {rt : RT α} {xss : List (List α)} {b k : Nat} (h : Nat.blt k b = true) : lookH (famH rt b xss) k = none := by
  rw [famH_look, if_neg]; have := blt_lt h; omega
theorem famH_at {rt : RT α} {xss : List (List α)} {b x : Nat} : lookH (famH rt b xss) (x + b) = (xss[x]?).map (fun xs => HB.mk rt xs) := by
  rw [famH_look, if_pos (by omega), show x + b - b = x by omega]

/-- T rides at the tail of l, behind names below b -/
inductive Tl (b : Nat) (T : List (Nat × HB)) : List (Nat × HB) → Prop
  | nil : Tl b T T
  | cons {k : Nat} {x : HB} {l : List (Nat × HB)} (hk : Nat.blt k b = true) (h : Tl b T l) : Tl b T ((k, x) :: l)
theorem Tl.look {b : Nat} {T l : List (Nat × HB)} (h : Tl b T l) {k : Nat} (hk : b ≤ k) : lookH l k = lookH T k := by
  induction h with
  | nil => rfl
  | cons h1 _ ih => rw [lookH_cons, if_neg (by have := blt_lt h1; omega), ih]
theorem SubH_tail {rt : RT α} {b : Nat} {xss xss' : List (List α)} {l : List (Nat × HB)} (h : Tl b (famH rt b xss) l) (e : xss = xss') : ∀ i s, lookH (famH rt b xss') i = some s → lookH l i = some s := by
  subst e
  intro i s hs
  rw [h.look, hs]
  rw [famH_look] at hs
  split at hs
  · assumption
  · cases hs

/-- these rows, and the tail -/
inductive KeepHF (l T : List (Nat × HB)) : List Nat → List (Nat × HB) → Prop
  | nil : KeepHF l T [] T
  | cons {j : Nat} {ks : List Nat} {t : HB} {r : List (Nat × HB)} (h : lookH l j = some t) (hr : KeepHF l T ks r) : KeepHF l T (j :: ks) ((j, t) :: r)
theorem KeepHF.sub {l T : List (Nat × HB)} {ks : List Nat} {r : List (Nat × HB)} (h : KeepHF l T ks r) (hT : ∀ i s, lookH T i = some s → lookH l i = some s) : ∀ i s, lookH r i = some s → lookH l i = some s := by
  induction h with
  | nil => exact hT
  | cons h _ ih => exact SubH_cons h rfl ih

def belowH (b : Nat) : List (Nat × HB) → Bool
  | [] => true
  | (k, _) :: r => Nat.blt k b && belowH b r
theorem belowH_look {b : Nat} : ∀ {l : List (Nat × HB)} {k : Nat} {h : HB}, belowH b l = true → lookH l k = some h → k < b
  | [], _, _, _, h => by simp [lookH] at h
  | (j, t) :: r, k, s, hl, h => by
    simp only [belowH, Bool.and_eq_true] at hl
    rw [lookH_cons] at h
    split at h
    · rename_i e; subst e; exact blt_lt hl.1
    · exact belowH_look hl.2 h
def SV.low (b : Nat) : SV → Bool
  | .own k _ _ _ | .optr k _ _ _ | .mref k | .epown k _ _ _ => Nat.blt k b
  | .both s _ => s.low b
  | .lnk s _ t => s.low b && t.low b
  | .fam .. => false
  | .gd _ s => s.low b
  | .tup2 s t => s.low b && t.low b
  | .tup3 s t u => s.low b && t.low b && u.low b
  | .tup4 s t u v => s.low b && t.low b && u.low b && v.low b
  | _ => true
theorem SV.low_free {b nm : Nat} (hb : b ≤ nm) : ∀ {s : SV}, s.low b = true → s.free nm = true
  | .raw _, _ => rfl
  | .tv _ _, _ => rfl
  | .eptr _ _, _ => rfl
  | .own k _ _ _, h | .optr k _ _ _, h | .mref k, h | .epown k _ _ _, h => by
    simp only [SV.low] at h
    have := blt_lt h
    simp only [SV.free, Bool.not_eq_true']
    cases e : Nat.beq k nm with
    | false => rfl
    | true => have := Nat.eq_of_beq_eq_true e; omega
  | .both s _, h => SV.low_free hb (s := s) h
  | .gd _ s, h => SV.low_free hb (s := s) h
  | .lnk s _ t, h => by simp only [SV.low, Bool.and_eq_true] at h; simp [SV.free, SV.low_free hb h.1, SV.low_free hb h.2]
  | .tup2 s t, h => by simp only [SV.low, Bool.and_eq_true] at h; simp [SV.free, SV.low_free hb h.1, SV.low_free hb h.2]
  | .tup3 s t u, h => by simp only [SV.low, Bool.and_eq_true] at h; simp [SV.free, SV.low_free hb h.1.1, SV.low_free hb h.1.2, SV.low_free hb h.2]
  | .tup4 s t u v, h => by simp only [SV.low, Bool.and_eq_true] at h; simp [SV.free, SV.low_free hb h.1.1.1, SV.low_free hb h.1.1.2, SV.low_free hb h.1.2, SV.low_free hb h.2]
def belowS (b : Nat) : List (Nat × SV) → Bool
  | [] => true
  | (_, s) :: r => s.low b && belowS b r
theorem belowS_look {b : Nat} : ∀ {l : List (Nat × SV)} {i : Nat} {s : SV}, belowS b l = true → lookS l i = some s → s.low b = true
  | [], _, _, _, h => by simp [lookS] at h
  | (j, t) :: r, i, s, hf, h => by
    simp only [belowS, Bool.and_eq_true] at hf
    rw [lookS_cons] at h
    split at h
    · injection h with h; subst h; exact hf.1
    · exact belowS_look hf.2 h
end

section
variable {P : Program} {cx : Cx} {st st' : St} {β : Loc} {a : Act} {w w' : World} {ops : Array Oper} {k : Kn} {c : Code}
variable {α : Type} {rt : RT α} [NM rt]

omit [NM rt] in
theorem jn_keepF (ks hs : List Nat) {r : List (Nat × SV)} {hp : List (Nat × HB)} {b : Nat} {xss : List (List α)} (h : Keep st.slots ks r) (hT : Tl b (famH rt b xss) st.heap) (hh : KeepHF st.heap (famH rt b xss) hs hp) (hj : JN P cx ⟨r, hp⟩ k) : JN P cx st k :=
  jn_sub (st' := ⟨r, hp⟩) ⟨h.sub, hh.sub (SubH_tail hT rfl)⟩ hj

/-- rows named anew: f leads from a new name to the old one -/
theorem InvB.re (hb : InvB cx st β a w) {sl : List (Nat × SV)} {hp : List (Nat × HB)} (f : Nat → Nat) (β' : Loc)
    (h1 : ∀ k h, lookH hp k = some h → (β' k = none ∧ h.xs = []) ∨ (β' k = β (f k) ∧ ∃ h0, lookH st.heap (f k) = some h0 ∧ ∀ l, h0.holds w (okOf cx st.heap β w) l → h.holds w (okOf cx st.heap β w) l))
    (h2 : ∀ k k' h h', lookH hp k = some h → lookH hp k' = some h' → β' k ≠ none → β' k' ≠ none → f k = f k' → k = k')
    (h3 : ∀ i s, lookS sl i = some s → ∃ v, a.tmps[i]? = some v ∧ s.holds β' w (okOf cx st.heap β w) v) : InvB cx ⟨sl, hp⟩ β' a w := by
  have hat : ∀ k h x, lookH hp k = some h → β' k = some x → β (f k) = some x ∧ ∃ h0, lookH st.heap (f k) = some h0 := fun k h x hk hx => by
    rcases h1 k h hk with ⟨e, _⟩ | ⟨e, h0, g1, _⟩
    · rw [e] at hx; cases hx
    · exact ⟨e ▸ hx, h0, g1⟩
  have hok : ∀ b, okOf cx st.heap β w b → okOf cx hp β' w b ∧ w.heap[b]? = w.heap[b]? := fun b ⟨g1, g2, g3⟩ => ⟨⟨g1, g2, fun k h hk x hx => by
    obtain ⟨e, h0, g4⟩ := hat k h x hk hx
    exact g3 _ _ g4 x e⟩, rfl⟩
  refine ⟨hb.below, hb.old, hb.defers, hb.size, fun k h hk x hx => ?_, fun k k' h h' hk hk' x y hx hy he => ?_, fun k h hk => ?_, fun i s hs => ?_⟩
  · obtain ⟨e, h0, g4⟩ := hat k h x hk hx
    exact hb.own _ _ g4 x e
  · obtain ⟨e, h0, g4⟩ := hat k h x hk hx
    obtain ⟨e', h0', g4'⟩ := hat k' h' y hk' hy
    exact h2 k k' h h' hk hk' (by rw [hx]; simp) (by rw [hy]; simp) (hb.sep _ _ _ _ g4 g4' x y e e' he)
  · rcases h1 k h hk with ⟨e, g⟩ | ⟨e, h0, g1, g2⟩
    · rw [e]; exact g
    · rw [e]
      exact HB.keep hok (fun _ _ => rfl) (g2 _ (hb.rows _ _ g1))
  · obtain ⟨v, g1, g2⟩ := h3 i s hs
    exact ⟨v, g1, SV.keep hok (fun nm _ => ⟨rfl, fun b o _ cur e fr hc => ⟨cur, e, fr, hc, rfl⟩⟩) g2⟩

theorem SV.turn {β' : Loc} {ok : Ok} {s : SV} {v : Value} (h : ∀ nm, s.free nm = false → β' nm = β nm) (hv : s.holds β w ok v) : s.holds β' w ok v :=
  SV.keep (fun b hb => ⟨hb, rfl⟩) (fun nm hn => ⟨h nm hn, fun b o _ cur e fr hc => ⟨cur, e, fr, hc, rfl⟩⟩) hv


omit [NM rt] in
theorem inv_vacF {i b n : Nat} {s : SV} {hs : List Nat} {hp0 : List (Nat × HB)} {ks : List Nat} {r : List (Nat × SV)} (rt : RT α) [NM rt] (hsl : lookS st.slots i = some s) (hsb : s.low b = true) (hk : Keep st.slots ks r) (hkb : belowS b r = true)
    (hh : KeepH st.heap hs hp0) (hl : belowH b hp0 = true) (hi : Inv cx st a w) :
    Inv cx ⟨(i, .fam s b rt.n (List.replicate n (some (none, 0, 0)))) :: r, hp0 ++ famH rt b (List.replicate n [])⟩ a w := by
  obtain ⟨β, hb⟩ := hi
  have hap : ∀ (l : List (Nat × HB)) k, lookH (l ++ famH rt b (List.replicate n [])) k = (match lookH l k with | some h => some h | none => lookH (famH rt b (List.replicate n [])) k) := by
    intro l k
    induction l with
    | nil => simp [lookH]
    | cons p l ih => obtain ⟨j, t⟩ := p; rw [List.cons_append, lookH_cons, lookH_cons, ih]; split <;> rfl
  have hsp : ∀ k h, lookH (hp0 ++ famH rt b (List.replicate n [])) k = some h → (k < b ∧ lookH st.heap k = some h) ∨ (b ≤ k ∧ h = ⟨rt, []⟩) := fun k h hk' => by
    rw [hap] at hk'
    cases e : lookH hp0 k with
    | some h' => rw [e] at hk'; injection hk' with hk'; subst hk'; exact .inl ⟨belowH_look hl e, hh.sub _ _ e⟩
    | none =>
      rw [e] at hk'
      simp only at hk'
      rw [famH_look] at hk'
      split at hk'
      · rename_i g
        refine .inr ⟨g, ?_⟩
        rw [List.getElem?_replicate] at hk'
        split at hk'
        · simpa using hk'.symm
        · simp at hk'
      · cases hk'
  let β' : Loc := fun k => if b ≤ k then none else β k
  have hfree : ∀ (t : SV) (v : Value), t.low b = true → t.holds β w (okOf cx st.heap β w) v → t.holds β' w (okOf cx st.heap β w) v := fun t v ht hv =>
    SV.turn (fun nm hn => by
      have : ¬ b ≤ nm := fun g => by rw [SV.low_free g ht] at hn; cases hn
      simp [β', this]) hv
  refine ⟨β', hb.re (fun k => k) β' (fun k h hk' => ?_) (fun _ _ _ _ _ _ _ _ e => e) (fun q t hq => ?_)⟩
  · rcases hsp k h hk' with ⟨g1, g2⟩ | ⟨g1, g2⟩
    · exact .inr ⟨by simp [β', Nat.not_le.2 g1], h, g2, fun _ x => x⟩
    · exact .inl ⟨by simp [β', g1], by rw [g2]⟩
  · rw [lookS_cons] at hq
    split at hq
    · rename_i e; subst e; injection hq with hq; subst hq
      obtain ⟨v, g1, g2⟩ := hb.slots i _ hsl
      refine ⟨v, g1, hfree _ _ hsb g2, fun x A m cap hx => ?_⟩
      rw [List.getElem?_replicate] at hx
      split at hx
      · simp only [Option.some.injEq, Prod.mk.injEq] at hx
        obtain ⟨rfl, rfl, rfl⟩ := hx
        simp [hdr, β']
      · cases hx
    · obtain ⟨v, g1, g2⟩ := hb.slots q t (hk.sub _ _ hq)
      exact ⟨v, g1, hfree _ _ (belowS_look hkb hq) g2⟩

omit [NM rt] in
theorem look_app {xss : List (List α)} {b : Nat} (l : List (Nat × HB)) (k : Nat) : lookH (l ++ famH rt b xss) k = (match lookH l k with | some h => some h | none => lookH (famH rt b xss) k) := by
  induction l with
  | nil => simp [lookH]
  | cons p l ih => obtain ⟨j, t⟩ := p; rw [List.cons_append, lookH_cons, lookH_cons, ih]; split <;> rfl

omit [NM rt] in
/-- slot j holds the head of row x: it takes the row over, under the name c -/
theorem inv_takeF {i j c x b m cap : Nat} {A : Option Addr} {s : SV} {ds : List (Option (Option Addr × Nat × Nat))} {xs : List α} {xss : List (List α)} {hs : List Nat} {hp0 : List (Nat × HB)} {ks : List Nat} {r : List (Nat × SV)}
    (hsl : lookS st.slots i = some (.fam s b rt.n ds)) (hj : lookS st.slots j = some (.raw (.slice A m cap))) (hx : ds[x]? = some (some (A, m, cap))) (hxs : xss[x]? = some xs) (hsb : s.low b = true) (hsc : s.free c = true) (hk : Keep st.slots ks r) (hkb : belowS b r = true) (hkc : freeS c r = true)
    (hc : Nat.blt c b = true) (hT : Tl b (famH rt b xss) st.heap) (hh : KeepH st.heap hs hp0) (hl : belowH b hp0 = true) (hno : lookH hp0 c = none) (hi : Inv cx st a w) :
    Inv cx ⟨(i, .fam s b rt.n (ds.set x none)) :: (j, .own c rt.n 0 m) :: r, (c, ⟨rt, xs⟩) :: (hp0 ++ famH rt b (xss.set x []))⟩ a w := by
  obtain ⟨β, hb⟩ := hi
  have hcb := blt_lt hc
  have hxl : x < xss.length := (List.getElem?_eq_some_iff.1 hxs).1
  have hsp : ∀ k h, lookH ((c, ⟨rt, xs⟩) :: (hp0 ++ famH rt b (xss.set x []))) k = some h → (k = c ∧ h = ⟨rt, xs⟩) ∨ (k ≠ c ∧ k < b ∧ lookH st.heap k = some h) ∨ (k = x + b ∧ h = ⟨rt, []⟩) ∨ (b ≤ k ∧ k ≠ x + b ∧ lookH st.heap k = some h) := fun k h hk' => by
    rw [lookH_cons] at hk'
    split at hk'
    · rename_i e; injection hk' with hk'; exact .inl ⟨e.symm, hk'.symm⟩
    · rename_i e
      rw [look_app] at hk'
      cases e2 : lookH hp0 k with
      | some h' => rw [e2] at hk'; injection hk' with hk'; subst hk'; exact .inr (.inl ⟨fun e3 => e e3.symm, belowH_look hl e2, hh.sub _ _ e2⟩)
      | none =>
        rw [e2] at hk'
        simp only at hk'
        rw [famH_look] at hk'
        split at hk'
        · rename_i g
          by_cases e3 : k = x + b
          · refine .inr (.inr (.inl ⟨e3, ?_⟩))
            subst e3
            rw [show x + b - b = x by omega, List.getElem?_set_self (by omega)] at hk'
            simpa using hk'.symm
          · refine .inr (.inr (.inr ⟨g, e3, ?_⟩))
            rw [List.getElem?_set_ne (by omega)] at hk'
            rw [hT.look g, famH_look, if_pos g]; exact hk'
        · cases hk'
  have hold : lookH st.heap (x + b) = some ⟨rt, xs⟩ := by rw [hT.look (by omega), famH_at, hxs]; rfl
  let f : Nat → Nat := fun k => if k = c then x + b else k
  let β' : Loc := fun k => if k = c then β (x + b) else if k = x + b then none else β k
  have hfree : ∀ (t : SV) (v : Value), t.free c = true → t.free (x + b) = true → t.holds β w (okOf cx st.heap β w) v → t.holds β' w (okOf cx st.heap β w) v := fun t v h1 h2 hv =>
    SV.turn (fun nm hn => by
      have z1 : nm ≠ c := fun e => by subst e; rw [h1] at hn; cases hn
      have z2 : nm ≠ x + b := fun e => by subst e; rw [h2] at hn; cases hn
      simp [β', z1, z2]) hv
  obtain ⟨v, g1, g2, g3⟩ := hb.slots i _ hsl
  obtain ⟨vj, g4, g5⟩ := hb.slots j _ hj
  have g5 : vj = .slice A m cap := g5
  refine ⟨β', hb.re f β' (fun k h hk' => ?_) (fun k k' h h' hk' hk'' n1 n2 e => ?_) (fun q t hq => ?_)⟩
  · rcases hsp k h hk' with ⟨rfl, rfl⟩ | ⟨z1, z2, z3⟩ | ⟨rfl, rfl⟩ | ⟨z1, z2, z3⟩
    · exact .inr ⟨by simp [β', f], _, by simp only [f, if_pos]; exact hold, fun _ y => y⟩
    · exact .inr ⟨by simp only [β', f, if_neg z1]; rw [if_neg (by omega)], h, by simp only [f, if_neg z1]; exact z3, fun _ y => y⟩
    · exact .inl ⟨show (if x + b = c then β (x + b) else if x + b = x + b then none else β (x + b)) = none from by rw [if_neg (by omega), if_pos rfl], rfl⟩
    · exact .inr ⟨by simp only [β', f]; rw [if_neg (by omega), if_neg z2, if_neg (by omega)], h, by simp only [f]; rw [if_neg (by omega)]; exact z3, fun _ y => y⟩
  · by_cases e1 : k = c <;> by_cases e2 : k' = c
    · omega
    · simp only [f, if_pos e1, if_neg e2] at e
      exact absurd (by simp only [β']; rw [if_neg e2, if_pos e.symm]) n2
    · simp only [f, if_pos e2, if_neg e1] at e
      exact absurd (by simp only [β']; rw [if_neg e1, if_pos e]) n1
    · simpa only [f, if_neg e1, if_neg e2] using e
  · rw [lookS_cons] at hq
    split at hq
    · rename_i e; subst e; injection hq with hq; subst hq
      refine ⟨v, g1, hfree _ _ hsc (SV.low_free (by omega) hsb) g2, fun x' A' m' cap' hx' => ?_⟩
      have hne : x ≠ x' := fun e => by
        subst e
        rw [List.getElem?_set_self (List.getElem?_eq_some_iff.1 hx).1] at hx'; cases hx'
      rw [List.getElem?_set_ne hne] at hx'
      refine hdr_keep ⟨by simp only [β']; rw [if_neg (by omega), if_neg (by omega)], fun b o _ cur e fr hc => ⟨cur, e, fr, hc, rfl⟩⟩ (g3 x' A' m' cap' hx')
    · rw [lookS_cons] at hq
      split at hq
      · rename_i e; subst e; injection hq with hq; subst hq
        refine ⟨vj, g4, ?_⟩
        rw [g5]
        have h9 := g3 x A m cap hx
        simp only [SV.holds]
        unfold hdr at h9 ⊢
        simp only [β', if_pos]
        exact h9
      · have hq' := hk.sub _ _ hq
        obtain ⟨u, h5, h6⟩ := hb.slots q t hq'
        exact ⟨u, h5, hfree _ _ (freeS_look hkc hq) (SV.low_free (by omega) (belowS_look hkb hq)) h6⟩

/-- slot j holds the head of the row named c: it is row x of the family from here on -/
theorem inv_giveF {i j c x b m : Nat} {s : SV} {ds : List (Option (Option Addr × Nat × Nat))} {ys : List α} {xss : List (List α)} {hs : List Nat} {hp0 : List (Nat × HB)} {ks : List Nat} {r : List (Nat × SV)}
    (hsl : lookS st.slots i = some (.fam s b rt.n ds)) (hj : lookS st.slots j = some (.own c rt.n 0 m)) (hx : ds[x]? = some none) (hxs : xss[x]? = some []) (hc : lookH st.heap c = some ⟨rt, ys⟩) (hm : m ≤ ys.length) (hsb : s.low b = true) (hsc : s.free c = true) (hk : Keep st.slots ks r) (hkb : belowS b r = true) (hkc : freeS c r = true)
    (hcb : Nat.blt c b = true) (hT : Tl b (famH rt b xss) st.heap) (hh : KeepH st.heap hs hp0) (hl : belowH b hp0 = true) (hno : lookH hp0 c = none) (hi : Inv cx st a w) :
    ∃ A cap, Inv cx ⟨(i, .fam s b rt.n (ds.set x (some (A, m, cap)))) :: (j, .raw (.slice A m cap)) :: r, hp0 ++ famH rt b (xss.set x (ys.take m))⟩ a w := by
  obtain ⟨β, hb⟩ := hi
  have hcb := blt_lt hcb
  have hxl : x < xss.length := (List.getElem?_eq_some_iff.1 hxs).1
  obtain ⟨v, g1, g2, g3⟩ := hb.slots i _ hsl
  obtain ⟨vj, g4, g5⟩ := hb.slots j _ hj
  obtain ⟨A, cap, g6⟩ := hdr_form g5
  subst g6
  have hsp : ∀ k h, lookH (hp0 ++ famH rt b (xss.set x (ys.take m))) k = some h → (k ≠ c ∧ k < b ∧ lookH st.heap k = some h) ∨ (k = x + b ∧ h = ⟨rt, ys.take m⟩) ∨ (b ≤ k ∧ k ≠ x + b ∧ lookH st.heap k = some h) := fun k h hk' => by
    rw [look_app] at hk'
    cases e2 : lookH hp0 k with
    | some h' => rw [e2] at hk'; injection hk' with hk'; subst hk'; exact .inl ⟨fun e => (by subst e; rw [hno] at e2; cases e2), belowH_look hl e2, hh.sub _ _ e2⟩
    | none =>
      rw [e2] at hk'
      simp only at hk'
      rw [famH_look] at hk'
      split at hk'
      · rename_i g
        by_cases e3 : k = x + b
        · refine .inr (.inl ⟨e3, ?_⟩)
          subst e3
          rw [show x + b - b = x by omega, List.getElem?_set_self (by omega)] at hk'
          simpa using hk'.symm
        · refine .inr (.inr ⟨g, e3, ?_⟩)
          rw [List.getElem?_set_ne (by omega)] at hk'
          rw [hT.look g, famH_look, if_pos g]; exact hk'
      · cases hk'
  let f : Nat → Nat := fun k => if k = x + b then c else k
  let β' : Loc := fun k => if k = x + b then β c else β k
  have hfree : ∀ (t : SV) (v : Value), t.free (x + b) = true → t.holds β w (okOf cx st.heap β w) v → t.holds β' w (okOf cx st.heap β w) v := fun t v h2 hv =>
    SV.turn (fun nm hn => by
      have z2 : nm ≠ x + b := fun e => by subst e; rw [h2] at hn; cases hn
      simp [β', z2]) hv
  refine ⟨A, cap, β', hb.re f β' (fun k h hk' => ?_) (fun k k' h h' hk' hk'' n1 n2 e => ?_) (fun q t hq => ?_)⟩
  · rcases hsp k h hk' with ⟨z1, z2, z3⟩ | ⟨rfl, rfl⟩ | ⟨z1, z2, z3⟩
    · exact .inr ⟨by simp only [β', f]; rw [if_neg (by omega), if_neg (by omega)], h, by simp only [f]; rw [if_neg (by omega)]; exact z3, fun _ y => y⟩
    · refine .inr ⟨by simp only [β', f, if_pos], _, by simp only [f, if_pos]; exact hc, fun l hl' => ?_⟩
      cases l with
      | none => have hl' : ys = [] := hl'; subst hl'; simp [HB.holds]
      | some bo =>
        obtain ⟨b', o'⟩ := bo
        refine ⟨fun hm' => ?_, fun hm' => by rw [show rt.mp = false from NM.no] at hm'; cases hm'⟩
        obtain ⟨cur, e', q1, q2, q3⟩ := hl'.1 hm'
        refine ⟨cur, e', q1, ?_, fun i' x' hi' => q3 i' x' ?_⟩
        · have : (ys.take m).length * rt.n ≤ ys.length * rt.n := Nat.mul_le_mul_right _ (by simp; omega)
          simp only at q2 ⊢
          omega
        · simp only at hi'
          rw [List.getElem?_take] at hi'
          split at hi'
          · exact hi'
          · cases hi'
    · exact .inr ⟨by simp only [β', f]; rw [if_neg z2, if_neg z2], h, by simp only [f]; rw [if_neg z2]; exact z3, fun _ y => y⟩
  · have hck : ∀ k h, lookH (hp0 ++ famH rt b (xss.set x (ys.take m))) k = some h → k ≠ c := fun k h hk' => by
      rcases hsp k h hk' with ⟨z1, _, _⟩ | ⟨z1, _⟩ | ⟨z1, _, _⟩ <;> omega
    have c1 := hck k h hk'
    have c2 := hck k' h' hk''
    have e : (if k = x + b then c else k) = (if k' = x + b then c else k') := e
    by_cases e1 : k = x + b <;> by_cases e2 : k' = x + b
    · omega
    · rw [if_pos e1, if_neg e2] at e; omega
    · rw [if_neg e1, if_pos e2] at e; omega
    · rw [if_neg e1, if_neg e2] at e; exact e
  · rw [lookS_cons] at hq
    split at hq
    · rename_i e; subst e; injection hq with hq; subst hq
      refine ⟨v, g1, hfree _ _ (SV.low_free (by omega) hsb) g2, fun x' A' m' cap' hx' => ?_⟩
      by_cases hne : x = x'
      · subst hne
        rw [List.getElem?_set_self (List.getElem?_eq_some_iff.1 hx).1] at hx'
        simp only [Option.some.injEq, Prod.mk.injEq] at hx'
        obtain ⟨rfl, rfl, rfl⟩ := hx'
        unfold SV.holds at g5
        unfold hdr at g5 ⊢
        simp only [β', if_pos]
        exact g5
      · rw [List.getElem?_set_ne hne] at hx'
        refine hdr_keep ⟨by simp only [β']; rw [if_neg (by omega)], fun b o _ cur e fr hc => ⟨cur, e, fr, hc, rfl⟩⟩ (g3 x' A' m' cap' hx')
    · rw [lookS_cons] at hq
      split at hq
      · rename_i e; subst e; injection hq with hq; subst hq
        exact ⟨_, g4, rfl⟩
      · have hq' := hk.sub _ _ hq
        obtain ⟨u, h5, h6⟩ := hb.slots q t hq'
        exact ⟨u, h5, hfree _ _ (SV.low_free (by omega) (belowS_look hkb hq)) h6⟩

/-- the family's rows and the row of their heads: a row of lists from here on -/
theorem inv_foldF {i nm b : Nat} {s : SV} {hds : List (Option Addr × Nat × Nat)} {xss : List (List α)} {hs : List Nat} {hp0 : List (Nat × HB)} {ks : List Nat} {r : List (Nat × SV)}
    (hsl : lookS st.slots i = some (.fam s b rt.n (hds.map some))) (hlen : hds.length = xss.length) (hls : ∀ (x : Nat) (A : Option Addr) (m cap : Nat), hds[x]? = some (A, m, cap) → ∃ xs : List α, xss[x]? = some xs ∧ m = xs.length) (hn : lookH st.heap nm = some ⟨rHd, hds⟩) (hnb : Nat.blt nm b = true) (hsb : s.low b = true) (hk : Keep st.slots ks r) (hkb : belowS b r = true)
    (hT : Tl b (famH rt b xss) st.heap) (hh : KeepH st.heap hs hp0) (hl : belowH b hp0 = true) (hno : lookH hp0 nm = none) (hi : Inv cx st a w) :
    Inv cx ⟨(i, s) :: r, (nm, ⟨rSlice rt, xss⟩) :: hp0⟩ a w := by
  obtain ⟨β, hb⟩ := hi
  have hnb := blt_lt hnb
  obtain ⟨v, g1, g2, g3⟩ := hb.slots i _ hsl
  have hsp : ∀ k h, lookH ((nm, HB.mk (rSlice rt) xss) :: hp0) k = some h → (k = nm ∧ h = ⟨rSlice rt, xss⟩) ∨ (k ≠ nm ∧ k < b ∧ lookH st.heap k = some h) := fun k h hk' => by
    rw [lookH_cons] at hk'
    split at hk'
    · rename_i e; injection hk' with hk'; exact .inl ⟨e.symm, hk'.symm⟩
    · rename_i e; exact .inr ⟨fun e2 => e e2.symm, belowH_look hl hk', hh.sub _ _ hk'⟩
  have hsp' : ∀ k h, lookH ((nm, HB.mk (rSlice rt) xss) :: hp0) k = some h → k < b ∧ ∃ h', lookH st.heap k = some h' := fun k h hk' => by
    rcases hsp k h hk' with ⟨rfl, rfl⟩ | ⟨_, z2, z3⟩
    · exact ⟨hnb, _, hn⟩
    · exact ⟨z2, _, z3⟩
  have hok : ∀ q, okOf cx st.heap β w q → okOf cx ((nm, HB.mk (rSlice rt) xss) :: hp0) β w q ∧ w.heap[q]? = w.heap[q]? := fun q ⟨h1, h2, h3⟩ => ⟨⟨h1, h2, fun k h hk' x hx => by
    obtain ⟨_, h', z⟩ := hsp' k h hk'
    exact h3 k h' z x hx⟩, rfl⟩
  have hfam : ∀ x xs, xss[x]? = some xs → lookH st.heap (x + b) = some ⟨rt, xs⟩ := fun x xs hx => by rw [hT.look (by omega), famH_at, hx]; rfl
  refine ⟨β, hb.below, hb.old, hb.defers, hb.size, fun k h hk' x hx => ?_, fun k k' h h' hk' hk'' x y hx hy he => ?_, fun k h hk' => ?_, fun q t hq => ?_⟩
  · obtain ⟨_, h', z⟩ := hsp' k h hk'
    exact hb.own k h' z x hx
  · obtain ⟨_, h1, z⟩ := hsp' k h hk'
    obtain ⟨_, h2, z'⟩ := hsp' k' h' hk''
    exact hb.sep k k' h1 h2 z z' x y hx hy he
  · rcases hsp k h hk' with ⟨rfl, rfl⟩ | ⟨z1, _, z3⟩
    · have hr := hb.rows k _ hn
      cases hβ : β k with
      | none =>
        rw [hβ] at hr
        have hr : hds = [] := hr
        subst hr
        have : xss = [] := List.length_eq_zero_iff.1 hlen.symm
        exact this
      | some bo =>
        obtain ⟨b0, o0⟩ := bo
        rw [hβ] at hr
        refine ⟨fun _ => ?_, fun hm => by rw [show (rSlice rt).mp = false from NM.no] at hm; cases hm⟩
        obtain ⟨cur, e, q1, q2, q3⟩ := hr.1 rfl
        refine ⟨cur, e, q1, by have e1 : (rSlice rt).n = 1 := rfl; have e2 : rHd.n = 1 := rfl; simp only [e1, e2, hlen] at q2 ⊢; exact q2, fun x xs hx => ?_⟩
        have hxl : x < hds.length := by rw [hlen]; exact (List.getElem?_eq_some_iff.1 hx).1
        obtain ⟨cs, q4, q5⟩ := q3 x hds[x] (by simp [hxl])
        obtain ⟨A, m, cap, hd⟩ : ∃ A m cap, hds[x]? = some (A, m, cap) := ⟨_, _, _, by rw [List.getElem?_eq_getElem hxl]⟩
        obtain ⟨xs', hx', hm⟩ := hls x A m cap hd
        rw [hx] at hx'; injection hx' with hx'; subst hx'
        have hhd := g3 x A m cap (by simp [hd])
        have hdx : hds[x] = (A, m, cap) := by rw [List.getElem?_eq_getElem hxl] at hd; injection hd
        have hval := own_sliceRep (rt := rt) hb (hfam x xs hx) hhd (by omega) (ok := okOf cx ((k, HB.mk (rSlice rt) xss) :: hp0) β w) (fun q hq => (hok q hq).1) (fun b1 o1 hbo => by
          have z := hb.own (x + b) _ (hfam x xs hx) _ hbo
          exact ⟨.inr z.1, z.2, fun k' h' hk'' y hy e1 => by
            obtain ⟨z1, h'', z2⟩ := hsp' k' h' hk''
            have := hb.sep k' (x + b) _ _ z2 (hfam x xs hx) y (b1, o1) hy hbo e1
            omega⟩)
        rw [List.drop_zero, show List.take m xs = xs by rw [hm, List.take_length]] at hval
        have hcells := (rSlice rt).val_cells hval
        refine ⟨_, hcells, fun j u hj => ?_⟩
        rw [q4, hdx] at q5
        have : (Value.slice A m cap).cells.toList = [Value.slice A m cap] := rfl
        rw [this] at hj
        exact q5 j u hj
    · exact HB.keep hok (fun _ _ => rfl) (hb.rows k h z3)
  · rw [lookS_cons] at hq
    split at hq
    · rename_i e; subst e; injection hq with hq; subst hq
      exact ⟨v, g1, SV.keep hok (fun nm _ => ⟨rfl, fun b o _ cur e fr hc => ⟨cur, e, fr, hc, rfl⟩⟩) g2⟩
    · obtain ⟨u, h5, h6⟩ := hb.slots q t (hk.sub _ _ hq)
      exact ⟨u, h5, SV.keep hok (fun nm _ => ⟨rfl, fun b o _ cur e fr hc => ⟨cur, e, fr, hc, rfl⟩⟩) h6⟩

omit [NM rt] in
theorem jg_takeF (i j c x : Nat) (ks hs : List Nat) {b m cap : Nat} {A : Option Addr} {s : SV} {ds : List (Option (Option Addr × Nat × Nat))} {xs : List α} {xss : List (List α)} {hp0 : List (Nat × HB)} {r : List (Nat × SV)} {l : List Oper}
    (hsl : lookS st.slots i = some (.fam s b rt.n ds)) (hj : lookS st.slots j = some (.raw (.slice A m cap))) (hx : ds[x]? = some (some (A, m, cap))) (hxs : xss[x]? = some xs) (hsb : s.low b = true) (hsc : s.free c = true) (hk : Keep st.slots ks r) (hkb : belowS b r = true) (hkc : freeS c r = true)
    (hc : Nat.blt c b = true) (hT : Tl b (famH rt b xss) st.heap) (hh : KeepH st.heap hs hp0) (hl : belowH b hp0 = true) (hno : lookH hp0 c = none)
    (h : JG P cx ops ⟨(i, .fam s b rt.n (ds.set x none)) :: (j, .own c rt.n 0 m) :: r, (c, ⟨rt, xs⟩) :: (hp0 ++ famH rt b (xss.set x []))⟩ l k) : JG P cx ops st l k := fun a w hi => h a w (inv_takeF hsl hj hx hxs hsb hsc hk hkb hkc hc hT hh hl hno hi)
theorem jg_giveF (i j c x : Nat) (ks hs : List Nat) {b m : Nat} {s : SV} {ds : List (Option (Option Addr × Nat × Nat))} {ys : List α} {xss : List (List α)} {hp0 : List (Nat × HB)} {r : List (Nat × SV)} {l : List Oper}
    (hsl : lookS st.slots i = some (.fam s b rt.n ds)) (hj : lookS st.slots j = some (.own c rt.n 0 m)) (hx : ds[x]? = some none) (hxs : xss[x]? = some []) (hc : lookH st.heap c = some ⟨rt, ys⟩) (hm : m ≤ ys.length) (hsb : s.low b = true) (hsc : s.free c = true) (hk : Keep st.slots ks r) (hkb : belowS b r = true) (hkc : freeS c r = true)
    (hcb : Nat.blt c b = true) (hT : Tl b (famH rt b xss) st.heap) (hh : KeepH st.heap hs hp0) (hl : belowH b hp0 = true) (hno : lookH hp0 c = none)
    (h : ∀ A cap, JG P cx ops ⟨(i, .fam s b rt.n (ds.set x (some (A, m, cap)))) :: (j, .raw (.slice A m cap)) :: r, hp0 ++ famH rt b (xss.set x (ys.take m))⟩ l k) : JG P cx ops st l k := fun a w hi => by
  obtain ⟨A, cap, h1⟩ := inv_giveF hsl hj hx hxs hc hm hsb hsc hk hkb hkc hcb hT hh hl hno hi
  exact h A cap a w h1
omit [NM rt] in
theorem jt_takeF (i j c x : Nat) (ks hs : List Nat) {b m cap : Nat} {A : Option Addr} {s : SV} {ds : List (Option (Option Addr × Nat × Nat))} {xs : List α} {xss : List (List α)} {hp0 : List (Nat × HB)} {r : List (Nat × SV)} {l : List Oper} {q : Nat}
    (hsl : lookS st.slots i = some (.fam s b rt.n ds)) (hj : lookS st.slots j = some (.raw (.slice A m cap))) (hx : ds[x]? = some (some (A, m, cap))) (hxs : xss[x]? = some xs) (hsb : s.low b = true) (hsc : s.free c = true) (hk : Keep st.slots ks r) (hkb : belowS b r = true) (hkc : freeS c r = true)
    (hc : Nat.blt c b = true) (hT : Tl b (famH rt b xss) st.heap) (hh : KeepH st.heap hs hp0) (hl : belowH b hp0 = true) (hno : lookH hp0 c = none)
    (h : JT P cx l q ⟨(i, .fam s b rt.n (ds.set x none)) :: (j, .own c rt.n 0 m) :: r, (c, ⟨rt, xs⟩) :: (hp0 ++ famH rt b (xss.set x []))⟩ k) : JT P cx l q st k := fun a w hi => h a w (inv_takeF hsl hj hx hxs hsb hsc hk hkb hkc hc hT hh hl hno hi)
theorem jt_giveF (i j c x : Nat) (ks hs : List Nat) {b m : Nat} {s : SV} {ds : List (Option (Option Addr × Nat × Nat))} {ys : List α} {xss : List (List α)} {hp0 : List (Nat × HB)} {r : List (Nat × SV)} {l : List Oper} {q : Nat}
    (hsl : lookS st.slots i = some (.fam s b rt.n ds)) (hj : lookS st.slots j = some (.own c rt.n 0 m)) (hx : ds[x]? = some none) (hxs : xss[x]? = some []) (hc : lookH st.heap c = some ⟨rt, ys⟩) (hm : m ≤ ys.length) (hsb : s.low b = true) (hsc : s.free c = true) (hk : Keep st.slots ks r) (hkb : belowS b r = true) (hkc : freeS c r = true)
    (hcb : Nat.blt c b = true) (hT : Tl b (famH rt b xss) st.heap) (hh : KeepH st.heap hs hp0) (hl : belowH b hp0 = true) (hno : lookH hp0 c = none)
    (h : ∀ A cap, JT P cx l q ⟨(i, .fam s b rt.n (ds.set x (some (A, m, cap)))) :: (j, .raw (.slice A m cap)) :: r, hp0 ++ famH rt b (xss.set x (ys.take m))⟩ k) : JT P cx l q st k := fun a w hi => by
  obtain ⟨A, cap, h1⟩ := inv_giveF hsl hj hx hxs hc hm hsb hsc hk hkb hkc hcb hT hh hl hno hi
  exact h A cap a w h1
theorem jn_vacF (i b n : Nat) (ks hs : List Nat) {s : SV} {hp0 : List (Nat × HB)} {r : List (Nat × SV)} (rt : RT α) [NM rt] (hsl : lookS st.slots i = some s) (hsb : s.low b = true) (hk : Keep st.slots ks r) (hkb : belowS b r = true)
    (hh : KeepH st.heap hs hp0) (hl : belowH b hp0 = true)
    (h : JN P cx ⟨(i, .fam s b rt.n (List.replicate n (some (none, 0, 0)))) :: r, hp0 ++ famH rt b (List.replicate n [])⟩ k) : JN P cx st k := fun a w hi => h a w (inv_vacF rt hsl hsb hk hkb hh hl hi)
theorem jn_foldF (i nm : Nat) (ks hs : List Nat) {b : Nat} {s : SV} {hds : List (Option Addr × Nat × Nat)} {xss : List (List α)} {hp0 : List (Nat × HB)} {r : List (Nat × SV)}
    (hsl : lookS st.slots i = some (.fam s b rt.n (hds.map some))) (hlen : hds.length = xss.length) (hls : ∀ (x : Nat) (A : Option Addr) (m cap : Nat), hds[x]? = some (A, m, cap) → ∃ xs : List α, xss[x]? = some xs ∧ m = xs.length) (hn : lookH st.heap nm = some ⟨rHd, hds⟩) (hnb : Nat.blt nm b = true) (hsb : s.low b = true) (hk : Keep st.slots ks r) (hkb : belowS b r = true)
    (hT : Tl b (famH rt b xss) st.heap) (hh : KeepH st.heap hs hp0) (hl : belowH b hp0 = true) (hno : lookH hp0 nm = none)
    (h : JN P cx ⟨(i, s) :: r, (nm, ⟨rSlice rt, xss⟩) :: hp0⟩ k) : JN P cx st k := fun a w hi => h a w (inv_foldF hsl hlen hls hn hnb hsb hk hkb hT hh hl hno hi)
theorem j_foldF (i nm : Nat) (ks hs : List Nat) {b : Nat} {s : SV} {hds : List (Option Addr × Nat × Nat)} {xss : List (List α)} {hp0 : List (Nat × HB)} {r : List (Nat × SV)}
    (hsl : lookS st.slots i = some (.fam s b rt.n (hds.map some))) (hlen : hds.length = xss.length) (hls : ∀ (x : Nat) (A : Option Addr) (m cap : Nat), hds[x]? = some (A, m, cap) → ∃ xs : List α, xss[x]? = some xs ∧ m = xs.length) (hn : lookH st.heap nm = some ⟨rHd, hds⟩) (hnb : Nat.blt nm b = true) (hsb : s.low b = true) (hk : Keep st.slots ks r) (hkb : belowS b r = true)
    (hT : Tl b (famH rt b xss) st.heap) (hh : KeepH st.heap hs hp0) (hl : belowH b hp0 = true) (hno : lookH hp0 nm = none)
    (h : J P cx ⟨(i, s) :: r, (nm, ⟨rSlice rt, xss⟩) :: hp0⟩ c k) : J P cx st c k := fun a w hi => h a w (inv_foldF hsl hlen hls hn hnb hsb hk hkb hT hh hl hno hi)
/-- the heads of rows -/
def HdOK (hds : List (Option Addr × Nat × Nat)) (xss : List (List α)) : Prop := hds.length = xss.length ∧ ∀ (x : Nat) (A : Option Addr) (m cap : Nat), hds[x]? = some (A, m, cap) → ∃ xs : List α, xss[x]? = some xs ∧ m = xs.length
theorem HdOK.zero (n : Nat) : HdOK (List.replicate n (none, 0, 0)) (List.replicate n ([] : List α)) := by
  refine ⟨by simp, fun x A m cap h => ?_⟩
  rw [List.getElem?_replicate] at h
  split at h
  · rename_i hx
    simp only [Option.some.injEq, Prod.mk.injEq] at h
    exact ⟨[], by rw [List.getElem?_replicate, if_pos hx], by simp [h.2.1.symm]⟩
  · cases h
theorem HdOK.at {hds : List (Option Addr × Nat × Nat)} {xss : List (List α)} (h : HdOK hds xss) {x : Nat} {xs : List α} (hx : xss[x]? = some xs) : ∃ A cap, hds[x]? = some (A, xs.length, cap) := by
  have hl : x < xss.length := (List.getElem?_eq_some_iff.1 hx).1
  have hl2 : x < hds.length := by rw [h.1]; exact hl
  obtain ⟨xs', h1, h2⟩ := h.2 x hds[x].1 hds[x].2.1 hds[x].2.2 (by rw [List.getElem?_eq_getElem hl2])
  rw [hx] at h1; injection h1 with h1; subst h1
  exact ⟨hds[x].1, hds[x].2.2, by rw [List.getElem?_eq_getElem hl2, ← h2]⟩
theorem HdOK.set {hds : List (Option Addr × Nat × Nat)} {xss : List (List α)} (h : HdOK hds xss) {x : Nat} {A : Option Addr} {m cap : Nat} {ys : List α} (hx : x < xss.length) (hm : m = ys.length) : HdOK (hds.set x (A, m, cap)) (xss.set x ys) := by
  refine ⟨by simp [h.1], fun y B m' cap' hy => ?_⟩
  by_cases e : x = y
  · subst e
    rw [List.getElem?_set_self (by rw [h.1]; exact hx)] at hy
    simp only [Option.some.injEq, Prod.mk.injEq] at hy
    exact ⟨ys, by rw [List.getElem?_set_self hx], by rw [← hy.2.1]; exact hm⟩
  · rw [List.getElem?_set_ne e] at hy ⊢
    exact h.2 y B m' cap' hy
theorem map_range_set {β : Type} {n x : Nat} {f f' : Nat → β} (hx : x < n) (h : ∀ y, y < n → y ≠ x → f' y = f y) : (List.range n).map f' = ((List.range n).map f).set x (f' x) := by
  apply List.ext_getElem?
  intro y
  by_cases e : x = y
  · subst e; rw [List.getElem?_set_self (by simpa using hx)]; simp [hx]
  · rw [List.getElem?_set_ne e]
    simp only [List.getElem?_map]
    by_cases hy : y < n
    · simp [hy, h y hy (fun e2 => e e2.symm)]
    · simp [hy]
end
end Go.Eng
