import Derived.Test.YtehcaebnijlhgaaGreatDoorM9
import Derived.Test.YtehcaebnijlhgaaGreatDoorM3
import Derived.Test.YtehcaebnijlhgaaGreatDoorM4
set_option linter.unusedVariables false
set_option linter.unusedSimpArgs false
namespace Go.Eng
section
variable {α : Type}
def eR (rt : RT α) : Nat → List (List α) → List (Nat × HB)
  | _, [] => []
  | b, xs :: r => (b, ⟨rt, xs⟩) :: eR rt (b + 1) r
theorem fp (rt : RT α) : ∀ (xss : List (List α)) (b k : Nat), az (eR rt b xss) k = if b ≤ k then (xss[k - b]?).map (fun xs => HB.mk rt xs) else none
  | [], b, k => by simp [eR, az]
  | xs :: r, b, k => by
    rw [eR, aW, fp rt r (b + 1) k]
    by_cases h1 : b = k
    · subst h1; simp
    rw [if_neg h1]
    by_cases h2 : b ≤ k
    · rw [if_pos (by omega), if_pos h2, show k - b = (k - (b + 1)) + 1 by omega]; simp
    rw [if_neg (by omega), if_neg h2]
theorem py {rt : RT α} {xss : List (List α)} {b k : Nat} (h : Nat.blt k b = true) : az (eR rt b xss) k = none := by
  rw [fp, if_neg]; have := jT h; omega
theorem sA {rt : RT α} {xss : List (List α)} {b x : Nat} : az (eR rt b xss) (x + b) = (xss[x]?).map (fun xs => HB.mk rt xs) := by
  rw [fp, if_pos (by omega), show x + b - b = x by omega]
inductive Tl (b : Nat) (T : List (Nat × HB)) : List (Nat × HB) → Prop
  | nil : Tl b T T
  | cons {k : Nat} {x : HB} {l : List (Nat × HB)} (hk : Nat.blt k b = true) (h : Tl b T l) : Tl b T ((k, x) :: l)
theorem Tl.look {b : Nat} {T l : List (Nat × HB)} (h : Tl b T l) {k : Nat} (hk : b ≤ k) : az l k = az T k := by
  induction h with
  | nil => rfl
  | cons h1 _ ih => rw [aW, if_neg (by have := jT h1; omega), ih]
theorem cF {rt : RT α} {b : Nat} {xss xss' : List (List α)} {l : List (Nat × HB)} (h : Tl b (eR rt b xss) l) (e : xss = xss') : ∀ i s, az (eR rt b xss') i = some s → az l i = some s := by
  subst e
  intro i s hs
  rw [h.look, hs]
  rw [fp] at hs
  split at hs
  · assumption
  cases hs
inductive KeepHF (l T : List (Nat × HB)) : List Nat → List (Nat × HB) → Prop
  | nil : KeepHF l T [] T
  | cons {j : Nat} {ks : List Nat} {t : HB} {r : List (Nat × HB)} (h : az l j = some t) (hr : KeepHF l T ks r) : KeepHF l T (j :: ks) ((j, t) :: r)
theorem KeepHF.sub {l T : List (Nat × HB)} {ks : List Nat} {r : List (Nat × HB)} (h : KeepHF l T ks r) (hT : ∀ i s, az T i = some s → az l i = some s) : ∀ i s, az r i = some s → az l i = some s := by
  induction h with
  | nil => exact hT
  | cons h _ ih => exact aL h rfl ih
def iC (b : Nat) : List (Nat × HB) → Bool
  | [] => true
  | (k, _) :: r => Nat.blt k b && iC b r
theorem ir {b : Nat} : ∀ {l : List (Nat × HB)} {k : Nat} {h : HB}, iC b l = true → az l k = some h → k < b
  | [], _, _, _, h => by simp [az] at h
  | (j, t) :: r, k, s, hl, h => by
    simp only [iC, Bool.and_eq_true] at hl
    rw [aW] at h
    split at h
    · rename_i e; subst e; exact jT hl.1
    exact ir hl.2 h
def SV.low (b : Nat) : SV → Bool
  | .own k _ _ _ | .optr k _ _ _ | .mref k | .epown k _ _ _ => Nat.blt k b
  | .both s _ => s.low b
  | .lnk s _ t => s.low b && t.low b
  | .fam .. => false
  | .gd _ s => s.low b
  | .tup2 s t => s.low b && t.low b
  | .tup3 s t u => s.low b && t.low b && u.low b
  | .tup4 s t u v => s.low b && t.low b && u.low b && v.low b
  | _ => true
theorem SV.low_free {b nm : Nat} (hb : b ≤ nm) : ∀ {s : SV}, s.low b = true → s.free nm = true
  | .raw _, _ => rfl
  | .tv _ _, _ => rfl
  | .eptr _ _, _ => rfl
  | .own k _ _ _, h | .optr k _ _ _, h | .mref k, h | .epown k _ _ _, h => by
    simp only [SV.low] at h
    have := jT h
    simp only [SV.free, Bool.not_eq_true']
    cases e : Nat.beq k nm with
    | false => rfl
    | true => have := Nat.eq_of_beq_eq_true e; omega
  | .both s _, h => SV.low_free hb (s := s) h
  | .gd _ s, h => SV.low_free hb (s := s) h
  | .lnk s _ t, h => by simp only [SV.low, Bool.and_eq_true] at h; simp [SV.free, SV.low_free hb h.1, SV.low_free hb h.2]
  | .tup2 s t, h => by simp only [SV.low, Bool.and_eq_true] at h; simp [SV.free, SV.low_free hb h.1, SV.low_free hb h.2]
  | .tup3 s t u, h => by simp only [SV.low, Bool.and_eq_true] at h; simp [SV.free, SV.low_free hb h.1.1, SV.low_free hb h.1.2, SV.low_free hb h.2]
  | .tup4 s t u v, h => by simp only [SV.low, Bool.and_eq_true] at h; simp [SV.free, SV.low_free hb h.1.1.1, SV.low_free hb h.1.1.2, SV.low_free hb h.1.2, SV.low_free hb h.2]
def iB (b : Nat) : List (Nat × SV) → Bool
  | [] => true
  | (_, s) :: r => s.low b && iB b r
theorem jH {b : Nat} : ∀ {l : List (Nat × SV)} {i : Nat} {s : SV}, iB b l = true → a8 l i = some s → s.low b = true
  | [], _, _, _, h => by simp [a8] at h
  | (j, t) :: r, i, s, hf, h => by
    simp only [iB, Bool.and_eq_true] at hf
    rw [aT] at h
    split at h
    · injection h with h; subst h; exact hf.1
    exact jH hf.2 h
end
section
variable {P : Program} {cx : Cx} {st st' : St} {β : Loc} {a : Act} {w w' : World} {ops : Array Oper} {k : Kn} {c : Code}
variable {α : Type} {rt : RT α} [NM rt]
omit [NM rt] in
theorem cE (ks hs : List Nat) {r : List (Nat × SV)} {hp : List (Nat × HB)} {b : Nat} {xss : List (List α)} (h : Keep st.slots ks r) (hT : Tl b (eR rt b xss) st.heap) (hh : KeepHF st.heap (eR rt b xss) hs hp) (hj : JN P cx ⟨r, hp⟩ k) : JN P cx st k :=
  Aa (st' := ⟨r, hp⟩) ⟨h.sub, hh.sub (cF hT rfl)⟩ hj
theorem InvB.re (hb : InvB cx st β a w) {sl : List (Nat × SV)} {hp : List (Nat × HB)} (f : Nat → Nat) (β' : Loc)
    (h1 : ∀ k h, az hp k = some h → (β' k = none ∧ h.xs = []) ∨ (β' k = β (f k) ∧ ∃ h0, az st.heap (f k) = some h0 ∧ ∀ l, h0.holds w (bM cx st.heap β w) l → h.holds w (bM cx st.heap β w) l))
    (h2 : ∀ k k' h h', az hp k = some h → az hp k' = some h' → β' k ≠ none → β' k' ≠ none → f k = f k' → k = k')
    (h3 : ∀ i s, a8 sl i = some s → ∃ v, a.tmps[i]? = some v ∧ s.holds β' w (bM cx st.heap β w) v) : InvB cx ⟨sl, hp⟩ β' a w := by
  have hat : ∀ k h x, az hp k = some h → β' k = some x → β (f k) = some x ∧ ∃ h0, az st.heap (f k) = some h0 := fun k h x hk hx => by
    rcases h1 k h hk with ⟨e, _⟩ | ⟨e, h0, g1, _⟩
    · rw [e] at hx; cases hx
    exact ⟨e ▸ hx, h0, g1⟩
  have hok : ∀ b, bM cx st.heap β w b → bM cx hp β' w b ∧ w.heap[b]? = w.heap[b]? := fun b ⟨g1, g2, g3⟩ => ⟨⟨g1, g2, fun k h hk x hx => by
    obtain ⟨e, h0, g4⟩ := hat k h x hk hx
    exact g3 _ _ g4 x e⟩, rfl⟩
  refine ⟨hb.below, hb.old, hb.defers, hb.size, fun k h hk x hx => ?_, fun k k' h h' hk hk' x y hx hy he => ?_, fun k h hk => ?_, fun i s hs => ?_⟩
  · obtain ⟨e, h0, g4⟩ := hat k h x hk hx
    exact hb.own _ _ g4 x e
  · obtain ⟨e, h0, g4⟩ := hat k h x hk hx
    obtain ⟨e', h0', g4'⟩ := hat k' h' y hk' hy
    exact h2 k k' h h' hk hk' (by rw [hx]; simp) (by rw [hy]; simp) (hb.sep _ _ _ _ g4 g4' x y e e' he)
  · rcases h1 k h hk with ⟨e, g⟩ | ⟨e, h0, g1, g2⟩
    · rw [e]; exact g
    rw [e]
    exact HB.keep hok (fun _ _ => rfl) (g2 _ (hb.rows _ _ g1))
  obtain ⟨v, g1, g2⟩ := h3 i s hs
  exact ⟨v, g1, SV.keep hok (fun nm _ => ⟨rfl, fun b o _ cur e fr hc => ⟨cur, e, fr, hc, rfl⟩⟩) g2⟩
theorem SV.turn {β' : Loc} {ok : Ok} {s : SV} {v : Value} (h : ∀ nm, s.free nm = false → β' nm = β nm) (hv : s.holds β w ok v) : s.holds β' w ok v :=
  SV.keep (fun b hb => ⟨hb, rfl⟩) (fun nm hn => ⟨h nm hn, fun b o _ cur e fr hc => ⟨cur, e, fr, hc, rfl⟩⟩) hv
omit [NM rt] in
theorem At {i b n : Nat} {s : SV} {hs : List Nat} {hp0 : List (Nat × HB)} {ks : List Nat} {r : List (Nat × SV)} (rt : RT α) [NM rt] (hsl : a8 st.slots i = some s) (hsb : s.low b = true) (hk : Keep st.slots ks r) (hkb : iB b r = true)
    (hh : KeepH st.heap hs hp0) (hl : iC b hp0 = true) (hi : Inv cx st a w) :
    Inv cx ⟨(i, .fam s b rt.n (List.replicate n (some (none, 0, 0)))) :: r, hp0 ++ eR rt b (List.replicate n [])⟩ a w := by
  obtain ⟨β, hb⟩ := hi
  have hap : ∀ (l : List (Nat × HB)) k, az (l ++ eR rt b (List.replicate n [])) k = (match az l k with | some h => some h | none => az (eR rt b (List.replicate n [])) k) := by
    intro l k
    induction l with
    | nil => simp [az]
    | cons p l ih => obtain ⟨j, t⟩ := p; rw [List.cons_append, aW, aW, ih]; split <;> rfl
  have hsp : ∀ k h, az (hp0 ++ eR rt b (List.replicate n [])) k = some h → (k < b ∧ az st.heap k = some h) ∨ (b ≤ k ∧ h = ⟨rt, []⟩) := fun k h hk' => by
    rw [hap] at hk'
    cases e : az hp0 k with
    | some h' => rw [e] at hk'; injection hk' with hk'; subst hk'; exact .inl ⟨ir hl e, hh.sub _ _ e⟩
    | none =>
      rw [e] at hk'
      simp only at hk'
      rw [fp] at hk'
      split at hk'
      · rename_i g
        refine .inr ⟨g, ?_⟩
        rw [List.getElem?_replicate] at hk'
        split at hk'
        · simpa using hk'.symm
        simp at hk'
      cases hk'
  let β' : Loc := fun k => if b ≤ k then none else β k
  have hfree : ∀ (t : SV) (v : Value), t.low b = true → t.holds β w (bM cx st.heap β w) v → t.holds β' w (bM cx st.heap β w) v := fun t v ht hv =>
    SV.turn (fun nm hn => by
      have : ¬ b ≤ nm := fun g => by rw [SV.low_free g ht] at hn; cases hn
      simp [β', this]) hv
  refine ⟨β', hb.re (fun k => k) β' (fun k h hk' => ?_) (fun _ _ _ _ _ _ _ _ e => e) (fun q t hq => ?_)⟩
  · rcases hsp k h hk' with ⟨g1, g2⟩ | ⟨g1, g2⟩
    · exact .inr ⟨by simp [β', Nat.not_le.2 g1], h, g2, fun _ x => x⟩
    exact .inl ⟨by simp [β', g1], by rw [g2]⟩
  rw [aT] at hq
  split at hq
  · rename_i e; subst e; injection hq with hq; subst hq
    obtain ⟨v, g1, g2⟩ := hb.slots i _ hsl
    refine ⟨v, g1, hfree _ _ hsb g2, fun x A m cap hx => ?_⟩
    rw [List.getElem?_replicate] at hx
    split at hx
    · simp only [Option.some.injEq, Prod.mk.injEq] at hx
      obtain ⟨rfl, rfl, rfl⟩ := hx
      simp [hdr, β']
    cases hx
  obtain ⟨v, g1, g2⟩ := hb.slots q t (hk.sub _ _ hq)
  exact ⟨v, g1, hfree _ _ (jH hkb hq) g2⟩
omit [NM rt] in
theorem tI {xss : List (List α)} {b : Nat} (l : List (Nat × HB)) (k : Nat) : az (l ++ eR rt b xss) k = (match az l k with | some h => some h | none => az (eR rt b xss) k) := by
  induction l with
  | nil => simp [az]
  | cons p l ih => obtain ⟨j, t⟩ := p; rw [List.cons_append, aW, aW, ih]; split <;> rfl
omit [NM rt] in
theorem fl {i j c x b m cap : Nat} {A : Option Addr} {s : SV} {ds : List (Option (Option Addr × Nat × Nat))} {xs : List α} {xss : List (List α)} {hs : List Nat} {hp0 : List (Nat × HB)} {ks : List Nat} {r : List (Nat × SV)}
    (hsl : a8 st.slots i = some (.fam s b rt.n ds)) (hj : a8 st.slots j = some (.raw (.slice A m cap))) (hx : ds[x]? = some (some (A, m, cap))) (hxs : xss[x]? = some xs) (hsb : s.low b = true) (hsc : s.free c = true) (hk : Keep st.slots ks r) (hkb : iB b r = true) (hkc : di c r = true)
    (hc : Nat.blt c b = true) (hT : Tl b (eR rt b xss) st.heap) (hh : KeepH st.heap hs hp0) (hl : iC b hp0 = true) (hno : az hp0 c = none) (hi : Inv cx st a w) :
    Inv cx ⟨(i, .fam s b rt.n (ds.set x none)) :: (j, .own c rt.n 0 m) :: r, (c, ⟨rt, xs⟩) :: (hp0 ++ eR rt b (xss.set x []))⟩ a w := by
  obtain ⟨β, hb⟩ := hi
  have hcb := jT hc
  have hxl : x < xss.length := (List.getElem?_eq_some_iff.1 hxs).1
  have hsp : ∀ k h, az ((c, ⟨rt, xs⟩) :: (hp0 ++ eR rt b (xss.set x []))) k = some h → (k = c ∧ h = ⟨rt, xs⟩) ∨ (k ≠ c ∧ k < b ∧ az st.heap k = some h) ∨ (k = x + b ∧ h = ⟨rt, []⟩) ∨ (b ≤ k ∧ k ≠ x + b ∧ az st.heap k = some h) := fun k h hk' => by
    rw [aW] at hk'
    split at hk'
    · rename_i e; injection hk' with hk'; exact .inl ⟨e.symm, hk'.symm⟩
    rename_i e
    rw [tI] at hk'
    cases e2 : az hp0 k with
    | some h' => rw [e2] at hk'; injection hk' with hk'; subst hk'; exact .inr (.inl ⟨fun e3 => e e3.symm, ir hl e2, hh.sub _ _ e2⟩)
    | none =>
      rw [e2] at hk'
      simp only at hk'
      rw [fp] at hk'
      split at hk'
      · rename_i g
        by_cases e3 : k = x + b
        · refine .inr (.inr (.inl ⟨e3, ?_⟩))
          subst e3
          rw [show x + b - b = x by omega, List.getElem?_set_self (by omega)] at hk'
          simpa using hk'.symm
        refine .inr (.inr (.inr ⟨g, e3, ?_⟩))
        rw [List.getElem?_set_ne (by omega)] at hk'
        rw [hT.look g, fp, if_pos g]; exact hk'
      cases hk'
  have hold : az st.heap (x + b) = some ⟨rt, xs⟩ := by rw [hT.look (by omega), sA, hxs]; rfl
  let f : Nat → Nat := fun k => if k = c then x + b else k
  let β' : Loc := fun k => if k = c then β (x + b) else if k = x + b then none else β k
  have hfree : ∀ (t : SV) (v : Value), t.free c = true → t.free (x + b) = true → t.holds β w (bM cx st.heap β w) v → t.holds β' w (bM cx st.heap β w) v := fun t v h1 h2 hv =>
    SV.turn (fun nm hn => by
      have z1 : nm ≠ c := fun e => by subst e; rw [h1] at hn; cases hn
      have z2 : nm ≠ x + b := fun e => by subst e; rw [h2] at hn; cases hn
      simp [β', z1, z2]) hv
  obtain ⟨v, g1, g2, g3⟩ := hb.slots i _ hsl
  obtain ⟨vj, g4, g5⟩ := hb.slots j _ hj
  have g5 : vj = .slice A m cap := g5
  refine ⟨β', hb.re f β' (fun k h hk' => ?_) (fun k k' h h' hk' hk'' n1 n2 e => ?_) (fun q t hq => ?_)⟩
  · rcases hsp k h hk' with ⟨rfl, rfl⟩ | ⟨z1, z2, z3⟩ | ⟨rfl, rfl⟩ | ⟨z1, z2, z3⟩
    · exact .inr ⟨by simp [β', f], _, by simp only [f, if_pos]; exact hold, fun _ y => y⟩
    · exact .inr ⟨by simp only [β', f, if_neg z1]; rw [if_neg (by omega)], h, by simp only [f, if_neg z1]; exact z3, fun _ y => y⟩
    · exact .inl ⟨show (if x + b = c then β (x + b) else if x + b = x + b then none else β (x + b)) = none from by rw [if_neg (by omega), if_pos rfl], rfl⟩
    exact .inr ⟨by simp only [β', f]; rw [if_neg (by omega), if_neg z2, if_neg (by omega)], h, by simp only [f]; rw [if_neg (by omega)]; exact z3, fun _ y => y⟩
  · by_cases e1 : k = c <;> by_cases e2 : k' = c
    · omega
    · simp only [f, if_pos e1, if_neg e2] at e
      exact absurd (by simp only [β']; rw [if_neg e2, if_pos e.symm]) n2
    · simp only [f, if_pos e2, if_neg e1] at e
      exact absurd (by simp only [β']; rw [if_neg e1, if_pos e]) n1
    simpa only [f, if_neg e1, if_neg e2] using e
  rw [aT] at hq
  split at hq
  · rename_i e; subst e; injection hq with hq; subst hq
    refine ⟨v, g1, hfree _ _ hsc (SV.low_free (by omega) hsb) g2, fun x' A' m' cap' hx' => ?_⟩
    have hne : x ≠ x' := fun e => by
      subst e
      rw [List.getElem?_set_self (List.getElem?_eq_some_iff.1 hx).1] at hx'; cases hx'
    rw [List.getElem?_set_ne hne] at hx'
    refine im ⟨by simp only [β']; rw [if_neg (by omega), if_neg (by omega)], fun b o _ cur e fr hc => ⟨cur, e, fr, hc, rfl⟩⟩ (g3 x' A' m' cap' hx')
  rw [aT] at hq
  split at hq
  · rename_i e; subst e; injection hq with hq; subst hq
    refine ⟨vj, g4, ?_⟩
    rw [g5]
    have h9 := g3 x A m cap hx
    simp only [SV.holds]
    unfold hdr at h9 ⊢
    simp only [β', if_pos]
    exact h9
  have hq' := hk.sub _ _ hq
  obtain ⟨u, h5, h6⟩ := hb.slots q t hq'
  exact ⟨u, h5, hfree _ _ (ep hkc hq) (SV.low_free (by omega) (jH hkb hq)) h6⟩
theorem rl {i j c x b m : Nat} {s : SV} {ds : List (Option (Option Addr × Nat × Nat))} {ys : List α} {xss : List (List α)} {hs : List Nat} {hp0 : List (Nat × HB)} {ks : List Nat} {r : List (Nat × SV)}
    (hsl : a8 st.slots i = some (.fam s b rt.n ds)) (hj : a8 st.slots j = some (.own c rt.n 0 m)) (hx : ds[x]? = some none) (hxs : xss[x]? = some []) (hc : az st.heap c = some ⟨rt, ys⟩) (hm : m ≤ ys.length) (hsb : s.low b = true) (hsc : s.free c = true) (hk : Keep st.slots ks r) (hkb : iB b r = true) (hkc : di c r = true)
    (hcb : Nat.blt c b = true) (hT : Tl b (eR rt b xss) st.heap) (hh : KeepH st.heap hs hp0) (hl : iC b hp0 = true) (hno : az hp0 c = none) (hi : Inv cx st a w) :
    ∃ A cap, Inv cx ⟨(i, .fam s b rt.n (ds.set x (some (A, m, cap)))) :: (j, .raw (.slice A m cap)) :: r, hp0 ++ eR rt b (xss.set x (ys.take m))⟩ a w := by
  obtain ⟨β, hb⟩ := hi
  have hcb := jT hcb
  have hxl : x < xss.length := (List.getElem?_eq_some_iff.1 hxs).1
  obtain ⟨v, g1, g2, g3⟩ := hb.slots i _ hsl
  obtain ⟨vj, g4, g5⟩ := hb.slots j _ hj
  obtain ⟨A, cap, g6⟩ := j6 g5
  subst g6
  have hsp : ∀ k h, az (hp0 ++ eR rt b (xss.set x (ys.take m))) k = some h → (k ≠ c ∧ k < b ∧ az st.heap k = some h) ∨ (k = x + b ∧ h = ⟨rt, ys.take m⟩) ∨ (b ≤ k ∧ k ≠ x + b ∧ az st.heap k = some h) := fun k h hk' => by
    rw [tI] at hk'
    cases e2 : az hp0 k with
    | some h' => rw [e2] at hk'; injection hk' with hk'; subst hk'; exact .inl ⟨fun e => (by subst e; rw [hno] at e2; cases e2), ir hl e2, hh.sub _ _ e2⟩
    | none =>
      rw [e2] at hk'
      simp only at hk'
      rw [fp] at hk'
      split at hk'
      · rename_i g
        by_cases e3 : k = x + b
        · refine .inr (.inl ⟨e3, ?_⟩)
          subst e3
          rw [show x + b - b = x by omega, List.getElem?_set_self (by omega)] at hk'
          simpa using hk'.symm
        refine .inr (.inr ⟨g, e3, ?_⟩)
        rw [List.getElem?_set_ne (by omega)] at hk'
        rw [hT.look g, fp, if_pos g]; exact hk'
      cases hk'
  let f : Nat → Nat := fun k => if k = x + b then c else k
  let β' : Loc := fun k => if k = x + b then β c else β k
  have hfree : ∀ (t : SV) (v : Value), t.free (x + b) = true → t.holds β w (bM cx st.heap β w) v → t.holds β' w (bM cx st.heap β w) v := fun t v h2 hv =>
    SV.turn (fun nm hn => by
      have z2 : nm ≠ x + b := fun e => by subst e; rw [h2] at hn; cases hn
      simp [β', z2]) hv
  refine ⟨A, cap, β', hb.re f β' (fun k h hk' => ?_) (fun k k' h h' hk' hk'' n1 n2 e => ?_) (fun q t hq => ?_)⟩
  · rcases hsp k h hk' with ⟨z1, z2, z3⟩ | ⟨rfl, rfl⟩ | ⟨z1, z2, z3⟩
    · exact .inr ⟨by simp only [β', f]; rw [if_neg (by omega), if_neg (by omega)], h, by simp only [f]; rw [if_neg (by omega)]; exact z3, fun _ y => y⟩
    · refine .inr ⟨by simp only [β', f, if_pos], _, by simp only [f, if_pos]; exact hc, fun l hl' => ?_⟩
      cases l with
      | none => have hl' : ys = [] := hl'; subst hl'; simp [HB.holds]
      | some bo =>
        obtain ⟨b', o'⟩ := bo
        refine ⟨fun hm' => ?_, fun hm' => by rw [show rt.mp = false from NM.no] at hm'; cases hm'⟩
        obtain ⟨cur, e', q1, q2, q3⟩ := hl'.1 hm'
        refine ⟨cur, e', q1, ?_, fun i' x' hi' => q3 i' x' ?_⟩
        · have : (ys.take m).length * rt.n ≤ ys.length * rt.n := Nat.mul_le_mul_right _ (by simp; omega)
          simp only at q2 ⊢
          omega
        simp only at hi'
        rw [List.getElem?_take] at hi'
        split at hi'
        · exact hi'
        cases hi'
    exact .inr ⟨by simp only [β', f]; rw [if_neg z2, if_neg z2], h, by simp only [f]; rw [if_neg z2]; exact z3, fun _ y => y⟩
  · have hck : ∀ k h, az (hp0 ++ eR rt b (xss.set x (ys.take m))) k = some h → k ≠ c := fun k h hk' => by
      rcases hsp k h hk' with ⟨z1, _, _⟩ | ⟨z1, _⟩ | ⟨z1, _, _⟩ <;> omega
    have c1 := hck k h hk'
    have c2 := hck k' h' hk''
    have e : (if k = x + b then c else k) = (if k' = x + b then c else k') := e
    by_cases e1 : k = x + b <;> by_cases e2 : k' = x + b
    · omega
    · rw [if_pos e1, if_neg e2] at e; omega
    · rw [if_neg e1, if_pos e2] at e; omega
    rw [if_neg e1, if_neg e2] at e; exact e
  rw [aT] at hq
  split at hq
  · rename_i e; subst e; injection hq with hq; subst hq
    refine ⟨v, g1, hfree _ _ (SV.low_free (by omega) hsb) g2, fun x' A' m' cap' hx' => ?_⟩
    by_cases hne : x = x'
    · subst hne
      rw [List.getElem?_set_self (List.getElem?_eq_some_iff.1 hx).1] at hx'
      simp only [Option.some.injEq, Prod.mk.injEq] at hx'
      obtain ⟨rfl, rfl, rfl⟩ := hx'
      unfold SV.holds at g5
      unfold hdr at g5 ⊢
      simp only [β', if_pos]
      exact g5
    rw [List.getElem?_set_ne hne] at hx'
    refine im ⟨by simp only [β']; rw [if_neg (by omega)], fun b o _ cur e fr hc => ⟨cur, e, fr, hc, rfl⟩⟩ (g3 x' A' m' cap' hx')
  rw [aT] at hq
  split at hq
  · rename_i e; subst e; injection hq with hq; subst hq
    exact ⟨_, g4, rfl⟩
  have hq' := hk.sub _ _ hq
  obtain ⟨u, h5, h6⟩ := hb.slots q t hq'
  exact ⟨u, h5, hfree _ _ (SV.low_free (by omega) (jH hkb hq)) h6⟩
theorem xn {i nm b : Nat} {s : SV} {hds : List (Option Addr × Nat × Nat)} {xss : List (List α)} {hs : List Nat} {hp0 : List (Nat × HB)} {ks : List Nat} {r : List (Nat × SV)}
    (hsl : a8 st.slots i = some (.fam s b rt.n (hds.map some))) (hlen : hds.length = xss.length) (hls : ∀ (x : Nat) (A : Option Addr) (m cap : Nat), hds[x]? = some (A, m, cap) → ∃ xs : List α, xss[x]? = some xs ∧ m = xs.length) (hn : az st.heap nm = some ⟨rHd, hds⟩) (hnb : Nat.blt nm b = true) (hsb : s.low b = true) (hk : Keep st.slots ks r) (hkb : iB b r = true)
    (hT : Tl b (eR rt b xss) st.heap) (hh : KeepH st.heap hs hp0) (hl : iC b hp0 = true) (hno : az hp0 nm = none) (hi : Inv cx st a w) :
    Inv cx ⟨(i, s) :: r, (nm, ⟨ab rt, xss⟩) :: hp0⟩ a w := by
  obtain ⟨β, hb⟩ := hi
  have hnb := jT hnb
  obtain ⟨v, g1, g2, g3⟩ := hb.slots i _ hsl
  have hsp : ∀ k h, az ((nm, HB.mk (ab rt) xss) :: hp0) k = some h → (k = nm ∧ h = ⟨ab rt, xss⟩) ∨ (k ≠ nm ∧ k < b ∧ az st.heap k = some h) := fun k h hk' => by
    rw [aW] at hk'
    split at hk'
    · rename_i e; injection hk' with hk'; exact .inl ⟨e.symm, hk'.symm⟩
    rename_i e; exact .inr ⟨fun e2 => e e2.symm, ir hl hk', hh.sub _ _ hk'⟩
  have hsp' : ∀ k h, az ((nm, HB.mk (ab rt) xss) :: hp0) k = some h → k < b ∧ ∃ h', az st.heap k = some h' := fun k h hk' => by
    rcases hsp k h hk' with ⟨rfl, rfl⟩ | ⟨_, z2, z3⟩
    · exact ⟨hnb, _, hn⟩
    exact ⟨z2, _, z3⟩
  have hok : ∀ q, bM cx st.heap β w q → bM cx ((nm, HB.mk (ab rt) xss) :: hp0) β w q ∧ w.heap[q]? = w.heap[q]? := fun q ⟨h1, h2, h3⟩ => ⟨⟨h1, h2, fun k h hk' x hx => by
    obtain ⟨_, h', z⟩ := hsp' k h hk'
    exact h3 k h' z x hx⟩, rfl⟩
  have hfam : ∀ x xs, xss[x]? = some xs → az st.heap (x + b) = some ⟨rt, xs⟩ := fun x xs hx => by rw [hT.look (by omega), sA, hx]; rfl
  refine ⟨β, hb.below, hb.old, hb.defers, hb.size, fun k h hk' x hx => ?_, fun k k' h h' hk' hk'' x y hx hy he => ?_, fun k h hk' => ?_, fun q t hq => ?_⟩
  · obtain ⟨_, h', z⟩ := hsp' k h hk'
    exact hb.own k h' z x hx
  · obtain ⟨_, h1, z⟩ := hsp' k h hk'
    obtain ⟨_, h2, z'⟩ := hsp' k' h' hk''
    exact hb.sep k k' h1 h2 z z' x y hx hy he
  · rcases hsp k h hk' with ⟨rfl, rfl⟩ | ⟨z1, _, z3⟩
    · have hr := hb.rows k _ hn
      cases hβ : β k with
      | none =>
        rw [hβ] at hr
        have hr : hds = [] := hr
        subst hr
        have : xss = [] := List.length_eq_zero_iff.1 hlen.symm
        exact this
      | some bo =>
        obtain ⟨b0, o0⟩ := bo
        rw [hβ] at hr
        refine ⟨fun _ => ?_, fun hm => by rw [show (ab rt).mp = false from NM.no] at hm; cases hm⟩
        obtain ⟨cur, e, q1, q2, q3⟩ := hr.1 rfl
        refine ⟨cur, e, q1, by have e1 : (ab rt).n = 1 := rfl; have e2 : rHd.n = 1 := rfl; simp only [e1, e2, hlen] at q2 ⊢; exact q2, fun x xs hx => ?_⟩
        have hxl : x < hds.length := by rw [hlen]; exact (List.getElem?_eq_some_iff.1 hx).1
        obtain ⟨cs, q4, q5⟩ := q3 x hds[x] (by simp [hxl])
        obtain ⟨A, m, cap, hd⟩ : ∃ A m cap, hds[x]? = some (A, m, cap) := ⟨_, _, _, by rw [List.getElem?_eq_getElem hxl]⟩
        obtain ⟨xs', hx', hm⟩ := hls x A m cap hd
        rw [hx] at hx'; injection hx' with hx'; subst hx'
        have hhd := g3 x A m cap (by simp [hd])
        have hdx : hds[x] = (A, m, cap) := by rw [List.getElem?_eq_getElem hxl] at hd; injection hd
        have hval := eJ (rt := rt) hb (hfam x xs hx) hhd (by omega) (ok := bM cx ((k, HB.mk (ab rt) xss) :: hp0) β w) (fun q hq => (hok q hq).1) (fun b1 o1 hbo => by
          have z := hb.own (x + b) _ (hfam x xs hx) _ hbo
          exact ⟨.inr z.1, z.2, fun k' h' hk'' y hy e1 => by
            obtain ⟨z1, h'', z2⟩ := hsp' k' h' hk''
            have := hb.sep k' (x + b) _ _ z2 (hfam x xs hx) y (b1, o1) hy hbo e1
            omega⟩)
        rw [List.drop_zero, show List.take m xs = xs by rw [hm, List.take_length]] at hval
        have hcells := (ab rt).val_cells hval
        refine ⟨_, hcells, fun j u hj => ?_⟩
        rw [q4, hdx] at q5
        have : (Value.slice A m cap).cells.toList = [Value.slice A m cap] := rfl
        rw [this] at hj
        exact q5 j u hj
    exact HB.keep hok (fun _ _ => rfl) (hb.rows k h z3)
  rw [aT] at hq
  split at hq
  · rename_i e; subst e; injection hq with hq; subst hq
    exact ⟨v, g1, SV.keep hok (fun nm _ => ⟨rfl, fun b o _ cur e fr hc => ⟨cur, e, fr, hc, rfl⟩⟩) g2⟩
  obtain ⟨u, h5, h6⟩ := hb.slots q t (hk.sub _ _ hq)
  exact ⟨u, h5, SV.keep hok (fun nm _ => ⟨rfl, fun b o _ cur e fr hc => ⟨cur, e, fr, hc, rfl⟩⟩) h6⟩
omit [NM rt] in
theorem tM (i j c x : Nat) (ks hs : List Nat) {b m cap : Nat} {A : Option Addr} {s : SV} {ds : List (Option (Option Addr × Nat × Nat))} {xs : List α} {xss : List (List α)} {hp0 : List (Nat × HB)} {r : List (Nat × SV)} {l : List Oper}
    (hsl : a8 st.slots i = some (.fam s b rt.n ds)) (hj : a8 st.slots j = some (.raw (.slice A m cap))) (hx : ds[x]? = some (some (A, m, cap))) (hxs : xss[x]? = some xs) (hsb : s.low b = true) (hsc : s.free c = true) (hk : Keep st.slots ks r) (hkb : iB b r = true) (hkc : di c r = true)
    (hc : Nat.blt c b = true) (hT : Tl b (eR rt b xss) st.heap) (hh : KeepH st.heap hs hp0) (hl : iC b hp0 = true) (hno : az hp0 c = none)
    (h : JG P cx ops ⟨(i, .fam s b rt.n (ds.set x none)) :: (j, .own c rt.n 0 m) :: r, (c, ⟨rt, xs⟩) :: (hp0 ++ eR rt b (xss.set x []))⟩ l k) : JG P cx ops st l k := fun a w hi => h a w (fl hsl hj hx hxs hsb hsc hk hkb hkc hc hT hh hl hno hi)
theorem tO (i j c x : Nat) (ks hs : List Nat) {b m : Nat} {s : SV} {ds : List (Option (Option Addr × Nat × Nat))} {ys : List α} {xss : List (List α)} {hp0 : List (Nat × HB)} {r : List (Nat × SV)} {l : List Oper}
    (hsl : a8 st.slots i = some (.fam s b rt.n ds)) (hj : a8 st.slots j = some (.own c rt.n 0 m)) (hx : ds[x]? = some none) (hxs : xss[x]? = some []) (hc : az st.heap c = some ⟨rt, ys⟩) (hm : m ≤ ys.length) (hsb : s.low b = true) (hsc : s.free c = true) (hk : Keep st.slots ks r) (hkb : iB b r = true) (hkc : di c r = true)
    (hcb : Nat.blt c b = true) (hT : Tl b (eR rt b xss) st.heap) (hh : KeepH st.heap hs hp0) (hl : iC b hp0 = true) (hno : az hp0 c = none)
    (h : ∀ A cap, JG P cx ops ⟨(i, .fam s b rt.n (ds.set x (some (A, m, cap)))) :: (j, .raw (.slice A m cap)) :: r, hp0 ++ eR rt b (xss.set x (ys.take m))⟩ l k) : JG P cx ops st l k := fun a w hi => by
  obtain ⟨A, cap, h1⟩ := rl hsl hj hx hxs hc hm hsb hsc hk hkb hkc hcb hT hh hl hno hi
  exact h A cap a w h1
theorem z7 (i j c x : Nat) (ks hs : List Nat) {b m : Nat} {s : SV} {ds : List (Option (Option Addr × Nat × Nat))} {ys : List α} {xss : List (List α)} {hp0 : List (Nat × HB)} {r : List (Nat × SV)} {l : List Oper} {q : Nat}
    (hsl : a8 st.slots i = some (.fam s b rt.n ds)) (hj : a8 st.slots j = some (.own c rt.n 0 m)) (hx : ds[x]? = some none) (hxs : xss[x]? = some []) (hc : az st.heap c = some ⟨rt, ys⟩) (hm : m ≤ ys.length) (hsb : s.low b = true) (hsc : s.free c = true) (hk : Keep st.slots ks r) (hkb : iB b r = true) (hkc : di c r = true)
    (hcb : Nat.blt c b = true) (hT : Tl b (eR rt b xss) st.heap) (hh : KeepH st.heap hs hp0) (hl : iC b hp0 = true) (hno : az hp0 c = none)
    (h : ∀ A cap, JT P cx l q ⟨(i, .fam s b rt.n (ds.set x (some (A, m, cap)))) :: (j, .raw (.slice A m cap)) :: r, hp0 ++ eR rt b (xss.set x (ys.take m))⟩ k) : JT P cx l q st k := fun a w hi => by
  obtain ⟨A, cap, h1⟩ := rl hsl hj hx hxs hc hm hsb hsc hk hkb hkc hcb hT hh hl hno hi
  exact h A cap a w h1
theorem wj (i b n : Nat) (ks hs : List Nat) {s : SV} {hp0 : List (Nat × HB)} {r : List (Nat × SV)} (rt : RT α) [NM rt] (hsl : a8 st.slots i = some s) (hsb : s.low b = true) (hk : Keep st.slots ks r) (hkb : iB b r = true)
    (hh : KeepH st.heap hs hp0) (hl : iC b hp0 = true)
    (h : JN P cx ⟨(i, .fam s b rt.n (List.replicate n (some (none, 0, 0)))) :: r, hp0 ++ eR rt b (List.replicate n [])⟩ k) : JN P cx st k := fun a w hi => h a w (At rt hsl hsb hk hkb hh hl hi)
theorem wl (i nm : Nat) (ks hs : List Nat) {b : Nat} {s : SV} {hds : List (Option Addr × Nat × Nat)} {xss : List (List α)} {hp0 : List (Nat × HB)} {r : List (Nat × SV)}
    (hsl : a8 st.slots i = some (.fam s b rt.n (hds.map some))) (hlen : hds.length = xss.length) (hls : ∀ (x : Nat) (A : Option Addr) (m cap : Nat), hds[x]? = some (A, m, cap) → ∃ xs : List α, xss[x]? = some xs ∧ m = xs.length) (hn : az st.heap nm = some ⟨rHd, hds⟩) (hnb : Nat.blt nm b = true) (hsb : s.low b = true) (hk : Keep st.slots ks r) (hkb : iB b r = true)
    (hT : Tl b (eR rt b xss) st.heap) (hh : KeepH st.heap hs hp0) (hl : iC b hp0 = true) (hno : az hp0 nm = none)
    (h : J P cx ⟨(i, s) :: r, (nm, ⟨ab rt, xss⟩) :: hp0⟩ c k) : J P cx st c k := fun a w hi => h a w (xn hsl hlen hls hn hnb hsb hk hkb hT hh hl hno hi)
def HdOK (hds : List (Option Addr × Nat × Nat)) (xss : List (List α)) : Prop := hds.length = xss.length ∧ ∀ (x : Nat) (A : Option Addr) (m cap : Nat), hds[x]? = some (A, m, cap) → ∃ xs : List α, xss[x]? = some xs ∧ m = xs.length
theorem HdOK.zero (n : Nat) : HdOK (List.replicate n (none, 0, 0)) (List.replicate n ([] : List α)) := by
  refine ⟨by simp, fun x A m cap h => ?_⟩
  rw [List.getElem?_replicate] at h
  split at h
  · rename_i hx
    simp only [Option.some.injEq, Prod.mk.injEq] at h
    exact ⟨[], by rw [List.getElem?_replicate, if_pos hx], by simp [h.2.1.symm]⟩
  cases h
theorem HdOK.at {hds : List (Option Addr × Nat × Nat)} {xss : List (List α)} (h : HdOK hds xss) {x : Nat} {xs : List α} (hx : xss[x]? = some xs) : ∃ A cap, hds[x]? = some (A, xs.length, cap) := by
  have hl : x < xss.length := (List.getElem?_eq_some_iff.1 hx).1
  have hl2 : x < hds.length := by rw [h.1]; exact hl
  obtain ⟨xs', h1, h2⟩ := h.2 x hds[x].1 hds[x].2.1 hds[x].2.2 (by rw [List.getElem?_eq_getElem hl2])
  rw [hx] at h1; injection h1 with h1; subst h1
  exact ⟨hds[x].1, hds[x].2.2, by rw [List.getElem?_eq_getElem hl2, ← h2]⟩
theorem HdOK.set {hds : List (Option Addr × Nat × Nat)} {xss : List (List α)} (h : HdOK hds xss) {x : Nat} {A : Option Addr} {m cap : Nat} {ys : List α} (hx : x < xss.length) (hm : m = ys.length) : HdOK (hds.set x (A, m, cap)) (xss.set x ys) := by
  refine ⟨by simp [h.1], fun y B m' cap' hy => ?_⟩
  by_cases e : x = y
  · subst e
    rw [List.getElem?_set_self (by rw [h.1]; exact hx)] at hy
    simp only [Option.some.injEq, Prod.mk.injEq] at hy
    exact ⟨ys, by rw [List.getElem?_set_self hx], by rw [← hy.2.1]; exact hm⟩
  rw [List.getElem?_set_ne e] at hy ⊢
  exact h.2 y B m' cap' hy
theorem jM {β : Type} {n x : Nat} {f f' : Nat → β} (hx : x < n) (h : ∀ y, y < n → y ≠ x → f' y = f y) : (List.range n).map f' = ((List.range n).map f).set x (f' x) := by
  apply List.ext_getElem?
  intro y
  by_cases e : x = y
  · subst e; rw [List.getElem?_set_self (by simpa using hx)]; simp [hx]
  rw [List.getElem?_set_ne e]
  simp only [List.getElem?_map]
  by_cases hy : y < n
  · simp [hy, h y hy (fun e2 => e e2.symm)]
  simp [hy]
end
end Go.Eng
namespace Go.Eng
section
variable {P : Program} {cx : Cx} {st st' : St} {β : Loc} {a : Act} {w w' : World} {ops : Array Oper} {k : Kn} {c : Code}
theorem xP (dk : oJ ops) {Q : Exit → Act → World → Prop} {lo hi g : Nat} (hgg : g = ops.size - hi) {l : List Oper} {cs : List (Nat × SV)} (hlo : lo ≤ hi) (hhi : hi ≤ ops.size) (hl : l.length = hi - lo) (hat : ∀ i, i < l.length → l[i]? = ops[lo + i]?)
    (has : AS P cx ops st l cs)
    (hbar : ∀ listed, Lst ops lo hi listed → ∀ i ∈ Region.ready .any ops listed, hi ≤ i → ∀ F a w, unl listed = F + 1 → unl listed ≠ ops.size - hi → Inv cx (eD st cs (fun i => listed.getD (lo + i) false)) a w → wpOp P ops Q i (wpAny P .any ops Q F (listed.setIfInBounds i true)) a w)
    (hK : ∀ a w, Inv cx (eD st cs (fun _ => true)) a w → wpAny P .any ops Q g (mkL ops.size hi) a w) :
    ∀ (f : Nat) (listed : Array Bool), Lst ops lo hi listed → unl listed = f + (ops.size - hi) → ∀ a w, Inv cx (eD st cs (fun i => listed.getD (lo + i) false)) a w → wpAny P .any ops Q (f + g) listed a w := by
  obtain ⟨hcl, hga⟩ := has.at_
  have hidx : ∀ j c, cs[j]? = some c → ∃ oj, ops[lo + j]? = some oj ∧ oj.dst = some c.1 ∧ j < l.length := by
    intro j c hj
    have hjl : j < l.length := by rw [← hcl]; exact (List.getElem?_eq_some_iff.1 hj).1
    obtain ⟨d, s, h1, h2, _⟩ := hga j l[j] (List.getElem?_eq_getElem hjl)
    rw [hj] at h1
    injection h1 with h1
    subst h1
    exact ⟨l[j], by rw [← hat j hjl]; exact List.getElem?_eq_getElem hjl, h2, hjl⟩
  intro f
  induction f with
  | zero =>
    intro listed hL hu a w hi'
    have he := pG hL rfl hhi (by omega)
    subst he
    rw [Nat.zero_add]
    refine hK a w ?_
    refine Sub.inv ⟨fun i s hs => ?_, fun i s hs => ?_⟩ hi'
    · rw [cu] at hs ⊢
      rw [← hs]
      congr 1
      exact dX fun j c hj _ => by
        obtain ⟨_, _, _, hjl⟩ := hidx j c hj
        rw [cD false (by omega)]; simp; omega
    rw [cM] at hs ⊢; exact hs
  | succ f ih =>
    intro listed hL hu a w hi'
    rw [show f + 1 + g = (f + g) + 1 by omega]
    refine ⟨fun hnil => ?_, fun i hr => ?_⟩
    · -- some operation has not run: the first of these is ready
      exfalso
      have hex : ∃ i, i < ops.size ∧ listed.getD i false = false ∧ i < hi := by
        rcases Classical.em (∃ i, i < ops.size ∧ listed.getD i false = false ∧ i < hi) with h | h
        · exact h
        exfalso
        have : listed = mkL ops.size hi := jQ hL.size fun i his => by
          by_cases e : i < hi
          · simp only [e, decide_true]
            cases hl' : listed.getD i false with
            | true => rfl
            | false => exact absurd ⟨i, his, hl', e⟩ h
          have hh := hL.high i (by omega) his
          rw [dC (by rw [hL.size]; exact his)] at hh
          simp [e, hh]
        have hcount : ∀ n m : Nat, m ≤ n → unl (mkL n m) ≤ n - m := by
          intro n m hm
          unfold unl mkL
          rw [Array.toList_map, Array.toList_range, List.countP_map]
          have : ∀ n : Nat, (List.range n).countP ((fun b => !b) ∘ fun i => decide (i < m)) ≤ n - m := by
            intro n
            induction n with
            | zero => simp
            | succ n ih =>
              rw [List.range_succ, List.countP_append]
              simp only [List.countP_cons, List.countP_nil, Function.comp]
              by_cases e : n < m
              · simp [e]; omega
              simp [e]; omega
          exact this n
        have := hcount ops.size hi hhi
        rw [‹listed = _›] at hu
        omega
      obtain ⟨n0, ⟨h1, h2, h3⟩, hmin⟩ := exists_least hex
      have : n0 ∈ Region.ready .any ops listed := by
        have hs : n0 < listed.size := by rw [hL.size]; exact h1
        refine mem_ready.2 ⟨by rw [dC hs]; exact h2, ops[n0], Array.getElem?_eq_getElem h1, fun e he hb => ?_⟩
        have hlt := dk.back n0 _ (Array.getElem?_eq_getElem h1) e he hb
        cases hl' : listed.getD e.on false with
        | true => rfl
        | false =>
          have := hmin e.on ⟨by omega, hl', by omega⟩
          omega
      rw [hnil] at this
      cases this
    rcases Nat.lt_or_ge i hi with hih | hih
    rotate_left
    · exact hbar listed hL i hr hih (f + g) a w (by omega) (by omega) hi'
    have hil : lo ≤ i := by
      rcases Nat.lt_or_ge i lo with h | h
      · have h1 := hL.low i h
        obtain ⟨hun, oi, hoi, _⟩ := mem_ready.1 hr
        have his : i < listed.size := by rw [hL.size]; exact (Array.getElem?_eq_some_iff.1 hoi).1
        rw [dC his, h1] at hun; cases hun
      exact h
    obtain ⟨hun, oi, hoi, hdeps⟩ := mem_ready.1 hr
    have his : i < listed.size := by rw [hL.size]; exact (Array.getElem?_eq_some_iff.1 hoi).1
    have hunf : listed.getD i false = false := by rw [← dC his]; exact hun
    have hli : l[i - lo]? = some oi := by
      rw [hat (i - lo) (by omega), show lo + (i - lo) = i by omega]; exact hoi
    obtain ⟨d, s, hcs, hdst, hG⟩ := hga (i - lo) oi hli
    -- which others write a slot that this one touches
    have hwr : ∀ j c, cs[j]? = some c → j ≠ i - lo → (c.1 ∈ oi.looksAt ops ∨ c.1 = d) → (listed.getD (lo + j) false = true ↔ j < i - lo) := by
      intro j c hj hne hc
      obtain ⟨oj, hoj, hdj, hjl⟩ := hidx j c hj
      rcases Nat.lt_or_ge j (i - lo) with h | h
      · have hap : oj.apart ops oi = false := by
          cases hb : oj.apart ops oi with
          | false => rfl
          | true =>
            obtain ⟨h1, h2, h3⟩ := Oper.apart_spec hb
            rcases hc with hc | hc
            · exact absurd hc (h1 c.1 hdj)
            exact absurd (by rw [hdst, hc]) (h2 c.1 hdj)
        obtain ⟨e, he, hb, hon⟩ := dk.order (lo + j) i oj oi (by omega) hoj hoi hap
        have := hdeps e he hb
        rw [hon] at this
        simp [this, h]
      have hgt : i < lo + j := by omega
      have hap : oi.apart ops oj = false := by
        cases hb : oi.apart ops oj with
        | false => rfl
        | true =>
          obtain ⟨h1, h2, h3⟩ := Oper.apart_spec hb
          rcases hc with hc | hc
          · exact absurd hc (h3 c.1 hdj)
          exact absurd (by rw [hdj, hc]) (h2 d hdst)
      obtain ⟨e, he, hb, hon⟩ := dk.order i (lo + j) oi oj hgt hoi hoj hap
      cases hlj : listed.getD (lo + j) false with
      | false => simp; omega
      | true =>
        have := hL.closed (lo + j) oj hoj hlj e he hb
        rw [hon, hunf] at this
        cases this
    have hagr : AgrG ops oi (eD st (cs.take (i - lo)) (fun _ => true)) (eD st cs (fun j => listed.getD (lo + j) false)) := by
      refine ⟨fun t ht => ?_, fun _ _ _ _ _ _ => by rw [cM, cM]⟩
      rw [cu, cu]
      congr 1
      refine kB fun j c hj he => ?_
      by_cases hne : j = i - lo
      · subst hne
        rw [show lo + (i - lo) = i by omega, hunf]; simp
      exact hwr j c hj hne (.inl (by rw [he]; exact ht))
    have hstep := hG _ hagr a w hi' (Q := Q)
    have hnext : ∀ a' w', Inv cx ((eD st cs (fun j => listed.getD (lo + j) false)).put d s) a' w' → wpAny P .any ops Q (f + g) (listed.setIfInBounds i true) a' w' := by
      intro a' w' hi''
      refine ih _ (hL.set hr hih) (by have := ko his hunf; omega) a' w' ?_
      refine Sub.inv ⟨fun t s' hs => ?_, fun t s' hs => ?_⟩ hi''
      · simp only [St.put, aT]
        rw [cu] at hs
        have hset : ∀ j, (listed.setIfInBounds i true).getD (lo + j) false = if j = i - lo then true else listed.getD (lo + j) false := by
          intro j
          by_cases hne : j = i - lo
          · subst hne
            rw [if_pos rfl, show lo + (i - lo) = i by omega]
            simp [his]
          rw [if_neg hne, getD_set_ne false (by omega)]
        by_cases e : d = t
        · subst e
          rw [if_pos rfl]
          have := kC (cs := cs) (L := fun j => (listed.setIfInBounds i true).getD (lo + j) false) (i := i - lo) (c := (d, s)) hcs (by simp only [hset]; simp) (fun j c' hj he hij => by
            simp only [hset]
            rw [if_neg (by omega)]
            have := hwr j c' hj (by omega) (.inr he)
            cases hlj : listed.getD (lo + j) false with
            | false => rfl
            | true => have := this.1 hlj; omega)
          rw [this] at hs
          exact hs
        rw [if_neg e, cu, ← hs]
        congr 1
        refine dX fun j c hj he => ?_
        simp only [hset]
        rw [if_neg (by
          rintro rfl
          rw [hcs] at hj
          injection hj with hj
          subst hj
          exact e he)]
      simp only [St.put, cM] at hs ⊢; exact hs
    unfold wpOp
    simp only [hoi]
    split
    · rename_i hw
      rw [if_pos hw] at hstep
      exact .inl (Oper.wp_mono hnext hstep)
    rename_i hw
    rw [if_neg hw] at hstep
    exact hnext _ _ hstep
theorem ic {dst : Option Tmp} {ty : TypeId} {pos : String} {aft : Array Edge} {gd : Option (Nat × Bool)} {nb : Nat} {s : SV} {x : Operand} (hx : Ev st x s) (hs : boxS nb s) : Adr P cx st ⟨dst, .nilCheck x, ty, pos, aft, gd⟩ s :=
  bD fun st' hag β a w hi => by
    have h1 := hi.ev (hag.ev (by simp [Op.operands]) hx)
    obtain ⟨b, o, _, h2⟩ := hs.at h1
    exact ⟨a.eval x, by simp [execOp, h2, cU], h1⟩
theorem rG (n m : Nat) : unl (mkL n m) = n - m := by
  unfold unl mkL
  rw [Array.toList_map, Array.toList_range, List.countP_map]
  induction n with
  | zero => simp
  | succ n ih =>
    rw [List.range_succ, List.countP_append, ih]
    simp only [List.countP_cons, List.countP_nil, Function.comp]
    by_cases e : n < m
    · simp [e]; omega
    simp [e]; omega
end
end Go.Eng
namespace Go.Eng
section
variable {P : Program} {cx : Cx} {st st' : St} {β : Loc} {a : Act} {w w' : World} {ops : Array Oper} {k : Kn} {c : Code}
variable {dst : Option Tmp} {ty : TypeId} {pos : String} {aft : Array Edge} {gd : Option (Nat × Bool)}
variable {α : Type} {rt : RT α} [NM rt]
def Is0 (nb nm sz pb po : Nat) (A : Option Addr) (n cap : Nat) (u : Value) (s : SV) : Prop :=
  ∀ (β : Loc) (w : World) (ok : Ok) (v : Value), s.holds β w ok v ↔ (β nb = some (pb, po) ∧ hdr β w nm sz 0 n (.slice A n cap) ∧ v = u)
abbrev kO (nb nm sz pb po : Nat) (A : Option Addr) (n cap : Nat) : SV := .lnk (.both (.optr nb 1 0 0) (cU pb po)) (.slice A n cap) (.own nm sz 0 n)
abbrev iY (T : TypeId) (nb nm sz pb po : Nat) (A : Option Addr) (n cap : Nat) : SV := .lnk (.lnk (.raw (.iface T (cU pb po))) (cU pb po) (.optr nb 1 0 0)) (.slice A n cap) (.own nm sz 0 n)
abbrev yr (nb nm sz pb po : Nat) (A : Option Addr) (n cap : Nat) : SV := .lnk (.both (.own nm sz 0 n) (.slice A n cap)) (cU pb po) (.optr nb 1 0 0)
theorem jZ {nb pb po : Nat} {ok : Ok} : (SV.optr nb 1 0 0).holds β w ok (cU pb po) ↔ β nb = some (pb, po) := by
  constructor
  · rintro ⟨b, o, e1, e2⟩
    have e2 : (cU pb po : Value) = .pointer (some ⟨b, o + 0 * 1 + 0, none⟩) := e2
    have e2 : some (⟨pb, po, none⟩ : Addr) = some ⟨b, o + 0 * 1 + 0, none⟩ := by injection e2
    have e5 : pb = b ∧ po = o := by injection e2 with e2; injection e2 with q1 q2; simp at q2; exact ⟨q1, q2⟩
    obtain ⟨rfl, rfl⟩ := e5
    exact e1
  intro h; exact ⟨pb, po, h, by simp [cU]⟩
theorem jy {nb nm sz pb po : Nat} {A : Option Addr} {n cap : Nat} : Is0 nb nm sz pb po A n cap (cU pb po) (kO nb nm sz pb po A n cap) := fun β w ok v => by
  constructor
  · rintro ⟨⟨h1, h2⟩, h3⟩
    subst h2
    exact ⟨jZ.1 h1, h3, rfl⟩
  rintro ⟨h1, h2, rfl⟩
  exact ⟨⟨jZ.2 h1, rfl⟩, h2⟩
theorem cG {T : TypeId} {nb nm sz pb po : Nat} {A : Option Addr} {n cap : Nat} : Is0 nb nm sz pb po A n cap (.iface T (cU pb po)) (iY T nb nm sz pb po A n cap) := fun β w ok v => by
  constructor
  · rintro ⟨⟨h1, h2⟩, h3⟩
    exact ⟨jZ.1 h2, h3, h1⟩
  rintro ⟨h1, h2, rfl⟩
  exact ⟨⟨rfl, jZ.2 h1⟩, h2⟩
theorem tT {nb nm sz pb po : Nat} {A : Option Addr} {n cap : Nat} : Is0 nb nm sz pb po A n cap (.slice A n cap) (yr nb nm sz pb po A n cap) := fun β w ok v => by
  constructor
  · rintro ⟨⟨h1, h2⟩, h3⟩
    subst h2
    exact ⟨jZ.1 h3, h1, rfl⟩
  rintro ⟨h1, h2, rfl⟩
  exact ⟨⟨h2, rfl⟩, jZ.2 h1⟩
structure CtI (P : Program) (kf : FuncId) {α : Type} (rt : RT α) (u : Nat → Nat → Option Addr → Nat → Nat → Value) (xs : List α) (Q : List α → Prop) (ss : List SV) (r : SV) : Prop where
  ent : ∀ w args, (callFunc kf args).run P w = .ok (.enter kf args) w
  calls : ∀ (w : World) (ok0 : Ok) (pb po : Nat) (A : Option Addr) (cap : Nat) (bo : Option (Nat × Nat)) (vs : List Value), (∀ b', ok0 b' → b' < w.heap.size) → ¬ ok0 pb → pb < w.heap.size →
    (∀ x, bo = some x → ¬ ok0 x.1 ∧ x.1 ≠ pb ∧ x.1 < w.heap.size) → wR rt w ok0 pb po A xs.length cap bo xs → eg w ok0 ss vs →
    Calls P kf ((u pb po A xs.length cap :: vs).toArray) w (CU ⟨w, ok0, 0, fun q => q = pb ∨ ∃ x, bo = some x ∧ x.1 = q⟩ pb po rt Q r)
abbrev uPtr (pb po : Nat) (_ : Option Addr) (_ _ : Nat) : Value := cU pb po
abbrev BL (T : TypeId) (pb po : Nat) (_ : Option Addr) (_ _ : Nat) : Value := .iface T (cU pb po)
abbrev uHead (_ _ : Nat) (A : Option Addr) (n cap : Nat) : Value := .slice A n cap
omit [NM rt] in
theorem gT {kf : FuncId} {fn : Func} {c : Code} {xs : List α} {Q : List α → Prop} {ss : List SV} {r : SV} {u : Nat → Nat → Option Addr → Nat → Nat → Value} (sv : Nat → Nat → Option Addr → Nat → Nat → SV) (hsv : ∀ pb po A n cap, Is0 100 101 rt.n pb po A n cap (u pb po A n cap) (sv pb po A n cap)) (hf : P.funcs[kf]? = some fn) (hb : fn.body = some c) (hn : (fn.name == "runtime.NumGoroutine") = false) {m : Nat} (hm : fn.ntmps = m) (hlen : Nat.ble (ss.length + 1) m = true)
    (hp : (ss.all SV.plain) = true)
    (h : ∀ (w0 : World) (ok0 : Ok) (pb po : Nat) (A : Option Addr) (cap : Nat) (ex : Nat → Prop), J P ⟨w0, ok0, m, ex⟩ ⟨(0, sv pb po A xs.length cap) :: jK 1 ss, [(100, ⟨rHd, [(A, xs.length, cap)]⟩), (101, ⟨rt, xs⟩)]⟩ c
      (.fin fn (CU ⟨w0, ok0, m, ex⟩ pb po rt Q r))) : CtI P kf rt u xs Q ss r := by
  refine ⟨bJ hf hb hn, fun w ok0 pb po A cap bo vs hok hnp hps hbo hbx hh => ?_⟩
  have hl := eL hh
  have hlen' : ss.length + 1 ≤ m := by simpa using hlen
  refine calls_of_wp hf hb ?_
  have := h w ok0 pb po A cap (fun q => q = pb ∨ ∃ x, bo = some x ∧ x.1 = q) { tmps := (u pb po A xs.length cap :: vs).toArray ++ Array.replicate (fn.ntmps - (u pb po A xs.length cap :: vs).toArray.size) undef, defers := [] } w ⟨fun q => if q = 100 then some (pb, po) else if q = 101 then bo else none, ?_⟩
  · exact wp_mono this fun e a w' hq => hq
  have hlk : ∀ nm hb, az [(100, HB.mk rHd [(A, xs.length, cap)]), (101, HB.mk rt xs)] nm = some hb → (nm = 100 ∧ hb = ⟨rHd, [(A, xs.length, cap)]⟩) ∨ (nm = 101 ∧ hb = ⟨rt, xs⟩) := fun nm hb hh => by
    rw [aW] at hh
    split at hh
    · rename_i e; injection hh with hh; exact .inl ⟨e.symm, hh.symm⟩
    rw [aW] at hh
    split at hh
    · rename_i e; injection hh with hh; exact .inr ⟨e.symm, hh.symm⟩
    simp [az] at hh
  have hkk : ∀ b', ok0 b' → bM ⟨w, ok0, m, fun q => q = pb ∨ ∃ x, bo = some x ∧ x.1 = q⟩ [(100, HB.mk rHd [(A, xs.length, cap)]), (101, HB.mk rt xs)] (fun q => if q = 100 then some (pb, po) else if q = 101 then bo else none) w b' ∧ w.heap[b']? = w.heap[b']? := fun b' hb' =>
    ⟨⟨.inl hb', hok b' hb', fun nm hb hh x hx => by
      rcases hlk nm hb hh with ⟨rfl, rfl⟩ | ⟨rfl, rfl⟩
      · simp at hx; subst hx; intro e; exact hnp (by rw [show pb = b' from e]; exact hb')
      simp at hx; intro e; exact (hbo x hx).1 (by rw [e]; exact hb')⟩, rfl⟩
  obtain ⟨hb1, hb2, hb3⟩ := hbx
  refine ⟨(Below.refl _ _).toX, hok, rfl, by simp [hm, hl]; omega, fun nm hb hh x hx => ?_, fun nm nm' hb hb' hh hh' x y hx hy hxy => ?_, fun nm hb hh => ?_, fun i s hs => ?_⟩
  · rcases hlk nm hb hh with ⟨rfl, rfl⟩ | ⟨rfl, rfl⟩
    · simp at hx; subst hx; exact ⟨.inr (.inl rfl), hps⟩
    simp at hx; exact ⟨.inr (.inr ⟨x, hx, rfl⟩), (hbo x hx).2.2⟩
  · rcases hlk nm hb hh with ⟨rfl, rfl⟩ | ⟨rfl, rfl⟩ <;> rcases hlk nm' hb' hh' with ⟨rfl, rfl⟩ | ⟨rfl, rfl⟩
    · rfl
    · simp at hx hy; subst hx; exact absurd hxy.symm (hbo y hy).2.1
    · simp at hx hy; subst hy; exact absurd hxy (hbo x hx).2.1
    rfl
  · rcases hlk nm hb hh with ⟨rfl, rfl⟩ | ⟨rfl, rfl⟩
    · simp only [if_pos]
      exact HB.keep (hb := ⟨rHd, [(A, xs.length, cap)]⟩) (l := some (pb, po)) hkk (fun _ _ => rfl) ⟨fun _ => hb1, fun hm => by cases hm⟩
    simp only [show (101 : Nat) ≠ 100 by decide, if_neg, if_pos, not_false_iff]
    exact HB.keep hkk (fun _ _ => rfl) hb2
  rw [aT] at hs
  split at hs
  · rename_i e; subst e; injection hs with hs; subst hs
    refine ⟨u pb po A xs.length cap, by rw [Array.getElem?_append_left (by simp)]; rfl, (hsv _ _ _ _ _ _ _ _ _).2 ⟨by simp, ?_, rfl⟩⟩
    exact im (β := fun _ => bo) ⟨by simp, fun b o hb cur e fr hc => ⟨cur, e, fr, hc, rfl⟩⟩ hb3
  obtain ⟨j, rfl, hj⟩ := fa hs
  obtain ⟨v, h1, h2⟩ := eG hh hj
  have hjl : j < vs.length := (List.getElem?_eq_some_iff.1 h1).1
  have hps' : s.plain = true := List.all_eq_true.1 hp s (List.mem_of_getElem? hj)
  exact ⟨v, by rw [Array.getElem?_append_left (by simp; omega)]; simp [Nat.add_comm 1 j, h1], SV.plain_keep hps' hkk h2⟩
omit [NM rt] in
theorem qs {pb po s0 : Nat} {A : Option Addr} {n cap : Nat} {xs : List α} {Q : List α → Prop} (hi : InvB cx st β a w) {sv : SV} {u : Value} (hm : a8 st.slots s0 = some sv) (his : Is0 100 101 rt.n pb po A n cap u sv) (h0 : az st.heap 100 = some ⟨rHd, [(A, n, cap)]⟩) (hn : az st.heap 101 = some ⟨rt, xs⟩) (hl : n = xs.length) (hQ : Q xs) :
    (∃ ys A n cap bo, Q ys ∧ n = ys.length ∧ (∀ x, bo = some x → cx.new x.1 ∧ x.1 < w.heap.size ∧ x.1 ≠ pb) ∧ wR rt w (fun q => okR cx w q ∧ q ≠ pb ∧ oM bo q) pb po A n cap bo ys ∧ ∀ q, bM cx st.heap β w q → okR cx w q ∧ q ≠ pb ∧ oM bo q) := by
  obtain ⟨v, _, e0⟩ := hi.slots s0 _ hm
  obtain ⟨e1, e4, _⟩ := (his _ _ _ _).1 e0
  have hk : ∀ q, bM cx st.heap β w q → okR cx w q ∧ q ≠ pb ∧ oM (β 101) q := fun q hq => ⟨mP hq, fun e => hq.2.2 100 _ h0 _ e1 e.symm, fun x hx => hq.2.2 101 _ hn x hx⟩
  have hkk : ∀ q, bM cx st.heap β w q → (okR cx w q ∧ q ≠ pb ∧ oM (β 101) q) ∧ w.heap[q]? = w.heap[q]? := fun q hq => ⟨hk q hq, rfl⟩
  refine ⟨xs, A, n, cap, β 101, hQ, hl, fun x hx => ?_, ⟨?_, ?_, ?_⟩, hk⟩
  · have := hi.own 101 _ hn x hx
    exact ⟨this.1, this.2, fun e => absurd (hi.sep 101 100 _ _ hn h0 x (pb, po) hx e1 e) (by decide)⟩
  · have hr := hi.rows 100 _ h0
    rw [e1] at hr
    obtain ⟨cur, e, g1, g2, g3⟩ := hr.1 rfl
    refine ⟨cur, e, g1, g2, fun i x hx => ?_⟩
    obtain ⟨cs, g4, g5⟩ := g3 i x hx
    exact ⟨cs, rHd.keep hkk g4, g5⟩
  · exact HB.keep hkk (fun _ _ => rfl) (hi.rows 101 _ hn)
  exact im (β := β) ⟨rfl, fun b o hb cur e fr hc => ⟨cur, e, fr, hc, rfl⟩⟩ e4
omit [NM rt] in
theorem mW {fn : Func} {pb po s0 : Nat} {A : Option Addr} {n cap : Nat} {xs : List α} {Q : List α → Prop} (hr : fn.results = #[]) {sv : SV} {u : Value} (hm : a8 st.slots s0 = some sv) (his : Is0 100 101 rt.n pb po A n cap u sv) (h0 : az st.heap 100 = some ⟨rHd, [(A, n, cap)]⟩) (hn : az st.heap 101 = some ⟨rt, xs⟩) (hl : n = xs.length) (hQ : Q xs) :
    JN P cx st (.fin fn (CU cx pb po rt Q (.raw (.tuple #[])))) := by
  rintro a w ⟨β, hi⟩
  obtain ⟨ys, A', n', cap', bo, g1, g2, g3, g4, _⟩ := qs hi hm his h0 hn hl hQ
  refine ⟨hi.defers, .tuple #[], ?_, _, rfl, hi.below, ys, A', n', cap', bo, g1, g2, g3, g4, rfl⟩
  simp [eI, hr]
omit [NM rt] in
theorem lr {fn : Func} {v0 : ResultVar} {s r : SV} {pb po s0 : Nat} {A : Option Addr} {n cap : Nat} {xs : List α} {Q : List α → Prop} (hr : fn.results = #[v0]) (hs0 : Res P cx st v0 s) (hp : s.plain = true) (e : s = r) {sv : SV} {u : Value} (hm : a8 st.slots s0 = some sv) (his : Is0 100 101 rt.n pb po A n cap u sv) (h0 : az st.heap 100 = some ⟨rHd, [(A, n, cap)]⟩) (hn : az st.heap 101 = some ⟨rt, xs⟩) (hl : n = xs.length) (hQ : Q xs) :
    JR P cx st (.fin fn (CU cx pb po rt Q r)) := by
  rintro a w ⟨β, hi⟩
  subst e
  obtain ⟨v, h1, h2⟩ := hs0 β a w hi
  obtain ⟨ys, A', n', cap', bo, g1, g2, g3, g4, g5⟩ := qs hi hm his h0 hn hl hQ
  refine ⟨hi.defers, v, ?_, v, rfl, hi.below, ys, A', n', cap', bo, g1, g2, g3, g4, SV.plain_keep hp (fun q hq => ⟨g5 q hq, rfl⟩) h2⟩
  simp [eI, hr, h1]
omit [NM rt] in
theorem InvB.turnI (hi : InvB cx st β a w) {nb nm c0 pb po n n' cap cap' : Nat} {A A' : Option Addr} {bo : Option (Nat × Nat)} {xs ys : List α} {u : Value} {s s' : SV} {r : List (Nat × SV)} {ks R : List Nat} (hne : nb ≠ nm)
    (hR : (R.all fun k => !Nat.beq k nm && !Nat.beq k nb && (az st.heap k).isSome) = true) (hnb : az st.heap nb = some ⟨rHd, [(A, n, cap)]⟩) (hn : az st.heap nm = some ⟨rt, xs⟩) 
    (hc0 : a8 st.slots c0 = some s) (hs : Is0 nb nm rt.n pb po A n cap u s) (hs' : Is0 nb nm rt.n pb po A' n' cap' u s') (hk : KeepP R st.slots ks r)
    (hg : BelowX (fun q => q = pb ∨ ∃ x, β nm = some x ∧ x.1 = q) w.heap.size w w')
    (hbo : ∀ x, bo = some x → ((w.heap.size ≤ x.1) ∨ (x.1 = pb ∨ ∃ y, β nm = some y ∧ y.1 = x.1)) ∧ x.1 < w'.heap.size ∧ x.1 ≠ pb)
    (hbx : wR rt w' (fun q => okR (Cx.mk w (bM cx st.heap β w) 0 (fun q => q = pb ∨ ∃ x, β nm = some x ∧ x.1 = q)) w' q ∧ q ≠ pb ∧ oM bo q) pb po A' n' cap' bo ys) :
    InvB cx ⟨(c0, s') :: r, (nb, ⟨rHd, [(A', n', cap')]⟩) :: (nm, ⟨rt, ys⟩) :: st.heap⟩ (fun q => if q = nm then bo else β q) a w' := by
  have hpb : β nb = some (pb, po) := by obtain ⟨v, _, h2⟩ := hi.slots _ _ hc0; exact ((hs _ _ _ _).1 h2).1
  have hownb := hi.own nb _ hnb _ hpb
  have hothers : ∀ k hb', az st.heap k = some hb' → k ≠ nm → k ≠ nb → ∀ x, β k = some x → x.1 ≠ pb ∧ (∀ y, β nm = some y → x.1 ≠ y.1) ∧ ∀ y, bo = some y → x.1 ≠ y.1 := fun k hb' hk h1 h2 x hx => by
    have q1 : x.1 ≠ pb := fun e => h2 (hi.sep k nb _ _ hk hnb x (pb, po) hx hpb e)
    have q2 : ∀ y, β nm = some y → x.1 ≠ y.1 := fun y hy e => h1 (hi.sep k nm _ _ hk hn x y hx hy e)
    refine ⟨q1, q2, fun y hy e => ?_⟩
    rcases (hbo y hy).1 with z | z | ⟨u, z1, z2⟩
    · have := (hi.own k _ hk x hx).2; omega
    · exact q1 (e.trans z)
    exact q2 u z1 (e.trans z2.symm)
  have hbl : ∀ k, k < w.heap.size → k ≠ pb → (∀ y, β nm = some y → k ≠ y.1) → w'.heap[k]? = w.heap[k]? := fun k hk h1 h2 => hg.blockX k hk (by
    rintro (q | ⟨x, q1, q2⟩)
    · exact h1 q
    exact h2 x q1 q2.symm)
  have hh0 : ∀ k h, az ((nb, HB.mk rHd [(A', n', cap')]) :: (nm, HB.mk rt ys) :: st.heap) k = some h → (k = nb ∧ h = ⟨rHd, [(A', n', cap')]⟩) ∨ (k = nm ∧ h = ⟨rt, ys⟩) ∨ (k ≠ nb ∧ k ≠ nm ∧ az st.heap k = some h) := fun k h hh => by
    rw [aW] at hh
    split at hh
    · rename_i e; injection hh with hh; exact .inl ⟨e.symm, hh.symm⟩
    rename_i e1
    rw [aW] at hh
    split at hh
    · rename_i e; injection hh with hh; exact .inr (.inl ⟨e.symm, hh.symm⟩)
    rename_i e2; exact .inr (.inr ⟨fun e => e1 e.symm, fun e => e2 e.symm, hh⟩)
  have hβo : ∀ k, k ≠ nm → (fun q => if q = nm then bo else β q : Loc) k = β k := fun k h => by simp [h]
  have hβn : (fun q => if q = nm then bo else β q : Loc) nm = bo := by simp
  generalize hβ' : (fun q => if q = nm then bo else β q : Loc) = β' at *
  have hpb' : β' nb = some (pb, po) := (hβo nb hne).trans hpb
  have hok : ∀ b', bM cx st.heap β w b' → bM cx ((nb, ⟨rHd, [(A', n', cap')]⟩) :: (nm, ⟨rt, ys⟩) :: st.heap) β' w' b' ∧ w'.heap[b']? = w.heap[b']? := by
    rintro b' ⟨h1, h2, h3⟩
    have z1 : b' ≠ pb := fun e => h3 nb _ hnb _ hpb e.symm
    have z2 : ∀ y, β nm = some y → b' ≠ y.1 := fun y hy e => h3 nm _ hn y hy e.symm
    refine ⟨⟨h1, Nat.lt_of_lt_of_le h2 hg.size, fun k hb' hk x hx => ?_⟩, hbl b' h2 z1 z2⟩
    rcases hh0 k hb' hk with ⟨rfl, _⟩ | ⟨rfl, _⟩ | ⟨q1, q2, hk⟩
    · rw [hpb'] at hx; injection hx with hx; subst hx; exact fun e => z1 e.symm
    · rw [hβn] at hx
      intro e
      rcases (hbo x hx).1 with z | z | ⟨u, y1, y2⟩
      · omega
      · exact z1 (e.symm.trans z)
      exact z2 u y1 (e.symm.trans y2.symm)
    rw [hβo k q2] at hx; exact h3 k hb' hk x hx
  have hok2 : ∀ q, (okR (Cx.mk w (bM cx st.heap β w) 0 (fun q => q = pb ∨ ∃ x, β nm = some x ∧ x.1 = q)) w' q ∧ q ≠ pb ∧ oM bo q) → bM cx ((nb, ⟨rHd, [(A', n', cap')]⟩) :: (nm, ⟨rt, ys⟩) :: st.heap) β' w' q ∧ w'.heap[q]? = w'.heap[q]? := fun q hq => by
    refine ⟨?_, rfl⟩
    have hnk : cx.ok0 q ∨ cx.new q := by
      rcases hq.1.1 with z | z | z
      · exact z.1
      · exact .inr (.inl (Nat.le_trans hi.below.size z))
      rcases z with z | ⟨u, z1, z2⟩
      · exact absurd z hq.2.1
      exact .inr (z2 ▸ (hi.own nm _ hn u z1).1)
    refine ⟨hnk, hq.1.2, fun k hb' hk x hx e1 => ?_⟩
    rcases hh0 k hb' hk with ⟨rfl, _⟩ | ⟨rfl, _⟩ | ⟨q1, q2, hk⟩
    · rw [hpb'] at hx; injection hx with hx; subst hx; exact hq.2.1 e1.symm
    · rw [hβn] at hx; exact hq.2.2 x hx e1
    rw [hβo k q2] at hx
    rcases hq.1.1 with z | z | z
    · exact z.2.2 k _ hk x hx e1
    · have := (hi.own k _ hk x hx).2
      have z : w.heap.size ≤ q := z
      omega
    rcases z with z | ⟨u, z1, z2⟩
    · exact hq.2.1 z
    exact (hothers k _ hk q2 q1 x hx).2.1 u z1 (e1.trans z2.symm)
  obtain ⟨bx1, bx2, bx3⟩ := hbx
  refine ⟨⟨hg.os.trans hi.below.os, hg.tape.trans hi.below.tape, hg.output.trans hi.below.output, Nat.le_trans hi.below.size hg.size, fun k hk hx => ?_, Nat.le_trans hi.below.drawn hg.drawn⟩, hi.old, hi.defers, hi.size, fun k hb' hk x hx => ?_, fun k k' h1 h2 hk hk' x y hx hy hxy => ?_, fun k hb' hk => ?_, fun i t hs2 => ?_⟩
  · refine (hbl k (Nat.lt_of_lt_of_le hk hi.below.size) ?_ ?_).trans (hi.below.blockX k hk hx)
    · rintro rfl
      rcases hownb.1 with q | q
      · simp only at q; omega
      exact hx q
    rintro y hy rfl
    rcases (hi.own nm _ hn y hy).1 with q | q
    · omega
    exact hx q
  · rcases hh0 k hb' hk with ⟨rfl, _⟩ | ⟨rfl, _⟩ | ⟨q1, q2, hk⟩
    · rw [hpb'] at hx; injection hx with hx; subst hx; exact ⟨hownb.1, Nat.lt_of_lt_of_le hownb.2 hg.size⟩
    · rw [hβn] at hx
      refine ⟨?_, (hbo x hx).2.1⟩
      rcases (hbo x hx).1 with z | z | ⟨u, y1, y2⟩
      · exact .inl (Nat.le_trans hi.below.size z)
      · exact absurd z (hbo x hx).2.2
      exact y2 ▸ (hi.own _ _ hn u y1).1
    rw [hβo k q2] at hx
    have := hi.own k hb' hk x hx
    exact ⟨this.1, Nat.lt_of_lt_of_le this.2 hg.size⟩
  · rcases hh0 k _ hk with ⟨rfl, _⟩ | ⟨rfl, _⟩ | ⟨q1, q2, hk3⟩ <;> rcases hh0 k' _ hk' with ⟨rfl, _⟩ | ⟨rfl, _⟩ | ⟨q3, q4, hk4⟩
    · rfl
    · rw [hpb'] at hx; injection hx with hx; subst hx; rw [hβn] at hy; exact absurd hxy.symm (hbo y hy).2.2
    · rw [hpb'] at hx; injection hx with hx; subst hx; rw [hβo k' q4] at hy; exact absurd hxy.symm (hothers k' _ hk4 q4 q3 y hy).1
    · rw [hpb'] at hy; injection hy with hy; subst hy; rw [hβn] at hx; exact absurd hxy (hbo x hx).2.2
    · rfl
    · rw [hβn] at hx; rw [hβo k' q4] at hy; exact absurd hxy.symm ((hothers k' _ hk4 q4 q3 y hy).2.2 x hx)
    · rw [hpb'] at hy; injection hy with hy; subst hy; rw [hβo k q2] at hx; exact absurd hxy (hothers k _ hk3 q2 q1 x hx).1
    · rw [hβn] at hy; rw [hβo k q2] at hx; exact absurd hxy ((hothers k _ hk3 q2 q1 x hx).2.2 y hy)
    rw [hβo k q2] at hx; rw [hβo k' q4] at hy; exact hi.sep k k' _ _ hk3 hk4 x y hx hy hxy
  · rcases hh0 k _ hk with ⟨rfl, rfl⟩ | ⟨rfl, rfl⟩ | ⟨q1, q2, hk⟩
    · rw [hpb']
      exact HB.keep (hb := ⟨rHd, [(A', n', cap')]⟩) (l := some (pb, po)) hok2 (fun _ _ => rfl) ⟨fun _ => bx1, fun hm => by cases hm⟩
    · rw [hβn]; exact HB.keep hok2 (fun _ _ => rfl) bx2
    rw [hβo k q2]
    exact HB.keep hok (fun x hx => hbl _ (hi.own k _ hk x hx).2 (hothers k _ hk q2 q1 x hx).1 (hothers k _ hk q2 q1 x hx).2.1) (hi.rows k _ hk)
  rw [aT] at hs2
  split at hs2
  · rename_i e; subst e; injection hs2 with hs2; subst hs2
    obtain ⟨v, h1, h2⟩ := hi.slots _ _ hc0
    refine ⟨v, h1, (hs' _ _ _ _).2 ⟨hpb', ?_, ((hs _ _ _ _).1 h2).2.2⟩⟩
    exact im (β := fun _ => bo) ⟨hβn, fun b o hb cur e fr hc => ⟨cur, e, fr, hc, rfl⟩⟩ bx3
  obtain ⟨hs0, hw⟩ := hk.look i t hs2
  obtain ⟨v, h1, h2⟩ := hi.slots i t hs0
  refine ⟨v, h1, SV.keep hok (fun k hkf => ?_) h2⟩
  have hmem := SV.within_mem hw hkf
  have := List.all_eq_true.1 hR k hmem
  simp only [Bool.and_eq_true, Bool.not_eq_true'] at this
  have z1 : k ≠ nm := fun e => by subst e; simp at this
  have z2 : k ≠ nb := fun e => by subst e; simp at this
  cases hlk : az st.heap k with
  | none => rw [hlk] at this; simp at this
  | some hb2 =>
    refine ⟨hβo k z1, fun b1 o1 hbo1 cur e fr hc => ⟨cur, e, fr, ?_, rfl⟩⟩
    have hz := hothers k _ hlk z1 z2 (b1, o1) hbo1
    rw [hbl b1 (InvB.cell_lt hc) hz.1 hz.2.1]; exact hc
omit [NM rt] in
theorem ff {rest : List Oper} {o : Oper} {kf : FuncId} {nb nm c0 n cap d pb po : Nat} {A : Option Addr} {xs : List α} {Q : List α → Prop} {ss : List SV} {rr : SV} (sF : Option Addr → Nat → Nat → SV) {u0 : Value} {u : Nat → Nat → Option Addr → Nat → Nat → Value} {xo : List Operand} (R ks : List Nat) {r : List (Nat × SV)} (h : CtI P kf rt u xs Q ss rr)
    (hg : o.guard = none) (hd0 : o.dst = some d) (hc0 : a8 st.slots c0 = some (sF A n cap)) (his : ∀ A n cap, Is0 nb nm rt.n pb po A n cap u0 (sF A n cap))
    (hrun : ∀ (β : Loc) (a : Act) (w : World), InvB cx st β a w → (execOp a.eval o).run P w = .ok (.enter kf ((u pb po A n cap :: xo.map a.eval).toArray)) w)
    (hnb : az st.heap nb = some ⟨rHd, [(A, n, cap)]⟩) (hn : az st.heap nm = some ⟨rt, xs⟩) (hne : Nat.beq nb nm = false) (hfull : n = xs.length) (ha : Args st xo ss) (hp : (ss.all SV.plain) = true) (hr : rr.plain = true) (hd : Nat.blt d cx.n = true)
    (hR : (R.all fun k => !Nat.beq k nm && !Nat.beq k nb && (az st.heap k).isSome) = true) (hk : KeepP R st.slots ks r)
    (hnext : ∀ ys A' cap', Q ys → JG P cx ops ⟨(d, rr) :: (c0, sF A' ys.length cap') :: r, (nb, ⟨rHd, [(A', ys.length, cap')]⟩) :: (nm, ⟨rt, ys⟩) :: st.heap⟩ rest k) :
    JG P cx ops st (o :: rest) k := by
  rintro a w ⟨β, hi⟩
  have hne : nb ≠ nm := fun e => by subst e; simp at hne
  refine wpList_plain hg fun K hK => ?_
  unfold Oper.wp
  rw [hrun β a w hi, Oper.upon_enter, hd0] at *
  obtain ⟨v0, _, e0⟩ := hi.slots c0 _ hc0
  obtain ⟨hβ, hhd, _⟩ := (his _ _ _ _ _ _ _).1 e0
  have hargs := ha.holds (fun _ _ => rfl) hi hp
  have hpb := hi.own nb _ hnb _ hβ
  have hnok : ¬ bM cx st.heap β w pb := fun q => q.2.2 nb _ hnb _ hβ rfl
  have hrow : eZ rHd w (bM cx st.heap β w) pb po [(A, n, cap)] := by
    have := hi.rows nb _ hnb
    rw [hβ] at this; exact this.1 rfl
  subst hfull
  refine (h.calls w (bM cx st.heap β w) pb po A cap (β nm) _ (fun _ hb => hb.2.1) hnok hpb.2 (fun y hy => ⟨fun q => q.2.2 nm _ hn y hy rfl, fun e => hne (hi.sep nb nm _ _ hnb hn (pb, po) y hβ hy e.symm), (hi.own nm _ hn y hy).2⟩)
    ⟨hrow, hi.rows nm _ hn, (show hdr (fun _ => β nm) w 101 rt.n 0 xs.length (.slice A xs.length cap) from hhd)⟩ hargs).mono ?_
  rintro e0 w' ⟨v, rfl, hb, ys, A', n', cap', bo, q0, rfl, q2, q3, q4⟩
  have hi' := hi.turnI hne hR hnb hn hc0 (his _ _ _) (his A' ys.length cap') hk hb (fun y hy => ⟨(q2 y hy).1, (q2 y hy).2.1, (q2 y hy).2.2⟩) q3
  refine hK _ _ (hnext ys A' cap' q0 _ _ ⟨_, hi'.put (by simpa using hd) (SV.plain_keep hr (fun q hq => ⟨?_, rfl⟩) q4)⟩)
  have hnk : cx.ok0 q ∨ cx.new q := by
    rcases hq.1.1 with z | z | z
    · exact z.1
    · exact .inr (.inl (Nat.le_trans hi.below.size z))
    rcases z with z | ⟨u, z1, z2⟩
    · exact absurd z hq.2.1
    exact .inr (z2 ▸ (hi.own nm _ hn u z1).1)
  refine ⟨hnk, hq.1.2, fun k' hb' hk' y hy e1 => ?_⟩
  rw [aW] at hk'
  split at hk'
  · rename_i e; subst e
    simp only [if_neg hne] at hy
    rw [hβ] at hy; injection hy with hy; subst hy; exact hq.2.1 e1.symm
  rename_i z1
  rw [aW] at hk'
  split at hk'
  · rename_i e; subst e
    simp only [if_pos] at hy
    exact hq.2.2 y hy e1
  rename_i z2
  simp only [if_neg (Ne.symm z2)] at hy
  rcases hq.1.1 with z | z | z
  · exact z.2.2 k' _ hk' y hy e1
  · have := (hi.own k' _ hk' y hy).2
    have z : w.heap.size ≤ q := z
    omega
  rcases z with z | ⟨u, y1, y2⟩
  · exact hq.2.1 z
  exact z2 (hi.sep nm k' _ _ hn hk' u y y1 hy (y2.trans e1.symm))
def MT (P : Program) (T : TypeId) (name : String) (f : FuncId) (pr : Bool) : Prop :=
  ((P.info? T).bind fun ti => (ti.methods.find? (·.name == name)).bind fun m => if m.path.isEmpty then m.func else none) = some (f, pr)
theorem tl {T e : TypeId} {name : String} {f : FuncId} (h : MT P T name f true) (hu : P.underlying T = some (.pointer e)) (n : Nat) (v : Value) : (method (n + 1) T v name).run P w = .ok (f, v) w := by
  unfold MT at h
  cases hi : P.info? T with
  | none => rw [hi] at h; cases h
  | some ti =>
    rw [hi] at h
    simp only [Option.bind_some] at h
    cases hm : ti.methods.find? (·.name == name) with
    | none => rw [hm] at h; cases h
    | some m =>
      rw [hm] at h
      simp only [Option.bind_some] at h
      split at h
      · rename_i hp
        have hp : m.path = #[] := by simpa using hp
        simp [method, typeInfo, hi, hm, hp, follow, h, receiverAt, run_underlying hu, Place.get]
      cases h
theorem BD (ts : Array TypeId) (t : TypeId) (ad : Addr) (s1 s2 : ByteArray) : Builtin.ssaWrapNilChk_ ts t #[.pointer (some ad), .string s1, .string s2] = pure (.pointer (some ad)) := rfl
theorem tm {T e : TypeId} {name : String} {f : FuncId} {pb po : Nat} {hv : Value} (h : MT P T name f false) (hu : P.underlying T = some (.pointer e)) (n : Nat) (hl : (loadVar e ⟨pb, po, none⟩).run P w = .ok hv w) : (method (n + 1) T (cU pb po) name).run P w = .ok (f, hv) w := by
  unfold MT at h
  cases hi : P.info? T with
  | none => rw [hi] at h; cases h
  | some ti =>
    rw [hi] at h
    simp only [Option.bind_some] at h
    cases hm : ti.methods.find? (·.name == name) with
    | none => rw [hm] at h; cases h
    | some m =>
      rw [hm] at h
      simp only [Option.bind_some] at h
      split at h
      · rename_i hp
        have hp : m.path = #[] := by simpa using hp
        simp [method, typeInfo, hi, hm, hp, follow, h, receiverAt, run_underlying hu, Place.get, cU, BD, strVal, asAddr, hl]
      cases h
theorem qu (P : Program) : P.types.size + Made.depth = (P.types.size + 99) + 1 := rfl
theorem Ck {T e : TypeId} {name : String} {kf : FuncId} {pb po : Nat} {x : Operand} {xo : List Operand} {ts : Array TypeId} (hent : ∀ w args, (callFunc kf args).run P w = .ok (.enter kf args) w) (hmt : MT P T name kf true) (hu : P.underlying T = some (.pointer e)) (hx : a.eval x = .iface T (cU pb po)) :
    (execOp a.eval ⟨dst, .call { callee := .invoke x name, args := xo.toArray, argTypes := ts }, ty, pos, aft, gd⟩).run P w = .ok (.enter kf ((cU pb po :: xo.map a.eval).toArray)) w := by
  simp [execOp, resolve, invoke, callMethod, hx, qu, tl hmt hu, hent]
  exact List.take_of_length_le (by simp)
theorem wo {T e : TypeId} {name : String} {kf : FuncId} {pb po : Nat} {hv : Value} {x : Operand} {xo : List Operand} {ts : Array TypeId} (hent : ∀ w args, (callFunc kf args).run P w = .ok (.enter kf args) w) (hmt : MT P T name kf false) (hu : P.underlying T = some (.pointer e)) (hx : a.eval x = .iface T (cU pb po)) (hl : (loadVar e ⟨pb, po, none⟩).run P w = .ok hv w) :
    (execOp a.eval ⟨dst, .call { callee := .invoke x name, args := xo.toArray, argTypes := ts }, ty, pos, aft, gd⟩).run P w = .ok (.enter kf ((hv :: xo.map a.eval).toArray)) w := by
  simp [execOp, resolve, invoke, callMethod, hx, qu, tm hmt hu _ hl, hent]
  exact List.take_of_length_le (by simp)
theorem pt {kf : FuncId} {v : Value} {x : Operand} {xo : List Operand} {ts : Array TypeId} (hent : ∀ w args, (callFunc kf args).run P w = .ok (.enter kf args) w) (hx : a.eval x = v) :
    (execOp a.eval ⟨dst, .call { callee := .value (.func kf), args := (x :: xo).toArray, argTypes := ts }, ty, pos, aft, gd⟩).run P w = .ok (.enter kf ((v :: xo.map a.eval).toArray)) w := by
  subst hx
  simp [execOp, resolve, Act.eval, Deferred.ofValue, invoke, hent]
theorem lk {T e : TypeId} {v : Value} {x : Operand} (hu : P.underlying T = some (.pointer e)) (hx : Ev st x (.raw v)) : Adr P cx st ⟨dst, .makeInterface T x, ty, pos, aft, gd⟩ (.raw (.iface T v)) :=
  bD fun st' hag β a w hi => by
    have h1 := hi.raw (hag.ev (by simp [Op.operands]) hx)
    exact ⟨_, by simp [execOp, Instr.makeInterface, run_underlying hu, h1], rfl⟩
theorem ll {T : TypeId} {ki : IntKind} {v : Value} {x : Operand} (hu : P.underlying T = some (.int ki)) (hx : Ev st x (.raw v)) : Adr P cx st ⟨dst, .makeInterface T x, ty, pos, aft, gd⟩ (.raw (.iface T v)) :=
  bD fun st' hag β a w hi => by
    have h1 := hi.raw (hag.ev (by simp [Op.operands]) hx)
    exact ⟨_, by simp [execOp, Instr.makeInterface, run_underlying hu, h1], rfl⟩
theorem pX {xT T : TypeId} {ki : IntKind} {v : Value} {x : Operand} (hu : P.underlying T = some (.int ki)) (hx : Ev st x (.raw (.iface T v))) : Adr P cx st ⟨dst, .typeAssert x xT T true, ty, pos, aft, gd⟩ (.tup2 (.raw v) (.raw (.bool true))) :=
  bD fun st' hag β a w hi => by
    have h1 := hi.raw (hag.ev (by simp [Op.operands]) hx)
    exact ⟨.tuple #[v, .bool true], by simp [execOp, Instr.typeAssert, run_underlying hu, h1], _, _, rfl, rfl, rfl⟩
theorem tJ (hi : InvB cx st β a w) {nb pb po n cap : Nat} {A : Option Addr} {e : TypeId} (hβ : β nb = some (pb, po)) (hnb : az st.heap nb = some ⟨rHd, [(A, n, cap)]⟩) (he : Ty P e rHd) : (loadVar e ⟨pb, po, none⟩).run P w = .ok (.slice A n cap) w := by
  obtain ⟨cs, h3, h4⟩ := pQ (gX hi hnb hβ) (i := 0) (x := (A, n, cap)) rfl (Lens.id rHd)
  obtain ⟨v, h5, h6⟩ := jq (P := P) he h3 h4
  have : v = .slice A n cap := rHd.val_raw rfl h6
  subst this
  simpa using h5
theorem gJ {kf : FuncId} {T e : TypeId} {name : String} {nb nm n cap pb po : Nat} {A : Option Addr} {xs : List α} {ss : List SV} {r s : SV} {x : Operand} {xo : List Operand} {ts : Array TypeId} (h : Ct P kf (.tv (ab rt) xs :: ss) r) (hmt : MT P T name kf false) (hu : P.underlying T = some (.pointer e)) (he : Ty P e rHd)
    (hx : Ev st x s) (his : Is0 nb nm rt.n pb po A n cap (.iface T (cU pb po)) s) (hsf : s.free nb = false) (hsf' : s.free nm = false) (hnb : az st.heap nb = some ⟨rHd, [(A, n, cap)]⟩) (hn : az st.heap nm = some ⟨rt, xs⟩) (hfull : n = xs.length) (ha : ArgsB st xo ss) (hr : r.Flat) :
    Adr P cx st ⟨dst, .call { callee := .invoke x name, args := xo.toArray, argTypes := ts }, ty, pos, aft, gd⟩ r := by
  intro st' hag d hd hdn a w ⟨β, hi⟩ Q
  have hxm : x ∈ (Op.call { callee := .invoke x name, args := xo.toArray, argTypes := ts }).operands := by simp [Op.operands, Call.operands]
  have hnb' := (hag.look hxm hx hsf).trans hnb
  have hn' := (hag.look hxm hx hsf').trans hn
  obtain ⟨hβ, hhd, hval⟩ := (his _ _ _ _).1 (hi.ev (hag.ev hxm hx))
  have hargs := ha.holds (cx := cx) (β := β) (a := a) (w := w) (st' := st') (fun x hx => hag.ops x (by simp [Op.operands, Call.operands, hx])) (fun x hx s nm he hf => hag.look (by simp [Op.operands, Call.operands, hx]) he hf) hi
  have hsl := eJ (rt := rt) hi hn' hhd (by omega) (ok := fun b => b < w.heap.size) (fun _ hb => hb.2.1) (fun b o hb => hi.own_lt hn' hb)
  rw [List.drop_zero, List.take_of_length_le (by omega)] at hsl
  unfold Oper.wp
  rw [wo h.ent hmt hu hval (tJ hi hβ hnb' he), Oper.upon_enter]
  refine (h.calls w (fun b => b < w.heap.size) _ (fun b hb => hb) ⟨_, _, rfl, hsl, hargs⟩).mono ?_
  rintro e w' ⟨v, rfl, hb, hv⟩
  have hb := hb.plain (fun _ h => h)
  subst hd
  exact ⟨β, (hi.later hb).put hdn (hr hv)⟩
theorem xk {c0 j nb nm sz pb po n cap : Nat} {A : Option Addr} {u : Value} {s : SV} (hc : a8 st.slots c0 = some s) (his : Is0 nb nm sz pb po A n cap u s) (hj : a8 st.slots j = some (.raw (.slice A n cap))) (hi : Inv cx st a w) : Inv cx ⟨(j, .own nm sz 0 n) :: st.slots, st.heap⟩ a w := by
  obtain ⟨β, hb⟩ := hi
  obtain ⟨v, _, h2⟩ := hb.slots c0 _ hc
  obtain ⟨_, hhd, _⟩ := (his _ _ _ _).1 h2
  exact ⟨β, hb.turnS hj fun v' hv => by have hv : v' = .slice A n cap := hv; subst hv; exact hhd⟩
theorem Ad (c0 j : Nat) {nb nm sz pb po n cap : Nat} {A : Option Addr} {u : Value} {s : SV} {l : List Oper} (hc : a8 st.slots c0 = some s) (his : Is0 nb nm sz pb po A n cap u s) (hj : a8 st.slots j = some (.raw (.slice A n cap))) (h : JG P cx ops ⟨(j, .own nm sz 0 n) :: st.slots, st.heap⟩ l k) : JG P cx ops st l k := fun a w hi => h a w (xk hc his hj hi)
theorem Ac (c0 c1 : Nat) {s s1 t : SV} {u : Value} {l : List Oper} (hc : a8 st.slots c0 = some (.lnk s u t)) (h1 : a8 st.slots c1 = some s1) (hne : Nat.beq c1 c0 = false) (h : JG P cx ops ⟨(c0, s) :: (c1, .lnk s1 u t) :: st.slots, st.heap⟩ l k) : JG P cx ops st l k := fun a w ⟨β, hb⟩ => by
  obtain ⟨_, _, _, ht⟩ := hb.slots c0 _ hc
  have h2 := hb.turnS (s' := .lnk s1 u t) h1 fun v hv => ⟨hv, ht⟩
  have hc' : a8 ((c1, SV.lnk s1 u t) :: st.slots) c0 = some (.lnk s u t) := by rw [show a8 ((c1, SV.lnk s1 u t) :: st.slots) c0 = bif Nat.beq c1 c0 then some (.lnk s1 u t) else a8 st.slots c0 from rfl, hne]; exact hc
  exact h a w ⟨β, h2.turnS (s' := s) hc' fun v hv => hv.1⟩
theorem Cc (j nb : Nat) {l : List Oper} (hj : a8 st.slots j = some (.optr nb 1 0 0)) (h : ∀ pb po, JG P cx ops ⟨(j, .both (.optr nb 1 0 0) (cU pb po)) :: st.slots, st.heap⟩ l k) : JG P cx ops st l k := fun a w ⟨β, hb⟩ => by
  obtain ⟨v, _, b, o, e1, e2⟩ := hb.slots j _ hj
  refine h b o a w ⟨β, hb.turnS hj fun v' hv => ⟨hv, ?_⟩⟩
  obtain ⟨b', o', g1, g2⟩ := hv
  rw [e1] at g1; injection g1 with g1; injection g1 with g1 g1'
  subst g1; subst g1'
  simpa using g2
omit [NM rt] in
theorem sb (hi : InvB cx st β a w) {nb nm sz pb po n cap : Nat} {A : Option Addr} {u : Value} {s : SV} {x : Operand} (hx : Ev st x s) (his : Is0 nb nm sz pb po A n cap u s) : β nb = some (pb, po) ∧ a.eval x = u := by
  obtain ⟨h1, _, h2⟩ := (his _ _ _ _).1 (hi.ev hx)
  exact ⟨h1, h2⟩
theorem nt (hi : InvB cx st β a w) {nb nm sz pb po n cap : Nat} {A : Option Addr} {s : SV} {x : Operand} {T e : TypeId} {name : String} {kf : FuncId} {xo : List Operand} {ts : Array TypeId} (hent : ∀ w args, (callFunc kf args).run P w = .ok (.enter kf args) w) (hmt : MT P T name kf false) (hu : P.underlying T = some (.pointer e)) (he : Ty P e rHd)
    (hx : Ev st x s) (his : Is0 nb nm sz pb po A n cap (.iface T (cU pb po)) s) (hnb : az st.heap nb = some ⟨rHd, [(A, n, cap)]⟩) :
    (execOp a.eval ⟨dst, .call { callee := .invoke x name, args := xo.toArray, argTypes := ts }, ty, pos, aft, gd⟩).run P w = .ok (.enter kf ((.slice A n cap :: xo.map a.eval).toArray)) w :=
  wo hent hmt hu (sb hi hx his).2 (tJ hi (sb hi hx his).1 hnb he)
theorem tV (hi : InvB cx st β a w) {nb nm sz pb po n cap : Nat} {A : Option Addr} {s : SV} {x : Operand} {T e : TypeId} {name : String} {kf : FuncId} {xo : List Operand} {ts : Array TypeId} (hent : ∀ w args, (callFunc kf args).run P w = .ok (.enter kf args) w) (hmt : MT P T name kf true) (hu : P.underlying T = some (.pointer e))
    (hx : Ev st x s) (his : Is0 nb nm sz pb po A n cap (.iface T (cU pb po)) s) :
    (execOp a.eval ⟨dst, .call { callee := .invoke x name, args := xo.toArray, argTypes := ts }, ty, pos, aft, gd⟩).run P w = .ok (.enter kf ((cU pb po :: xo.map a.eval).toArray)) w :=
  Ck hent hmt hu (sb hi hx his).2
theorem tW (hi : InvB cx st β a w) {nb nm sz pb po n cap : Nat} {A : Option Addr} {s : SV} {u : Value} {x : Operand} {kf : FuncId} {xo : List Operand} {ts : Array TypeId} (hent : ∀ w args, (callFunc kf args).run P w = .ok (.enter kf args) w)
    (hx : Ev st x s) (his : Is0 nb nm sz pb po A n cap u s) :
    (execOp a.eval ⟨dst, .call { callee := .value (.func kf), args := (x :: xo).toArray, argTypes := ts }, ty, pos, aft, gd⟩).run P w = .ok (.enter kf ((u :: xo.map a.eval).toArray)) w :=
  pt hent (sb hi hx his).2
theorem u9 {nm : Nat} {xs : List α} (m : Nat) (hn : az st.heap nm = some ⟨rt, xs⟩) (hi : Inv cx st a w) : Inv cx ⟨st.slots, (nm, ⟨rt, xs.take m⟩) :: st.heap⟩ a w := by
  obtain ⟨β, hb⟩ := hi
  refine ⟨β, hb.re (fun k => k) β (fun k h hk => .inr ⟨rfl, ?_⟩) (fun _ _ _ _ _ _ _ _ e => e) (fun q t hq => hb.slots q t hq)⟩
  rw [aW] at hk
  split at hk
  · rename_i e; subst e; injection hk with hk; subst hk
    refine ⟨_, hn, fun l hl => ?_⟩
    cases l with
    | none => have hl : xs = [] := hl; subst hl; simp [HB.holds]
    | some bo =>
      obtain ⟨b', o'⟩ := bo
      refine ⟨fun hm' => ?_, fun hm' => by rw [show rt.mp = false from NM.no] at hm'; cases hm'⟩
      obtain ⟨cur, e', q1, q2, q3⟩ := hl.1 hm'
      refine ⟨cur, e', q1, ?_, fun i' x' hi' => q3 i' x' ?_⟩
      · have : (xs.take m).length * rt.n ≤ xs.length * rt.n := Nat.mul_le_mul_right _ (by simp; omega)
        simp only at q2 ⊢
        omega
      simp only at hi'
      rw [List.getElem?_take] at hi'
      split at hi'
      · exact hi'
      cases hi'
  exact ⟨h, hk, fun _ x => x⟩
theorem xf (nm m : Nat) {xs : List α} {l : List Oper} (hn : az st.heap nm = some ⟨rt, xs⟩) (h : JG P cx ops ⟨st.slots, (nm, ⟨rt, xs.take m⟩) :: st.heap⟩ l k) : JG P cx ops st l k := fun a w hi => h a w (u9 m hn hi)
def uH : RT Unit where
  n := 1
  agg := false
  raw _ := none
  rep _ _ cs _ := ∃ b, cs = [.bool b]
  len h := by obtain ⟨b, rfl⟩ := h; rfl
  one h := by obtain ⟨b, rfl⟩ := h; simp [Value.oneCell']
  keep _ h := h
  scal _ := rfl
  exact_ h1 h2 := by cases h1
  exact' h := by cases h
omit [NM rt] in
theorem qe (i : Nat) {b : Bool} (hs : a8 st.slots i = some (.raw (.bool b))) (h : JR P cx ⟨(i, .tv uH ()) :: st.slots, st.heap⟩ k) : JR P cx st k := fun a w ⟨β, hb⟩ =>
  h a w ⟨β, hb.turnS hs fun v hv => (by have hv : v = .bool b := hv; subst hv; exact ⟨[.bool b], ⟨b, rfl⟩, by simp [uH]⟩)⟩
end
end Go.Eng
namespace Go.Proofs.YtehcaebnijlhgaaGreatDoor.C16
open Go.Eng Tryz
set_option maxRecDepth 100000
set_option maxHeartbeats 4000000
theorem fK : Ty prog 284 rHd := by obtain ⟨⟨de, hu, hd⟩, i0, hi0, hs⟩ := ty284; exact ⟨⟨de, hu, hd⟩, i0, hi0, hs⟩
theorem zi : MT prog 283 "Len" 176 false := by unfold MT; kernel_rfl
theorem ph : MT prog 283 "Less" 311 false := by unfold MT; kernel_rfl
theorem pg : MT prog 283 "Swap" 314 false := by unfold MT; kernel_rfl
theorem B3 : MT prog 283 "Push" 313 true := by unfold MT; kernel_rfl
theorem mt_pop : MT prog 283 "Pop" 312 true := by unfold MT; kernel_rfl
theorem sf (xs : List Int) (hm : xs.length ≤ 100000) : Ct prog 176 [.tv (ab (ak .i64)) xs] (.raw (.int .i64 xs.length)) := by
  refine ay func176 rfl rfl ntmps176 rfl rfl ?_
  intro w0 ok0
  refine zR (zY rfl (aa (zR (zM rfl (zN jp rfl (zY rfl (aa (am ?_))))))))
  exact z1 results176 rfl (rfl)
theorem nw (xs : List Int) (i j : Nat) (hi : i < xs.length) (hj : j < xs.length) : Ct prog 311 [.tv (ab (ak .i64)) xs, .raw (.int .i64 (i : Nat)), .raw (.int .i64 (j : Nat))] (.raw (.bool (decide (gt xs i < gt xs j)))) := by
  refine ay func311 rfl rfl ntmps311 rfl rfl ?_
  intro w0 ok0
  refine zR (zY rfl (aa (ae ?_)))
  refine dN mo zk ( zS (ag (.b rfl)) ( zS (ag (.b rfl)) ( zS (al jp ty3 (.b rfl) (.b rfl) rfl zg) ( zS (aA ty3 (.b rfl)) ( zS (ag (.b rfl)) ( zS (ag (.b rfl)) ( zS (al jp ty3 (.b rfl) (.b rfl) rfl zg) ( zS (aA ty3 (.b rfl)) ( zS (dS (.b rfl) (.b rfl)) ( zS (aU (.b rfl)) ( AS.nil))))))))))) ?_
  refine aa (am ?_)
  exact z1 results311 rfl (rb (by rw [ny hi, ny hj]))
theorem il (xs : List Int) (i j : Nat) (hi : i < xs.length) (hj : j < xs.length) : CtI prog 314 (ak .i64) (uHead) xs (fun ys => ys = sw xs i j) [.raw (.int .i64 (i : Nat)), .raw (.int .i64 (j : Nat))] (.raw (.tuple #[])) := by
  refine gT (yr 100 101 1) (fun _ _ _ _ _ => tT) func314 rfl rfl rfl rfl rfl ?_
  intro w0 ok0 pb po A cap ex
  refine bZ mo zk ( AE.cons _ _ _ rfl (pw rfl (.l1 rfl)) ( zE [] (ag (.b rfl)) ( AE.cons _ _ _ rfl (pw rfl (.l1 rfl)) ( zE [] (ag (.b rfl)) ( AE.cons _ _ _ rfl (pw rfl (.l1 rfl)) ( zE [] (ag (.b rfl)) ( AE.cons _ _ _ rfl (lW rfl jp ty3 (.b1 rfl) (.b rfl) rfl zh) ( zE [101] (aj ty3 (.b rfl) rfl zg (Lens.id _)) ( AE.cons _ _ _ rfl (pw rfl (.l1 rfl)) ( zE [] (ag (.b rfl)) ( AE.cons _ _ _ rfl (lW rfl jp ty3 (.b1 rfl) (.b rfl) rfl zh) ( zE [101] (aj ty3 (.b rfl) rfl zg (Lens.id _)) ( AE.cons _ _ _ rfl (lW rfl jp ty3 (.b1 rfl) (.b rfl) rfl zh) ( AE.cons _ _ _ rfl (bF ty3 (.b rfl) rfl zg (Lens.id _) (.raw (.b rfl) rfl)) ( AE.cons _ _ _ rfl (lW rfl jp ty3 (.b1 rfl) (.b rfl) rfl zh) ( AE.cons _ _ _ rfl (bF ty3 (.b rfl) rfl zg (Lens.id _) (.raw (.b rfl) rfl)) ( AE.nil))))))))))))))))) zk ?_
  exact mW (s0 := 0) results314 rfl tT rfl rfl (by simp) (by simp only [Nat.zero_add]; unfold sw; rw [ny hi, ny hj])
theorem tX (xs : List Int) (x : Int) (hsm : xs.length ≤ 1000) : CtI prog 313 (ak .i64) (uPtr) xs (fun ys => ys = xs ++ [x]) [.raw (.iface 3 (.int .i64 x))] (.raw (.tuple #[])) := by
  refine gT (kO 100 101 1) (fun _ _ _ _ _ => jy) func313 rfl rfl rfl rfl rfl ?_
  intro w0 ok0 pb po A cap ex
  refine zR (zM rfl (zJ (pX uT3 (.b rfl)) (zM rfl (zJ (bj (.b rfl)) (zJ (bi (.b rfl)) (zA rfl (zY rfl (aa (zR (zM rfl (zZ ?_)))))))))))
  refine af rfl (fun h1 => ?_) (fun h1 => ?_)
  · try simp at h1
    refine ac (zJ (ag (.l1 rfl)) (zJ (ag (.l1 rfl)) (zJ (ic (.b rfl) (.inr ⟨_, rfl⟩)) (zJ (aj fK (.b1 rfl) rfl rfl (Lens.id _)) ?_))))
    refine ls 0 15 rfl rfl rfl ?_
    refine zM rfl (zJ (bq (rt := (ak .i64)) jp ty3 z3 rfl (.cons (.raw (.b rfl) rfl) .nil) rfl rfl) (zV [0,12] jp ty3 z3 by3 rfl rfl (.tv (.b rfl)) ?_))
    refine zJ (ic (.b rfl) (.inr ⟨_, rfl⟩)) ?_
    refine ij 0 18 rfl rfl (fun A2 cap2 => ?_)
    refine zO (bK (d := (A2, xs.length + [x].length, cap2)) fK (.b1 rfl) rfl rfl (Lens.id _) (.raw (.b rfl) rfl)) (aN ?_)
    exact mW (s0 := 0) (sv := kO 100 101 1 pb po _ _ _) results313 rfl jy rfl rfl (by simp) (by simp)
  cases h1
theorem wq (xs : List Int) (hsm : 0 < xs.length) (hm : xs.length ≤ 1000) : CtI prog 312 (ak .i64) (uPtr) xs (fun ys => ys = xs.take (xs.length - 1)) [] (.raw (.iface 3 (.int .i64 (gt xs (xs.length - 1))))) := by
  refine gT (kO 100 101 1) (fun _ _ _ _ _ => jy) func312 rfl rfl rfl rfl rfl ?_
  intro w0 ok0 pb po A cap ex
  refine zR (zY rfl (aa (zR (zJ (ag (.l1 rfl)) (zJ (ic (.b rfl) (.inr ⟨_, rfl⟩)) (zJ (aj fK (.b1 rfl) rfl rfl (Lens.id _)) (zA rfl ?_)))))))
  refine ls 0 3 rfl rfl rfl ?_
  refine zZ (zR (zM rfl (zM rfl (zJ (ci jp (.b rfl)) (zJ (da (.b rfl) (.b rfl) zw) (zJ (bu jp ty3 (.b rfl) (.b rfl) (show ((xs.length : Nat) : Int) - 1 = ((xs.length - 1 : Nat) : Int) from by omega) zh) ?_))))))
  refine bc _ rfl _ rfl rfl (aj ty3 (.b rfl) rfl zg (Lens.id _)) ?_
  refine zY rfl (aa (zR (zM rfl (zM rfl (zM rfl (zJ (ci jp (.b rfl)) (zJ (da (.b rfl) (.b rfl) zw) (zJ (gH jp ty3 (.b rfl) rfl ⟨_, _, (.b rfl), (show ((xs.length : Nat) : Int) - 1 = ((xs.length - 1 : Nat) : Int) from by omega)⟩ zo zo) (zJ (ic (.b rfl) (.inr ⟨_, rfl⟩)) ?_)))))))))
  refine ij 0 19 rfl rfl (fun A2 cap2 => ?_)
  refine zO (bK (d := (A2, xs.length - 1 - 0, cap2)) fK (.b1 rfl) rfl rfl (Lens.id _) (.raw (.b rfl) rfl)) ?_
  refine xf 101 (xs.length - 1) rfl ?_
  refine zZ (zR (zM rfl (zJ (ll uT3 (.b rfl)) (zY rfl (aa (am ?_))))))
  exact lr (s0 := 0) (sv := kO 100 101 1 pb po _ _ _) results312 (aw rfl) rfl (by simp only [Nat.zero_add]; rw [ny zo]) rfl jy rfl rfl (by simp) rfl
end Go.Proofs.YtehcaebnijlhgaaGreatDoor.C16
