import Derived.Test.YtcdkmhmlpjnfeaaP12i
import Derived.Test.YtcdkmhmlpjnfeaaP12r
namespace Go.Proofs.Ytcdkmhmlpjnfeaa
open Go.Eng
set_option maxRecDepth 100000
set_option maxHeartbeats 1000000
set_option linter.unusedVariables false
set_option linter.unusedSimpArgs false
/-! rows divided, a single rate: plain -/
theorem contr_t {len n : Int} : (contr len n).2.2 = true ↔ len.natAbs * n.natAbs / 1000000 ≤ 1000000000000000 := by
  unfold contr
  by_cases h : 1000000000000000 < len.natAbs * n.natAbs / 1000000
  · rw [if_pos h]; simp; omega
  · rw [if_neg h]
    split
    · simp; omega
    · simp; omega
theorem contr_v {len n : Int} (h : len.natAbs * n.natAbs / 1000000 ≤ 1000000000000000) (hl : 0 ≤ len) : (contr len n).1 * 1000000 + (contr len n).2.1 = len * n := by
  have e : ((len.natAbs * n.natAbs : Nat) : Int) = len * n.natAbs := by rw [Int.natCast_mul, Int.natAbs_of_nonneg hl]
  have d := Nat.div_add_mod' (len.natAbs * n.natAbs) 1000000
  unfold contr
  rw [if_neg (by omega)]
  by_cases hn : n < 0
  · rw [if_pos hn]
    have e2 : len * n = -((len.natAbs * n.natAbs : Nat) : Int) := by rw [e, show ((n.natAbs : Nat) : Int) = -n by omega, Int.mul_neg, Int.neg_neg]
    rw [e2]; simp only; omega
  · rw [if_neg hn]
    have e2 : len * n = ((len.natAbs * n.natAbs : Nat) : Int) := by rw [e, show ((n.natAbs : Nat) : Int) = n by omega]
    rw [e2]; simp only; omega
def skipR (date c : Int) (x : TRow) : Bool := !(contR x.1 date) || decide (loP x ≥ hiP x c)
theorem skipR_f {date c : Int} {x : TRow} : skipR date c x = false ↔ contR x.1 date = true ∧ loP x < hiP x c := by simp [skipR]
/-- the sum of the rows, exact -/
def exF (date c : Int) : List TRow → Option Int
  | [] => some 0
  | x :: l => if skipR date c x = true then exF date c l else if (contr (hiP x c - loP x) x.2.2.2).2.2 = false then none else (exF date c l).map (fun v => (hiP x c - loP x) * x.2.2.2 + v)
theorem brkF_ex {date c : Int} : ∀ (l : List TRow) (a b : Int), (brkF date c a b l).map (fun p => p.1 * 1000000 + p.2) = (exF date c l).map (fun v => a * 1000000 + b + v)
  | [], a, b => by simp [brkF, exF]
  | x :: l, a, b => by
    rw [brkF, exF]
    change (if skipR date c x = true then _ else _ : Option (Int × Int)).map _ = _
    by_cases h : skipR date c x = true
    · rw [if_pos h, if_pos h]; exact brkF_ex l a b
    · rw [if_neg h, if_neg h]
      have h' := skipR_f.1 (by simpa using h)
      by_cases h2 : (contr (hiP x c - loP x) x.2.2.2).2.2 = false
      · rw [if_pos h2, if_pos h2]; rfl
      · rw [if_neg h2, if_neg h2, brkF_ex l]
        have h3 := contr_t.1 (by simpa using h2)
        have h4 := contr_v h3 (by omega)
        rw [Option.map_map]
        congr 1
        funext v
        simp only [Function.comp]
        rw [← h4]; omega
theorem brack_ex {t : TTable} {date c mode : Int} : brackR t date c mode =
    if modeOk mode = false then (0, 1) else if (t.2.1 != (3, 0) || t.2.2.1 != (4, 0)) = true then (0, 8) else if byd c 1000000000000000 = true then (0, 3)
    else match exF date c t.2.2.2 with | none => (0, 3) | some v => rsR v mode := by
  have e := brkF_ex (date := date) (c := c) t.2.2.2 0 0
  unfold brackR
  cases h1 : brkF date c 0 0 t.2.2.2 with
  | none => cases h2 : exF date c t.2.2.2 with
    | none => rfl
    | some v => rw [h1, h2] at e; cases e
  | some p => cases h2 : exF date c t.2.2.2 with
    | none => rw [h1, h2] at e; cases e
    | some v =>
      rw [h1, h2] at e
      simp only [Option.map_some, Option.some.injEq] at e
      obtain rfl : p.1 * 1000000 + p.2 = v := by omega
      rfl
theorem mul_le_abs {a b n : Nat} (h : a ≤ b) (hb : b * n / 1000000 ≤ 1000000000000000) : a * n / 1000000 ≤ 1000000000000000 :=
  Nat.le_trans (Nat.div_le_div_right (Nat.mul_le_mul_right n h)) hb
theorem exF_two {date c at_ v w : Int} {x : TRow} {l : List TRow} (hx : x.2.1 < at_ ∧ at_ < x.2.2.1) (h : exF date c (x :: l) = some v) (hw : ∀ w, exF date c l = some w → exF date c (splitL at_ l) = some w) :
    exF date c ((x.1, x.2.1, at_, x.2.2.2) :: (x.1, at_, x.2.2.1, x.2.2.2) :: splitL at_ l) = some v := by
  obtain ⟨r, lo, hi, n⟩ := x
  simp only at hx ⊢
  rw [exF] at h ⊢
  have eA : loP (r, lo, at_, n) = if lo < 0 then 0 else lo := rfl
  have eB : hiP (r, lo, at_, n) c = if c < at_ then c else at_ := rfl
  have eC : loP (r, at_, hi, n) = if at_ < 0 then 0 else at_ := rfl
  have eD : hiP (r, at_, hi, n) c = if c < hi then c else hi := rfl
  have eE : loP (r, lo, hi, n) = if lo < 0 then 0 else lo := rfl
  have eF : hiP (r, lo, hi, n) c = if c < hi then c else hi := rfl
  by_cases h0 : skipR date c (r, lo, hi, n) = true
  · rw [if_pos h0] at h
    have s1 : skipR date c (r, lo, at_, n) = true := by
      rw [← Bool.not_eq_false, skipR_f]; rintro ⟨q1, q2⟩
      have : skipR date c (r, lo, hi, n) = false := skipR_f.2 ⟨q1, by omega⟩
      rw [h0] at this; cases this
    have s2 : skipR date c (r, at_, hi, n) = true := by
      rw [← Bool.not_eq_false, skipR_f]; rintro ⟨q1, q2⟩
      have : skipR date c (r, lo, hi, n) = false := skipR_f.2 ⟨q1, by omega⟩
      rw [h0] at this; cases this
    rw [if_pos s1, exF, if_pos s2, hw _ h]
  · rw [if_neg h0] at h
    obtain ⟨k1, k2⟩ := skipR_f.1 (by simpa using h0)
    by_cases h1 : (contr (hiP (r, lo, hi, n) c - loP (r, lo, hi, n)) n).2.2 = false
    · rw [if_pos h1] at h; cases h
    · rw [if_neg h1] at h
      have h1 := contr_t.1 (by simpa using h1)
      cases hl : exF date c l with
      | none => rw [hl] at h; cases h
      | some u =>
        rw [hl] at h
        simp only [Option.map_some, Option.some.injEq] at h
        have part : ∀ lo' hi' : Int, loP (r, lo', hi', n) ≥ loP (r, lo, hi, n) → hiP (r, lo', hi', n) c ≤ hiP (r, lo, hi, n) c → loP (r, lo', hi', n) < hiP (r, lo', hi', n) c → ∀ m u, exF date c m = some u → exF date c ((r, lo', hi', n) :: m) = some ((hiP (r, lo', hi', n) c - loP (r, lo', hi', n)) * n + u) := by
          intro lo' hi' q1 q2 q3 m u hm
          have sk : skipR date c (r, lo', hi', n) = false := skipR_f.2 ⟨k1, q3⟩
          rw [exF, if_neg (by rw [sk]; simp), if_neg, hm]
          · rfl
          · rw [contr_t.2 (mul_le_abs (b := (hiP (r, lo, hi, n) c - loP (r, lo, hi, n)).natAbs) (by omega) h1)]; simp
        have gone : ∀ lo' hi' : Int, hiP (r, lo', hi', n) c ≤ loP (r, lo', hi', n) → ∀ m, exF date c ((r, lo', hi', n) :: m) = exF date c m := by
          intro lo' hi' q m
          rw [exF, if_pos]
          rw [← Bool.not_eq_false, skipR_f]; omega
        rw [← exF]
        have hu := hw u hl
        by_cases a1 : loP (r, lo, at_, n) < hiP (r, lo, at_, n) c <;> by_cases a2 : loP (r, at_, hi, n) < hiP (r, at_, hi, n) c
        · rw [part lo at_ (by omega) (by omega) a1 _ _ (part at_ hi (by omega) (by omega) a2 _ _ hu), ← h, ← Int.add_assoc, ← Int.add_mul]
          congr 3; omega
        · rw [part lo at_ (by omega) (by omega) a1 _ _ ((gone at_ hi (by omega) _).trans hu), ← h]
          congr 3; omega
        · rw [gone lo at_ (by omega), part at_ hi (by omega) (by omega) a2 _ _ hu, ← h]
          congr 3; omega
        · omega
theorem exF_split {date c at_ : Int} : ∀ (l : List TRow) (v : Int), exF date c l = some v → exF date c (splitL at_ l) = some v
  | [], v, h => h
  | x :: l, v, h => by
    have ih := exF_split (date := date) (c := c) (at_ := at_) l
    have e : splitL at_ (x :: l) = dvR at_ x ++ splitL at_ l := rfl
    rw [e]
    unfold dvR
    by_cases hx : x.2.1 < at_ ∧ at_ < x.2.2.1
    · rw [if_pos hx]
      exact exF_two (w := 0) hx h ih
    · rw [if_neg hx]
      change exF date c (x :: splitL at_ l) = _
      rw [exF] at h ⊢
      split
      · rename_i q; rw [if_pos q] at h; exact ih _ h
      · rename_i q
        rw [if_neg q] at h
        split
        · rename_i q2; rw [if_pos q2] at h; cases h
        · rename_i q2
          rw [if_neg q2] at h
          cases hl : exF date c l with
          | none => rw [hl] at h; cases h
          | some u => rw [hl] at h; rw [ih _ hl]; exact h
theorem brack_split {t : TTable} {date c at_ mode : Int} (h : (brackR t date c mode).2 = 0) : brackR (t.1, t.2.1, t.2.2.1, splitL at_ t.2.2.2) date c mode = brackR t date c mode := by
  rw [brack_ex] at h ⊢
  rw [brack_ex]
  simp only
  by_cases h1 : modeOk mode = false
  · rw [if_pos h1] at h; cases h
  · rw [if_neg h1] at h ⊢
    rw [if_neg h1]
    by_cases h2 : (t.2.1 != (3, 0) || t.2.2.1 != (4, 0)) = true
    · rw [if_pos h2] at h; cases h
    · rw [if_neg h2] at h ⊢
      rw [if_neg h2]
      by_cases h3 : byd c 1000000000000000 = true
      · rw [if_pos h3] at h; cases h
      · rw [if_neg h3] at h ⊢
        rw [if_neg h3]
        cases hv : exF date c t.2.2.2 with
        | none => rw [hv] at h; cases h
        | some v => rw [exF_split _ _ hv]
/-- a single rate -/
theorem brack_flat {c rate mode : Int} (hc : 0 ≤ c) (hr : -1000000000 ≤ rate ∧ rate ≤ 1000000000) : brackR ([], (3, 0), (4, 0), [((0, 109573), 0, 1000000000000001, rate)]) 45000 c mode = mdR c rate 1000000 mode := by
  rw [brack_ex]
  unfold mdR
  simp only
  by_cases h1 : modeOk mode = false
  · rw [if_pos h1, if_pos h1]
  · rw [if_neg h1, if_neg h1, if_neg (show ¬ (((3, 0) : Int × Int) != (3, 0) || ((4, 0) : Int × Int) != (4, 0)) = true by decide), if_neg (show ¬ (1000000 : Int) = 0 by decide)]
    have b1 : byd rate 1000000000 = false := by simp [byd]; omega
    have b2 : byd 1000000 1000000000 = false := by decide
    rw [b1, b2, Bool.or_false, Bool.or_false]
    by_cases h3 : byd c 1000000000000000 = true
    · rw [if_pos h3, if_pos h3]
    · rw [if_neg h3, if_neg h3]
      have k3 := byd_f (by simpa using h3)
      have eL : loP ((0, 109573), 0, 1000000000000001, rate) = 0 := rfl
      have eH : hiP ((0, 109573), 0, 1000000000000001, rate) c = c := by show (if c < 1000000000000001 then c else 1000000000000001) = c; omega
      have en : ngv3 c rate 1000000 = decide (rate < 0) := by
        unfold ngv3
        rw [decide_eq_false (show ¬ c < 0 by omega), decide_eq_false (show ¬ (1000000 : Int) < 0 by decide)]
        simp
      rw [exF, exF, eL, eH, Int.sub_zero]
      by_cases h4 : c = 0
      · subst h4
        rw [if_pos (by rw [← Bool.not_eq_false, skipR_f, eL, eH]; omega)]
        have e0 : mdV 0 rate 1000000 mode = 0 := by unfold mdV; simp [rndM, upM]
        rw [e0]
        show rsR 0 mode = _
        have t0 : tvR 0 mode = 0 := by unfold tvR sgn rndM upM; simp
        unfold rsR; rw [t0]; unfold sgn; simp
      · rw [if_neg (by rw [skipR_f.2 ⟨rfl, by rw [eL, eH]; omega⟩]; simp)]
        have eq1 : mdV c rate 1000000 mode = rndM (c.natAbs * rate.natAbs / 1000000) (c.natAbs * rate.natAbs % 1000000) 1000000 (decide (rate < 0)) mode := by unfold mdV; rw [en]; rfl
        by_cases h5 : c.natAbs * rate.natAbs / 1000000 ≤ 1000000000000000
        · rw [if_neg (by rw [contr_t.2 h5]; simp)]
          show rsR (c * rate + 0) mode = _
          have et : tvR (c * rate + 0) mode = sgn (mdV c rate 1000000 mode) (decide (rate < 0)) := by
            unfold tvR
            rw [eq1, Int.add_zero, Int.natAbs_mul]
            have : decide (c * rate < 0) = decide (rate < 0) := by
              rw [Bool.eq_iff_iff]; simp only [decide_eq_true_eq]
              constructor
              · intro q
                rcases Int.lt_or_le rate 0 with p | p
                · exact p
                · have := Int.mul_nonneg hc p; omega
              · intro q; exact Int.mul_neg_of_pos_of_neg (by omega) q
            rw [this]
          unfold rsR
          rw [et, sgn_abs, en]
        · rw [if_pos (by rw [← Bool.not_eq_true, contr_t]; exact h5)]
          have := (rndM_le (c.natAbs * rate.natAbs / 1000000) (c.natAbs * rate.natAbs % 1000000) 1000000 (decide (rate < 0)) mode).2
          rw [if_pos (by rw [eq1]; omega)]
end Go.Proofs.Ytcdkmhmlpjnfeaa
