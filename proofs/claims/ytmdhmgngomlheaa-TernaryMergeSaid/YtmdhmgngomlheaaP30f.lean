import Derived.Test.YtmdhmgngomlheaaP30e
namespace Go.Proofs.Ytmdhmgngomlheaa
open Go.Eng
set_option maxRecDepth 100000
set_option linter.unusedVariables false
set_option linter.unusedSimpArgs false
/-! chapter 30, plain: implicants, level by level -/
abbrev NP := Nat × Nat
def pc (q : NP) : TPattern := ((q.1 : Int), (q.2 : Int))
def pn (p : TPattern) : NP := (p.1.toNat, p.2.toNat)
theorem pn_pc (q : NP) : pn (pc q) = q := by simp [pn, pc]
theorem pc_inj {q r : NP} (h : pc q = pc r) : q = r := by rw [← pn_pc q, h, pn_pc]
theorem an_bit (m i j : Nat) : (anN m (2 ^ i)).testBit j = (m.testBit j && !decide (i = j)) := by rw [anN_bit, Nat.testBit_two_pow]
theorem mod2 (m : Nat) : m % 2 = if m.testBit 0 then 1 else 0 := by rw [Nat.testBit_zero]; split <;> simp_all
theorem an_half (m i : Nat) : anN m (2 ^ (i + 1)) / 2 = anN (m / 2) (2 ^ i) := by
  apply Nat.eq_of_testBit_eq; intro j
  rw [an_bit, ← Nat.testBit_succ, ← Nat.testBit_succ, an_bit]; simp
theorem an_half0 (m : Nat) : anN m (2 ^ 0) / 2 = m / 2 := by
  apply Nat.eq_of_testBit_eq; intro j
  rw [← Nat.testBit_succ, ← Nat.testBit_succ, an_bit]; simp
theorem popN_clear : ∀ k m i, i < k → m.testBit i = true → popN k (anN m (2 ^ i)) + 1 = popN k m
  | k + 1, m, 0, _, h => by
    simp only [popN]
    rw [an_half0, mod2, mod2 m, an_bit, h]; simp; omega
  | k + 1, m, i + 1, hi, h => by
    simp only [popN]
    rw [Nat.testBit_succ] at h
    have := popN_clear k (m / 2) i (by omega) h
    rw [an_half, mod2, mod2 m, an_bit]
    have e : decide (i + 1 = 0) = false := by simp
    rw [e]; simp only [Bool.not_false, Bool.and_true]; omega
theorem popN_le : ∀ k m, popN k m ≤ k
  | 0, _ => Nat.le_refl _
  | k + 1, m => by have := popN_le k (m / 2); simp only [popN]; omega
theorem popN_less : ∀ k m, popN k m < k → ∃ i, i < k ∧ m.testBit i = false
  | 0, m, h => by omega
  | k + 1, m, h => by
    simp only [popN] at h
    by_cases h0 : m.testBit 0 = true
    · rw [mod2, h0] at h
      obtain ⟨i, h1, h2⟩ := popN_less k (m / 2) (by simp at h; omega)
      exact ⟨i + 1, by omega, by rw [Nat.testBit_succ]; exact h2⟩
    · exact ⟨0, by omega, by simpa using h0⟩
theorem popN_full : ∀ k m, popN k m = k → ∀ i, i < k → m.testBit i = true
  | 0, m, h, i, hi => by omega
  | k + 1, m, h, i, hi => by
    simp only [popN] at h
    have h1 := popN_le k (m / 2)
    cases i with
    | zero =>
      by_cases h0 : m.testBit 0 = true
      · exact h0
      · rw [mod2, if_neg h0] at h; omega
    | succ i => rw [Nat.testBit_succ]; exact popN_full k (m / 2) (by omega) i (by omega)
theorem popN_more : ∀ n j m, m < 2 ^ n → popN (n + j) m = popN n m
  | 0, j, m, h => by have : m = 0 := by simpa using h
                     subst this; rw [popN_zero, popN_zero]
  | n + 1, j, m, h => by
    rw [show n + 1 + j = (n + j) + 1 by omega]
    simp only [popN]
    rw [popN_more n j (m / 2) (by rw [Nat.pow_succ] at h; omega)]
theorem pop8 {n m : Nat} (hn : n ≤ 8) (h : m < 2 ^ n) : popN 8 m = popN n m := by
  have := popN_more n (8 - n) m h
  rwa [show n + (8 - n) = 8 by omega] at this
theorem popN_max : ∀ n, popN n (2 ^ n - 1) = n
  | 0 => rfl
  | n + 1 => by
    have h := Nat.two_pow_pos n
    simp only [popN]
    rw [Nat.pow_succ, show (2 ^ n * 2 - 1) / 2 = 2 ^ n - 1 by omega, popN_max n]; omega
/-- valid, and all that it matches is in S -/
def mt (q : NP) (x : Nat) : Bool := x &&& q.1 == q.2
def vld (n : Nat) (q : NP) : Bool := decide (q.1 < 2 ^ n) && (q.2 &&& q.1 == q.2)
def imp (n : Nat) (S : Nat → Bool) (q : NP) : Bool := vld n q && (List.range (2 ^ n)).all fun x => !mt q x || S x
def lvl (n : Nat) (S : Nat → Bool) (k : Nat) (q : NP) : Bool := imp n S q && decide (popN 8 q.1 + k = n)
def upTo (n : Nat) (S : Nat → Bool) (k : Nat) (q : NP) : Bool := imp n S q && decide (n ≤ popN 8 q.1 + k)
def fS (A : NP → Bool) : TPattern → Option Bool := fun p => if (decide (0 ≤ p.1) && decide (0 ≤ p.2) && A (pn p)) = true then some true else none
theorem fS_pc (A : NP → Bool) (q : NP) : fS A (pc q) = if A q then some true else none := by
  unfold fS; rw [pn_pc]; simp [pc]
theorem fS_some {A : NP → Bool} {p : TPattern} {v : Bool} (h : fS A p = some v) : v = true ∧ p = pc (pn p) ∧ A (pn p) = true := by
  unfold fS at h
  split at h
  · rename_i h1
    simp only [Bool.and_eq_true, decide_eq_true_eq] at h1
    injection h with h
    refine ⟨h.symm, ?_, h1.2⟩
    exact Prod.ext (by simp [pc, pn]; omega) (by simp [pc, pn]; omega)
  · cases h
theorem fS_isSome (A : NP → Bool) (q : NP) : (fS A (pc q)).isSome = A q := by rw [fS_pc]; cases A q <;> rfl
theorem fS_get (A : NP → Bool) (q : NP) : (fS A (pc q)).getD false = A q := by rw [fS_pc]; cases A q <;> rfl
theorem fS_upd (A : NP → Bool) (q : NP) : updK (fS A) (pc q) true = fS fun r => A r || decide (r = q) := by
  funext p
  unfold updK
  by_cases h : p = pc q
  · subst h; rw [if_pos rfl, fS_pc]; simp
  · rw [if_neg h]
    unfold fS
    by_cases h0 : 0 ≤ p.1 ∧ 0 ≤ p.2
    · have hne : pn p ≠ q := fun e => h (by subst e; exact Prod.ext (by simp [pc, pn]; omega) (by simp [pc, pn]; omega))
      simp [h0.1, h0.2, hne]
    · have e : (decide (0 ≤ p.1) && decide (0 ≤ p.2)) = false := by simp; omega
      simp only [e, Bool.false_and]
theorem fS_congr {A B : NP → Bool} (h : ∀ q, A q = B q) : fS A = fS B := by rw [funext h]
theorem vld_iff {n : Nat} {q : NP} : vld n q = true ↔ q.1 < 2 ^ n ∧ ∀ i, q.2.testBit i = true → q.1.testBit i = true := by
  unfold vld
  rw [Bool.and_eq_true, decide_eq_true_eq, beq_iff_eq]
  refine and_congr_right fun _ => ⟨fun h i hi => ?_, fun h => Nat.eq_of_testBit_eq fun i => ?_⟩
  · have := Nat.testBit_and q.2 q.1 i
    rw [h, hi] at this; simpa using this.symm
  · rw [Nat.testBit_and]
    cases hb : q.2.testBit i with
    | false => rfl
    | true => rw [h i hb]; rfl
theorem vld_lt {n : Nat} {q : NP} (h : vld n q = true) : q.2 < 2 ^ n := by
  unfold vld at h
  rw [Bool.and_eq_true, decide_eq_true_eq, beq_iff_eq] at h
  rw [← h.2]; exact Nat.lt_of_le_of_lt Nat.and_le_right h.1
theorem mt_iff {q : NP} {x : Nat} : mt q x = true ↔ ∀ i, (x.testBit i && q.1.testBit i) = q.2.testBit i := by
  unfold mt
  rw [beq_iff_eq]
  constructor
  · intro h i; rw [← h, Nat.testBit_and]
  · intro h; exact Nat.eq_of_testBit_eq fun i => by rw [Nat.testBit_and]; exact h i
theorem imp_iff {n : Nat} {S : Nat → Bool} {q : NP} : imp n S q = true ↔ vld n q = true ∧ ∀ x, x < 2 ^ n → mt q x = true → S x = true := by
  unfold imp
  rw [Bool.and_eq_true, List.all_eq_true]
  refine and_congr_right fun _ => ⟨fun h x hx hm => ?_, fun h x hx => ?_⟩
  · have := h x (List.mem_range.2 hx); rw [hm] at this; simpa using this
  · cases hm : mt q x with
    | false => rfl
    | true => rw [h x (List.mem_range.1 hx) hm]; rfl
/-- the neighbour in bit i; both together -/
def prt (q : NP) (i : Nat) : NP := (q.1, q.2 ^^^ 2 ^ i)
def mrg (q : NP) (i : Nat) : NP := (anN q.1 (2 ^ i), anN q.2 (2 ^ i))
theorem prt_bit (q : NP) (i j : Nat) : (prt q i).2.testBit j = (q.2.testBit j ^^ decide (i = j)) := by
  unfold prt; rw [Nat.testBit_xor, Nat.testBit_two_pow]
theorem prt_in {n : Nat} {q : NP} {i : Nat} (h : vld n q = true) (hp : vld n (prt q i) = true) : q.1.testBit i = true := by
  rw [vld_iff] at h hp
  by_cases hb : q.2.testBit i = true
  · exact h.2 i hb
  · have h1 := hp.2 i (by rw [prt_bit]; simp [hb])
    exact h1
theorem mrg_imp {n : Nat} {S : Nat → Bool} {q : NP} {i : Nat} (h : imp n S q = true) (hp : imp n S (prt q i) = true) : imp n S (mrg q i) = true ∧ q.1.testBit i = true := by
  have hb := prt_in (imp_iff.1 h).1 (imp_iff.1 hp).1
  refine ⟨?_, hb⟩
  rw [imp_iff] at h hp ⊢
  rw [vld_iff] at *
  refine ⟨⟨Nat.lt_of_le_of_lt (anN_le _ _) h.1.1, fun j hj => ?_⟩, fun x hx hm => ?_⟩
  · simp only [mrg] at hj ⊢
    rw [an_bit] at hj ⊢
    simp only [Bool.and_eq_true] at hj ⊢
    exact ⟨h.1.2 j hj.1, hj.2⟩
  · rw [mt_iff] at hm
    simp only [mrg] at hm
    by_cases hxi : x.testBit i = q.2.testBit i
    · refine h.2 x hx (mt_iff.2 fun j => ?_)
      by_cases hj : i = j
      · subst hj; rw [hxi, hb]; simp
      · have := hm j; rw [an_bit, an_bit] at this; simpa [hj] using this
    · refine hp.2 x hx (mt_iff.2 fun j => ?_)
      by_cases hj : i = j
      · subst hj
        rw [prt_bit, show (prt q i).1 = q.1 from rfl, hb]
        cases h1 : x.testBit i <;> cases h2 : q.2.testBit i <;> simp_all
      · have := hm j; rw [an_bit, an_bit] at this
        rw [prt_bit, show (prt q i).1 = q.1 from rfl]
        simpa [hj] using this
/-- a free bit fixed -/
theorem lvl_down {n : Nat} {S : Nat → Bool} {k : Nat} {q : NP} (hn : n ≤ 8) (h : lvl n S (k + 1) q = true) : ∃ a i, i < n ∧ lvl n S k a = true ∧ imp n S (prt a i) = true ∧ mrg a i = q := by
  unfold lvl at h
  rw [Bool.and_eq_true, decide_eq_true_eq] at h
  obtain ⟨h1, h2⟩ := h
  have h3 := imp_iff.1 h1
  have h4 := vld_iff.1 h3.1
  obtain ⟨i, hi, hb⟩ := popN_less n q.1 (by have := pop8 hn h4.1; omega)
  have hq2 : q.2.testBit i = false := by cases hc : q.2.testBit i with | false => rfl | true => rw [h4.2 i hc] at hb; cases hb
  have hm : ∀ j, (q.1 ||| 2 ^ i).testBit j = (q.1.testBit j || decide (i = j)) := fun j => by rw [Nat.testBit_or, Nat.testBit_two_pow]
  have hlt : q.1 ||| 2 ^ i < 2 ^ n := Nat.or_lt_two_pow h4.1 (Nat.pow_lt_pow_right (by omega) hi)
  have hmrg : anN (q.1 ||| 2 ^ i) (2 ^ i) = q.1 := Nat.eq_of_testBit_eq fun j => by
    rw [an_bit, hm]
    by_cases e : i = j
    · subst e; simp [hb]
    · simp [e]
  have hmrg2 : anN q.2 (2 ^ i) = q.2 := Nat.eq_of_testBit_eq fun j => by
    rw [an_bit]
    by_cases e : i = j
    · subst e; simp [hq2]
    · simp [e]
  have hx : ∀ (b : Nat) (x : Nat), (∀ j, i ≠ j → b.testBit j = q.2.testBit j) → mt (q.1 ||| 2 ^ i, b) x = true → mt q x = true := fun b x hbb hmx => by
    rw [mt_iff] at hmx ⊢
    intro j
    by_cases e : i = j
    · subst e; rw [hb, hq2]; simp
    · have := hmx j; simp only [hm] at this; rw [hbb j e] at this; simpa [e] using this
  refine ⟨(q.1 ||| 2 ^ i, q.2), i, hi, ?_, ?_, ?_⟩
  · unfold lvl
    rw [Bool.and_eq_true, decide_eq_true_eq]
    refine ⟨imp_iff.2 ⟨vld_iff.2 ⟨hlt, fun j hj => ?_⟩, fun x hxl hmx => h3.2 x hxl (hx _ x (fun _ _ => rfl) hmx)⟩, ?_⟩
    · show (q.1 ||| 2 ^ i).testBit j = true
      rw [hm, h4.2 j hj]; rfl
    · have := popN_clear 8 (q.1 ||| 2 ^ i) i (by omega) (by rw [hm]; simp)
      rw [hmrg] at this; simp only; omega
  · refine imp_iff.2 ⟨vld_iff.2 ⟨hlt, fun j hj => ?_⟩, fun x hxl hmx => h3.2 x hxl (hx (q.2 ^^^ 2 ^ i) x (fun j e => ?_) hmx)⟩
    · rw [prt_bit] at hj
      show (q.1 ||| 2 ^ i).testBit j = true
      rw [hm]
      by_cases e : i = j
      · simp [e]
      · simp [e] at hj; rw [h4.2 j hj]; rfl
    · rw [Nat.testBit_xor, Nat.testBit_two_pow]; simp [e]
  · unfold mrg
    exact Prod.ext hmrg hmrg2
theorem mrg_lvl {n : Nat} {S : Nat → Bool} {k : Nat} {q : NP} {i : Nat} (hi : i < n) (hn : n ≤ 8) (h : lvl n S k q = true) (hp : imp n S (prt q i) = true) : lvl n S (k + 1) (mrg q i) = true := by
  unfold lvl at h ⊢
  rw [Bool.and_eq_true, decide_eq_true_eq] at h ⊢
  obtain ⟨h1, h2⟩ := mrg_imp h.1 hp
  have := popN_clear 8 q.1 i (by omega) h2
  exact ⟨h1, by simp only [mrg]; omega⟩
theorem upTo_succ (n : Nat) (S : Nat → Bool) (k : Nat) (q : NP) : upTo n S (k + 1) q = (upTo n S k q || lvl n S (k + 1) q) := by
  unfold upTo lvl
  cases imp n S q with
  | false => rfl
  | true =>
    simp only [Bool.true_and]
    by_cases h : n ≤ popN 8 q.1 + k
    · simp [h]; omega
    · simp [h]; omega
theorem none_up {n : Nat} {S : Nat → Bool} {k : Nat} (hn : n ≤ 8) (h : ∀ q, lvl n S k q = false) : ∀ j q, lvl n S (k + j) q = false
  | 0, q => h q
  | j + 1, q => by
    cases hq : lvl n S (k + (j + 1)) q with
    | false => rfl
    | true =>
      obtain ⟨a, _, _, h1, _⟩ := lvl_down (k := k + j) hn hq
      rw [none_up hn h j a] at h1; cases h1
theorem upTo_all {n : Nat} {S : Nat → Bool} {k : Nat} (hn : n ≤ 8) (h : ∀ q, lvl n S k q = false) (q : NP) : upTo n S k q = imp n S q := by
  unfold upTo
  cases hi : imp n S q with
  | false => rfl
  | true =>
    simp only [Bool.true_and, decide_eq_true_eq]
    rcases Nat.lt_or_ge (popN 8 q.1 + k) n with h1 | h1
    · exfalso
      have h2 := none_up hn h (n - popN 8 q.1 - k) q
      unfold lvl at h2
      rw [hi] at h2
      simp only [Bool.true_and, decide_eq_false_iff_not] at h2
      omega
    · exact h1
/-- what is there at the start -/
def start (n : Nat) (S : Nat → Bool) (q : NP) : Bool := decide (q.1 = 2 ^ n - 1) && decide (q.2 < 2 ^ n) && S q.2
theorem full_bit (n i : Nat) : (2 ^ n - 1).testBit i = decide (i < n) := Nat.testBit_two_pow_sub_one n i
theorem start_eq {n : Nat} {S : Nat → Bool} (hn : n ≤ 8) (q : NP) : start n S q = upTo n S 0 q := by
  rw [Bool.eq_iff_iff]
  unfold start upTo
  simp only [Bool.and_eq_true, decide_eq_true_eq]
  have hp := Nat.two_pow_pos n
  constructor
  · rintro ⟨⟨h1, h2⟩, h3⟩
    have hlt : q.1 < 2 ^ n := by omega
    refine ⟨imp_iff.2 ⟨vld_iff.2 ⟨hlt, fun i hi => ?_⟩, fun x hx hm => ?_⟩, ?_⟩
    · rw [h1, full_bit, decide_eq_true_eq]
      rcases Nat.lt_or_ge i n with g | g
      · exact g
      · rw [Nat.testBit_lt_two_pow (Nat.lt_of_lt_of_le h2 (Nat.pow_le_pow_right (by omega) g))] at hi; cases hi
    · unfold mt at hm
      rw [h1, Nat.and_two_pow_sub_one_eq_mod, Nat.mod_eq_of_lt hx, beq_iff_eq] at hm
      rw [hm]; exact h3
    · rw [pop8 hn hlt, h1, popN_max]; omega
  · rintro ⟨h1, h2⟩
    have h3 := imp_iff.1 h1
    have h4 := vld_iff.1 h3.1
    have hb : ∀ i, i < n → q.1.testBit i = true := popN_full n q.1 (by have := pop8 hn h4.1; have := popN_le n q.1; omega)
    have hf : q.1 = 2 ^ n - 1 := Nat.eq_of_testBit_eq fun i => by
      rw [full_bit]
      rcases Nat.lt_or_ge i n with g | g
      · rw [hb i g]; simp [g]
      · rw [Nat.testBit_lt_two_pow (Nat.lt_of_lt_of_le h4.1 (Nat.pow_le_pow_right (by omega) g))]; simp; omega
    have hl := vld_lt h3.1
    refine ⟨⟨hf, hl⟩, h3.2 q.2 hl ?_⟩
    unfold mt
    rw [hf, Nat.and_two_pow_sub_one_eq_mod, Nat.mod_eq_of_lt hl]; simp
/-- the machine's Merge -/
theorem merge_nat {n : Nat} {q : NP} {i : Nat} (hn : n ≤ 8) (hi : i < n) (h : vld n q = true) (hb : q.1.testBit i = true) : mergeF (pc q) (pc (prt q i)) = (pc (mrg q i), true) := by
  have h8 : 2 ^ n ≤ 2 ^ 8 := Nat.pow_le_pow_right (by omega) hn
  rw [show (2 : Nat) ^ 8 = 256 from rfl] at h8
  have h2i : 2 ^ i < 2 ^ n := Nat.pow_lt_pow_right (by omega) hi
  have hl1 := (vld_iff.1 h).1
  have hl2 := vld_lt h
  have hx : q.2 ^^^ 2 ^ i < 2 ^ n := Nat.xor_lt_two_pow hl2 h2i
  have e1 : xorI (pc q).2 (pc (prt q i)).2 = ((2 ^ i : Nat) : Int) := by
    rw [show (pc q).2 = (q.2 : Int) from rfl, show (pc (prt q i)).2 = ((q.2 ^^^ 2 ^ i : Nat) : Int) from rfl, xorI_nat (by omega) (by omega)]
    rw [← Nat.xor_assoc, Nat.xor_self, Nat.zero_xor]
  unfold mergeF
  rw [e1, if_neg]
  · rw [show (pc q).1 = (q.1 : Int) from rfl, show (pc q).2 = (q.2 : Int) from rfl, anI_nat (by omega) (by omega), anI_nat (by omega) (by omega)]
    rfl
  · rintro (g | g | g)
    · exact g rfl
    · apply g
      unfold cntI
      rw [bv_nat (by omega)]
      exact (popN_one 64 _ (by omega)).2 ⟨i, by omega, rfl⟩
    · rw [show (pc q).1 = (q.1 : Int) from rfl, andI_nat (by omega) (by omega)] at g
      have h0 : 2 ^ i &&& q.1 = 0 := by omega
      have := Nat.testBit_and (2 ^ i) q.1 i
      rw [h0, hb, Nat.testBit_two_pow] at this
      simp at this
end Go.Proofs.Ytmdhmgngomlheaa
