import Derived.Test.YtmdhmgngomlheaaEng19
namespace Go.Proofs.Ytmdhmgngomlheaa
open Go.Eng
set_option maxRecDepth 100000
set_option linter.unusedVariables false
set_option linter.unusedSimpArgs false
/-! chapter 30, plain: bits that are set are counted -/
/-- how many bits of x are set -/
def popN : Nat → Nat → Nat
  | 0, _ => 0
  | n + 1, x => x % 2 + popN n (x / 2)
theorem popN_zero : ∀ n, popN n 0 = 0
  | 0 => rfl
  | n + 1 => by simp [popN, popN_zero n]
theorem popN_eq_zero : ∀ n x, x < 2 ^ n → popN n x = 0 → x = 0
  | 0, x, h, _ => by simpa using h
  | n + 1, x, h, h0 => by
    simp only [popN] at h0
    have := popN_eq_zero n (x / 2) (by rw [Nat.pow_succ] at h; omega) (by omega)
    omega
theorem popN_one : ∀ n x, x < 2 ^ n → (popN n x = 1 ↔ ∃ i, i < n ∧ x = 2 ^ i)
  | 0, x, h => by simp [popN]
  | n + 1, x, h => by
    simp only [popN]
    have hx2 : x / 2 < 2 ^ n := by rw [Nat.pow_succ] at h; omega
    have ih := popN_one n (x / 2) hx2
    constructor
    · intro h1
      by_cases hm : x % 2 = 1
      · have := popN_eq_zero n (x / 2) hx2 (by omega)
        exact ⟨0, by omega, by simp; omega⟩
      · obtain ⟨i, hi, hx⟩ := ih.1 (by omega)
        exact ⟨i + 1, by omega, by rw [Nat.pow_succ]; omega⟩
    · rintro ⟨i, hi, rfl⟩
      cases i with
      | zero => simp [popN_zero]
      | succ i =>
        have e : 2 ^ (i + 1) / 2 = 2 ^ i := by rw [Nat.pow_succ]; omega
        have := ih.2 ⟨i, by omega, e⟩
        rw [this, Nat.pow_succ]; omega
theorem popN_split : ∀ k n b y, b < 2 ^ k → popN (k + n) (b + 2 ^ k * y) = popN k b + popN n y
  | 0, n, b, y, h => by have : b = 0 := by simpa using h
                        subst this; simp [popN]
  | k + 1, n, b, y, h => by
    have e : k + 1 + n = (k + n) + 1 := by omega
    rw [e]
    simp only [popN]
    have e1 : (b + 2 ^ (k + 1) * y) % 2 = b % 2 := by rw [Nat.pow_succ, Nat.mul_assoc, Nat.mul_left_comm]; omega
    have e2 : (b + 2 ^ (k + 1) * y) / 2 = b / 2 + 2 ^ k * y := by rw [Nat.pow_succ, Nat.mul_assoc, Nat.mul_left_comm]; omega
    rw [e1, e2, popN_split k n (b / 2) y (by rw [Nat.pow_succ] at h; omega)]
    omega
/-- a word, byte by byte -/
def valB : List Nat → Nat
  | [] => 0
  | b :: r => b + 256 * valB r
theorem and_split {b c y z : Nat} (hb : b < 256) (hc : c < 256) : (b + 256 * y) &&& (c + 256 * z) = (b &&& c) + 256 * (y &&& z) := by
  have e : ∀ b y : Nat, b + 256 * y = 2 ^ 8 * y + b := fun b y => by omega
  have hbc : b &&& c < 2 ^ 8 := Nat.and_lt_two_pow _ (by omega)
  rw [e, e, e]
  apply Nat.eq_of_testBit_eq
  intro i
  rw [Nat.testBit_and, Nat.testBit_two_pow_mul_add _ (by omega), Nat.testBit_two_pow_mul_add _ (by omega), Nat.testBit_two_pow_mul_add _ hbc]
  split <;> simp [Nat.testBit_and]
theorem shand_split {b c y z : Nat} (k : Nat) (hb : b < 256) (hc : c < 2 ^ (8 - k)) (hk : k ≤ 8) : ((b + 256 * y) / 2 ^ k) &&& (c + 256 * z) = ((b / 2 ^ k) &&& c) + 256 * ((y / 2 ^ k) &&& z) := by
  have e : ∀ b y : Nat, b + 256 * y = 2 ^ 8 * y + b := fun b y => by omega
  have hc8 : c < 2 ^ 8 := Nat.lt_of_lt_of_le hc (Nat.pow_le_pow_right (by omega) (by omega))
  have hbc : (b / 2 ^ k) &&& c < 2 ^ 8 := Nat.and_lt_two_pow _ hc8
  rw [e, e, e]
  apply Nat.eq_of_testBit_eq
  intro i
  rw [Nat.testBit_and, Nat.testBit_div_two_pow, Nat.testBit_two_pow_mul_add _ (show b < 2 ^ 8 by omega), Nat.testBit_two_pow_mul_add _ hc8, Nat.testBit_two_pow_mul_add _ hbc]
  by_cases hi : i < 8
  · rw [if_pos hi, if_pos hi, Nat.testBit_and, Nat.testBit_div_two_pow]
    by_cases hik : i + k < 8
    · rw [if_pos hik]
    · rw [if_neg hik]
      have : c.testBit i = false := Nat.testBit_lt_two_pow (Nat.lt_of_lt_of_le hc (Nat.pow_le_pow_right (by omega) (by omega)))
      simp [this]
  · rw [if_neg hi, if_neg (by omega), if_neg hi, Nat.testBit_and, Nat.testBit_div_two_pow]
    congr 2; omega
theorem valB_lt : ∀ l : List Nat, (∀ b ∈ l, b < 256) → valB l < 256 ^ l.length
  | [], _ => by simp [valB]
  | b :: r, h => by
    have h1 := valB_lt r (fun x hx => h x (by simp [hx]))
    have h2 := h b (by simp)
    simp only [valB, List.length_cons, Nat.pow_succ]
    omega
def f1 (b : Nat) : Nat := (b / 2 &&& 85) + (b &&& 85)
def f2 (b : Nat) : Nat := (b / 4 &&& 51) + (b &&& 51)
def f3 (b : Nat) : Nat := (b / 16 + b) % 16
theorem step_and (k c : Nat) (hc : c < 2 ^ (8 - k)) (hk : k ≤ 8) : ∀ l : List Nat, (∀ b ∈ l, b < 256) → (valB l / 2 ^ k &&& valB (List.replicate l.length c)) + (valB l &&& valB (List.replicate l.length c)) = valB (l.map fun b => (b / 2 ^ k &&& c) + (b &&& c))
  | [], _ => by simp [valB]
  | b :: r, h => by
    have ih := step_and k c hc hk r (fun x hx => h x (by simp [hx]))
    have hb := h b (by simp)
    have hc8 : c < 256 := Nat.lt_of_lt_of_le hc (Nat.pow_le_pow_right (n := 2) (by omega) (show 8 - k ≤ 8 by omega))
    simp only [List.length_cons, List.replicate_succ, valB, List.map_cons]
    rw [shand_split k hb hc hk, and_split hb hc8, ← ih]
    omega
theorem nib_lt (b : Fin 256) : f1 b.val < 256 ∧ f2 (f1 b.val) ≤ 68 ∧ f2 (f1 b.val) % 16 ≤ 4 ∧ f3 (f2 (f1 b.val)) = popN 8 b.val ∧ popN 8 b.val ≤ 8 := by
  revert b; decide +kernel
theorem step_nib : ∀ l : List Nat, (∀ b ∈ l, b ≤ 68 ∧ b % 16 ≤ 4) → (valB l / 16 + valB l) &&& valB (List.replicate l.length 15) = valB (l.map f3)
  | [], _ => by simp [valB]
  | b :: r, h => by
    have ih := step_nib r (fun x hx => h x (by simp [hx]))
    have hb := h b (by simp)
    have hr : valB r % 16 ≤ 4 := by
      cases r with
      | nil => simp [valB]
      | cons c s => have := (h c (by simp)).2; simp only [valB]; omega
    simp only [List.length_cons, List.replicate_succ, valB, List.map_cons]
    have e : (b + 256 * valB r) / 16 + (b + 256 * valB r) = (b / 16 + b + 16 * (valB r % 16)) + 256 * (valB r / 16 + valB r) := by omega
    rw [e, and_split (by omega) (by omega), ih]
    have : (b / 16 + b + 16 * (valB r % 16)) &&& 15 = f3 b := by
      rw [show (15 : Nat) = 2 ^ 4 - 1 from rfl, Nat.and_two_pow_sub_one_eq_mod]
      unfold f3; omega
    rw [this]
theorem bytes8 (x : Nat) (h : x < 2 ^ 64) : ∃ b0 b1 b2 b3 b4 b5 b6 b7 : Nat, x = valB [b0, b1, b2, b3, b4, b5, b6, b7] ∧ ∀ b ∈ [b0, b1, b2, b3, b4, b5, b6, b7], b < 256 := by
  refine ⟨x % 256, x / 256 % 256, x / 256 / 256 % 256, x / 256 / 256 / 256 % 256, x / 256 / 256 / 256 / 256 % 256, x / 256 / 256 / 256 / 256 / 256 % 256, x / 256 / 256 / 256 / 256 / 256 / 256 % 256, x / 256 / 256 / 256 / 256 / 256 / 256 / 256 % 256, ?_, ?_⟩
  · simp only [valB]; omega
  · intro b hb; simp at hb; omega
/-- the count, as Go's library reckons it -/
def cnt1 (x : Nat) : Nat := (x / 2 ^ 1 &&& 6148914691236517205) + (x &&& 6148914691236517205)
def cnt2 (x : Nat) : Nat := (x / 2 ^ 2 &&& 3689348814741910323) + (x &&& 3689348814741910323)
def cnt3 (x : Nat) : Nat := (x / 2 ^ 4 + x) &&& 1085102592571150095
def cnt4 (x : Nat) : Nat := x + x / 2 ^ 8
def cnt5 (x : Nat) : Nat := x + x / 2 ^ 16
def cnt6 (x : Nat) : Nat := x + x / 2 ^ 32
set_option maxHeartbeats 1000000
theorem m1 : (6148914691236517205 : Nat) = valB (List.replicate 8 85) := by decide
theorem m2 : (3689348814741910323 : Nat) = valB (List.replicate 8 51) := by decide
theorem m3 : (1085102592571150095 : Nat) = valB (List.replicate 8 15) := by decide
theorem cnt1_eq (l : List Nat) (hl : l.length = 8) (h : ∀ b ∈ l, b < 256) : cnt1 (valB l) = valB (l.map f1) := by
  unfold cnt1; rw [m1, ← hl]; exact step_and 1 85 (by decide) (by omega) l h
theorem cnt2_eq (l : List Nat) (hl : l.length = 8) (h : ∀ b ∈ l, b < 256) : cnt2 (valB l) = valB (l.map f2) := by
  unfold cnt2; rw [m2, ← hl]; exact step_and 2 51 (by decide) (by omega) l h
theorem cnt3_eq (l : List Nat) (hl : l.length = 8) (h : ∀ b ∈ l, b ≤ 68 ∧ b % 16 ≤ 4) : cnt3 (valB l) = valB (l.map f3) := by
  unfold cnt3; rw [m3, ← hl]; exact step_nib l h
theorem pop_valB : ∀ l : List Nat, (∀ b ∈ l, b < 256) → popN (8 * l.length) (valB l) = (l.map (popN 8)).sum
  | [], _ => rfl
  | b :: r, h => by
    rw [List.length_cons, show 8 * (r.length + 1) = 8 + 8 * r.length by omega, valB, show b + 256 * valB r = b + 2 ^ 8 * valB r from rfl, popN_split 8 _ b _ (h b (by simp)), pop_valB r (fun x hx => h x (by simp [hx]))]
    rfl
theorem sums (c0 c1 c2 c3 c4 c5 c6 c7 : Nat) (h0 : c0 ≤ 8) (h1 : c1 ≤ 8) (h2 : c2 ≤ 8) (h3 : c3 ≤ 8) (h4 : c4 ≤ 8) (h5 : c5 ≤ 8) (h6 : c6 ≤ 8) (h7 : c7 ≤ 8) :
    valB [c0, c1, c2, c3, c4, c5, c6, c7] ≤ 578721382704613384 ∧ cnt6 (cnt5 (cnt4 (valB [c0, c1, c2, c3, c4, c5, c6, c7]))) % 128 = c0 + (c1 + (c2 + (c3 + (c4 + (c5 + (c6 + c7)))))) := by
  refine ⟨by simp only [valB]; omega, ?_⟩
  have s4 : cnt4 (valB [c0, c1, c2, c3, c4, c5, c6, c7]) = valB [c0 + c1, c1 + c2, c2 + c3, c3 + c4, c4 + c5, c5 + c6, c6 + c7, c7] := by
    simp only [valB, cnt4]
    have : (c0 + 256 * (c1 + 256 * (c2 + 256 * (c3 + 256 * (c4 + 256 * (c5 + 256 * (c6 + 256 * (c7 + 256 * 0)))))))) / 2 ^ 8 = c1 + 256 * (c2 + 256 * (c3 + 256 * (c4 + 256 * (c5 + 256 * (c6 + 256 * (c7 + 256 * 0)))))) := by omega
    rw [this]; omega
  have d0 : c0 + c1 ≤ 16 := by omega
  have d1 : c1 + c2 ≤ 16 := by omega
  have d2 : c2 + c3 ≤ 16 := by omega
  have d3 : c3 + c4 ≤ 16 := by omega
  have d4 : c4 + c5 ≤ 16 := by omega
  have d5 : c5 + c6 ≤ 16 := by omega
  have d6 : c6 + c7 ≤ 16 := by omega
  have hs : c0 + (c1 + (c2 + (c3 + (c4 + (c5 + (c6 + c7)))))) = (c0 + c1) + (c2 + c3) + ((c4 + c5) + (c6 + c7)) := by omega
  rw [s4, hs]
  generalize c0 + c1 = e0 at *; generalize c1 + c2 = e1 at *; generalize c2 + c3 = e2 at *; generalize c3 + c4 = e3 at *
  generalize c4 + c5 = e4 at *; generalize c5 + c6 = e5 at *; generalize c6 + c7 = e6 at *
  clear s4 hs h0 h1 h2 h3 h4 h5 h6
  have s5 : cnt5 (valB [e0, e1, e2, e3, e4, e5, e6, c7]) = valB [e0 + e2, e1 + e3, e2 + e4, e3 + e5, e4 + e6, e5 + c7, e6, c7] := by
    simp only [valB, cnt5]
    have : (e0 + 256 * (e1 + 256 * (e2 + 256 * (e3 + 256 * (e4 + 256 * (e5 + 256 * (e6 + 256 * (c7 + 256 * 0)))))))) / 2 ^ 16 = e2 + 256 * (e3 + 256 * (e4 + 256 * (e5 + 256 * (e6 + 256 * (c7 + 256 * 0))))) := by omega
    rw [this]; omega
  rw [s5]
  have g0 : e0 + e2 ≤ 32 := by omega
  have g1 : e1 + e3 ≤ 32 := by omega
  have g2 : e2 + e4 ≤ 32 := by omega
  have g3 : e3 + e5 ≤ 32 := by omega
  have g4 : e4 + e6 ≤ 32 := by omega
  have g5 : e5 + c7 ≤ 32 := by omega
  generalize e0 + e2 = i0 at *; generalize e1 + e3 = i1 at *; generalize e2 + e4 = i2 at *; generalize e3 + e5 = i3 at *
  generalize e4 + e6 = i4 at *; generalize e5 + c7 = i5 at *
  clear s5 d0 d1 d2 d3 d4 d5
  simp only [valB, cnt6]
  have : (i0 + 256 * (i1 + 256 * (i2 + 256 * (i3 + 256 * (i4 + 256 * (i5 + 256 * (e6 + 256 * (c7 + 256 * 0)))))))) / 2 ^ 32 = i4 + 256 * (i5 + 256 * (e6 + 256 * (c7 + 256 * 0))) := by omega
  rw [this]; omega
theorem nibs (c0 c1 c2 c3 c4 c5 c6 c7 : Nat) (h0 : c0 ≤ 68) (h1 : c1 ≤ 68) (h2 : c2 ≤ 68) (h3 : c3 ≤ 68) (h4 : c4 ≤ 68) (h5 : c5 ≤ 68) (h6 : c6 ≤ 68) (h7 : c7 ≤ 68) :
    valB [c0, c1, c2, c3, c4, c5, c6, c7] / 2 ^ 4 + valB [c0, c1, c2, c3, c4, c5, c6, c7] < 2 ^ 64 := by
  simp only [valB]; omega
theorem cnt_ok (x : Nat) (h : x < 2 ^ 64) : cnt1 x < 2 ^ 64 ∧ cnt2 (cnt1 x) < 2 ^ 64 ∧ cnt2 (cnt1 x) / 2 ^ 4 + cnt2 (cnt1 x) < 2 ^ 64 ∧ cnt3 (cnt2 (cnt1 x)) ≤ 578721382704613384 ∧ cnt6 (cnt5 (cnt4 (cnt3 (cnt2 (cnt1 x))))) % 128 = popN 64 x := by
  obtain ⟨b0, b1, b2, b3, b4, b5, b6, b7, rfl, hb⟩ := bytes8 x h
  have hpop := pop_valB _ hb
  generalize hl : [b0, b1, b2, b3, b4, b5, b6, b7] = l at hb hpop ⊢
  have hl8 : l.length = 8 := by rw [← hl]; rfl
  have hb1 : ∀ b ∈ l.map f1, b < 256 := by
    intro b hx; obtain ⟨a, ha, rfl⟩ := List.mem_map.1 hx; exact (nib_lt ⟨a, hb a ha⟩).1
  have hb2 : ∀ b ∈ (l.map f1).map f2, b ≤ 68 ∧ b % 16 ≤ 4 := by
    intro b hx; obtain ⟨a, ha, rfl⟩ := List.mem_map.1 hx
    obtain ⟨a', ha', rfl⟩ := List.mem_map.1 ha
    exact ⟨(nib_lt ⟨a', hb a' ha'⟩).2.1, (nib_lt ⟨a', hb a' ha'⟩).2.2.1⟩
  have e3 : ((l.map f1).map f2).map f3 = l.map (popN 8) := by
    simp only [List.map_map]
    exact List.map_congr_left fun a ha => (nib_lt ⟨a, hb a ha⟩).2.2.2.1
  have hp : ∀ b ∈ l, popN 8 b ≤ 8 := fun b hx => (nib_lt ⟨b, hb b hx⟩).2.2.2.2
  rw [cnt1_eq l hl8 hb, cnt2_eq _ (by simpa using hl8) hb1, cnt3_eq _ (by simpa using hl8) hb2, e3]
  rw [hl8] at hpop
  have l1 := valB_lt _ hb1
  have l2 := valB_lt ((l.map f1).map f2) (fun b hx => by have := (hb2 b hx).1; omega)
  simp only [List.length_map, hl8] at l1 l2
  refine ⟨by simpa using l1, by simpa using l2, ?_⟩
  rw [hpop]
  subst hl
  simp only [List.map_cons, List.map_nil, List.sum_cons, List.sum_nil, Nat.add_zero] at hb2 hp ⊢
  refine ⟨nibs _ _ _ _ _ _ _ _ (hb2 _ (by simp)).1 (hb2 _ (by simp)).1 (hb2 _ (by simp)).1 (hb2 _ (by simp)).1 (hb2 _ (by simp)).1 (hb2 _ (by simp)).1 (hb2 _ (by simp)).1 (hb2 _ (by simp)).1, ?_⟩
  exact sums _ _ _ _ _ _ _ _ (hp _ (by simp)) (hp _ (by simp)) (hp _ (by simp)) (hp _ (by simp)) (hp _ (by simp)) (hp _ (by simp)) (hp _ (by simp)) (hp _ (by simp))
end Go.Proofs.Ytmdhmgngomlheaa
