import Derived.Test.YtmpgmhcbhkhakaaP37g
namespace Go.Proofs.Ytmpgmhcbhkhakaa
open Go.Eng
set_option maxHeartbeats 1000000
/-! what LedgerConservation asks, in plain lists -/
def sumA (l : List Po) : Int := (l.map amt).sum
theorem recv_E (l : List Po) (m : Int) : recvL l m = W64 (sumE (fun p => p.2.1 == m) l) := by
  rw [← recv_three]
  have := sumR_E (fun p : Po => p.2.1 == m) l 0
  rw [W64_0, Int.zero_add] at this; exact this
theorem sumE_cons (c : Po → Bool) (p : Po) (r : List Po) : sumE c (p :: r) = (if c p = true then amt p else 0) + sumE c r := by simp [sumE]
theorem sum_ind {U : List Int} (hU : U.Nodup) (x a : Int) (hx : x ∈ U) : (U.map fun m => if x = m then a else 0).sum = a := by
  induction U with
  | nil => simp at hx
  | cons u r ih =>
    rw [List.nodup_cons] at hU
    by_cases h : x = u
    · subst h
      have h0 : ∀ t : List Int, x ∉ t → (t.map fun m => if x = m then a else 0).sum = 0 := by
        intro t
        induction t with
        | nil => simp
        | cons y s ihs => intro hn; simp only [List.mem_cons, not_or] at hn; simp [hn.1, ihs hn.2]
      simp [h0 r hU.1]
    · have : x ∈ r := by rcases List.mem_cons.1 hx with h' | h'; exact absurd h' h; exact h'
      simp [h, ih hU.2 this]
theorem sum_add (U : List Int) (f g : Int → Int) : (U.map fun m => f m + g m).sum = (U.map f).sum + (U.map g).sum := by
  induction U with
  | nil => rfl
  | cons u r ih => simp only [List.map_cons, List.sum_cons, ih]; omega
theorem sum_months {U : List Int} (hU : U.Nodup) : ∀ {l : List Po}, (∀ p ∈ l, p.2.1 ∈ U) → (U.map fun m => sumE (fun p => p.2.1 == m) l).sum = sumA l
  | [], _ => by
    have : ∀ t : List Int, (t.map fun m => sumE (fun p : Po => p.2.1 == m) []).sum = 0 := by intro t; induction t with | nil => rfl | cons u r ih => simp [sumE] at ih ⊢; exact ih
    rw [this]; rfl
  | p :: r, h => by
    have ih := sum_months hU (l := r) (fun q hq => h q (List.mem_cons_of_mem _ hq))
    have e : (U.map fun m => sumE (fun p => p.2.1 == m) (p :: r)) = U.map fun m => (if p.2.1 = m then amt p else 0) + sumE (fun p => p.2.1 == m) r := by
      congr 1; funext m; rw [sumE_cons]; simp
    rw [e, sum_add, ih, sum_ind hU _ _ (h p (by simp))]
    simp [sumA]
/-- the sum that the first loop makes -/
def sumM7 (l : List Po) (U : List Int) : Int := U.foldl (fun s m => W64 (s + recvL l m)) 0
theorem sumM7_snoc {l : List Po} {U : List Int} {k : Nat} (h : k < U.length) : sumM7 l (U.take (k + 1)) = W64 (sumM7 l (U.take k) + recvL l U[k]) := by
  unfold sumM7; rw [← List.take_append_getElem h, List.foldl_append]; rfl
theorem sumM7_W (l : List Po) (U : List Int) : sumM7 l U = W64 ((U.map fun m => sumE (fun p => p.2.1 == m) l).sum) := by
  have key : ∀ (U : List Int) (s : Int), U.foldl (fun s m => W64 (s + recvL l m)) (W64 s) = W64 (s + (U.map fun m => sumE (fun p => p.2.1 == m) l).sum) := by
    intro U
    induction U with
    | nil => intro s; simp
    | cons u r ih => intro s; rw [List.foldl_cons, recv_E, W_W, W_W', ih]; simp [Int.add_assoc]
  have := key U 0
  rw [W64_0, Int.zero_add] at this; exact this
/-- the second loop's -/
def allL (l : List Po) : Int := l.foldl (fun s p => if p.2.2.1 = 1 then W64 (s + p.2.2.2) else if p.2.2.1 = 2 ∨ p.2.2.1 = 3 then W64 (s - p.2.2.2) else s) 0
theorem allL_W (l : List Po) : allL l = W64 (sumA l) := by
  have key : ∀ (l : List Po) (s : Int), l.foldl (fun s p => if p.2.2.1 = 1 then W64 (s + p.2.2.2) else if p.2.2.1 = 2 ∨ p.2.2.1 = 3 then W64 (s - p.2.2.2) else s) (W64 s) = W64 (s + sumA l) := by
    intro l
    induction l with
    | nil => intro s; simp [sumA]
    | cons p r ih =>
      intro s
      have e : (if p.2.2.1 = 1 then W64 (W64 s + p.2.2.2) else if p.2.2.1 = 2 ∨ p.2.2.1 = 3 then W64 (W64 s - p.2.2.2) else W64 s) = W64 (s + amt p) := by
        unfold amt
        by_cases h1 : p.2.2.1 = 1
        · rw [if_pos h1, if_pos h1, W_W]
        · rw [if_neg h1, if_neg h1]
          by_cases h2 : p.2.2.1 = 2 ∨ p.2.2.1 = 3
          · rw [if_pos h2, if_pos h2, Int.sub_eq_add_neg, W_W, W_W']
          · rw [if_neg h2, if_neg h2, Int.add_zero]
      rw [List.foldl_cons, e, ih]
      simp [sumA, Int.add_assoc]
  have := key l 0
  rw [W64_0, Int.zero_add] at this; exact this
theorem uniqS_nodup (l : List Int) : (uniqS l).Nodup := (uniqS_ok l).1.imp (fun h => by omega)
theorem months_sum (l : List Po) : sumM7 l (uniqS (mon l)) = allL l := by
  rw [sumM7_W, allL_W, sum_months (uniqS_nodup _) (fun p hp => ((uniqS_ok (mon l)).2 _).2 (List.mem_map.2 ⟨p, hp, rfl⟩))]
/-! a valid ledger -/
theorem valid_err {l : List Po} (hl : l.length ≤ 4096) (h : (valL l).2 = 0) : ∀ i, errAt l i = 0 := by
  intro i
  rcases Nat.lt_or_ge i l.length with hi | hi
  · unfold valL at h
    rw [if_neg (by omega)] at h
    unfold valK at h
    split at h
    · rename_i j hj
      have := List.find?_some hj
      simp at this
      exact absurd h this
    · rename_i hj
      rw [List.find?_eq_none] at hj
      have := hj i (by simp; omega)
      simpa using this
  · unfold errAt; rw [List.getElem?_eq_none hi]
theorem err_valid {l : List Po} (hl : l.length ≤ 4096) (h : ∀ i, errAt l i = 0) : valL l = (0, 0) := by
  unfold valL valK
  rw [if_neg (by omega)]
  split
  · rename_i j hj
    have := List.find?_some hj
    simp [h j] at this
  · rfl
theorem err_take {l : List Po} {n : Nat} (hn : n ≤ l.length) (h : ∀ i, errAt l i = 0) (i : Nat) : errAt (l.take n) i = 0 := by
  rcases Nat.lt_or_ge i n with hi | hi
  · rw [← h i]
    unfold errAt
    rw [List.getElem?_take_of_lt hi, List.getElem?_take_of_lt (by omega), List.take_take, Nat.min_eq_left (by omega)]
  · unfold errAt; rw [List.getElem?_eq_none (by simp; omega)]
theorem recv_last {l : List Po} (h : ∀ i, errAt l i = 0) (m : Int) : ∀ k, k ≤ l.length → 0 ≤ recvL (l.take k) m
  | 0, _ => by simp [recvL]
  | k + 1, hk => by
    have hk' : k < l.length := hk
    have he := h k
    unfold errAt at he
    rw [List.getElem?_eq_getElem hk'] at he
    simp only [] at he
    have hr : recvL (l.take (k + 1)) m = if l[k].2.1 = m then W64 (recvL (l.take k) m + amt l[k]) else recvL (l.take k) m := by simp only [recvL, foldl_succ hk']
    by_cases hm : l[k].2.1 = m
    · subst hm
      split at he
      · omega
      · split at he
        · omega
        · split at he
          · omega
          · split at he
            · omega
            · omega
    · rw [hr, if_neg hm]; exact recv_last h m k (by omega)
theorem recv_nonneg {l : List Po} (h : ∀ i, errAt l i = 0) (m : Int) : 0 ≤ recvL l m := by
  have := recv_last h m l.length (Nat.le_refl _)
  rwa [List.take_of_length_le (Nat.le_refl _)] at this
theorem date_ok {l : List Po} (h : ∀ i, errAt l i = 0) {p : Po} (hp : p ∈ l) : 0 ≤ p.1 ∧ p.1 ≤ 109572 := by
  obtain ⟨k, hk⟩ := List.getElem?_of_mem hp
  have he := h k
  unfold errAt at he
  rw [hk] at he
  simp only [] at he
  split at he
  · omega
  · omega
theorem cash_all {l : List Po} (h : ∀ i, errAt l i = 0) : cashL (0, 109573) l = allL l := by
  rw [allL_W, ← cash_three]
  have e := sumR_E (fun p : Po => con37 (0, 109573) p.1) l 0
  rw [W64_0, Int.zero_add] at e
  rw [e]
  congr 1
  unfold sumE sumA
  congr 1
  refine List.map_congr_left fun p hp => ?_
  have := date_ok h hp
  rw [if_pos]
  unfold con37 val37
  simp; omega
end Go.Proofs.Ytmpgmhcbhkhakaa
