import Derived.Test.YtmdhmgngomlheaaP30l
namespace Go.Proofs.Ytmdhmgngomlheaa
open Go.Eng
set_option maxRecDepth 100000
set_option linter.unusedVariables false
set_option linter.unusedSimpArgs false
/-! chapter 30, plain: the reference's choice -/
def bl (N : Nat) (A : Nat → Bool) : List Bool := (List.range N).map A
theorem bl_len (N : Nat) (A : Nat → Bool) : (bl N A).length = N := by simp [bl]
theorem bl_get {N : Nat} {A : Nat → Bool} {x : Nat} (h : x < N) : (bl N A)[x]? = some (A x) := by
  unfold bl; rw [List.getElem?_map, List.getElem?_range h]; rfl
theorem bl_getD {N : Nat} {A : Nat → Bool} {x : Nat} (h : x < N) : (bl N A)[x]?.getD false = A x := by rw [bl_get h]; rfl
theorem bl_getE {N : Nat} {A : Nat → Bool} {x : Nat} (h : x < (bl N A).length) : (bl N A)[x] = A x := by
  have h2 := h; rw [bl_len] at h2
  have := bl_get (A := A) h2
  rw [List.getElem?_eq_getElem h] at this
  injection this
theorem bl_congr {N : Nat} {A B : Nat → Bool} (h : ∀ x, x < N → A x = B x) : bl N A = bl N B := List.map_congr_left fun x hx => h x (List.mem_range.1 hx)
theorem bl_set {N : Nat} {A : Nat → Bool} {x : Nat} {v : Bool} (h : x < N) : (bl N A).set x v = bl N fun y => if y = x then v else A y := by
  apply List.ext_getElem?
  intro i
  by_cases hi : i < N
  · rw [bl_get hi]
    by_cases e : x = i
    · subst e; rw [List.getElem?_set_self (by rw [bl_len]; exact h)]; simp
    · rw [List.getElem?_set_ne e, bl_get hi]; simp [Ne.symm e]
  · rw [List.getElem?_eq_none (by rw [List.length_set, bl_len]; omega), List.getElem?_eq_none (by rw [bl_len]; omega)]
theorem bl_false (N : Nat) : List.replicate N false = bl N fun _ => false := by
  unfold bl; apply List.ext_getElem?; intro i
  by_cases h : i < N
  · simp [h]
  · rw [List.getElem?_eq_none (by simp; omega), List.getElem?_eq_none (by simp; omega)]
theorem bl_row (N : Nat) (A : Nat → Bool) : ((bl N A).drop 0).take N = bl N A := by rw [List.drop_zero, List.take_of_length_le (by rw [bl_len]; exact Nat.le_refl _)]
def impB (N : Nat) (S : Nat → Bool) (q : NP) : Bool := (List.range N).all fun x => !mt q x || S x
theorem all_succ (f : Nat → Bool) (j : Nat) : (List.range (j + 1)).all f = ((List.range j).all f && f j) := by rw [List.range_succ, List.all_append]; simp
theorem all_at {f : Nat → Bool} {N j : Nat} (hj : j < N) (h : f j = false) : (List.range N).all f = false := by
  rw [List.all_eq_false]; exact ⟨j, List.mem_range.2 hj, by simp [h]⟩
theorem any_at {f : Nat → Bool} {N j : Nat} (hj : j < N) (h : f j = true) : (List.range N).any f = true := List.any_eq_true.2 ⟨j, List.mem_range.2 hj, h⟩
theorem imp_B {c : Nat} {S : Nat → Bool} {q : NP} (h : vld c q = true) : imp c S q = impB (2 ^ c) S q := by unfold imp impB; rw [h]; rfl
theorem vld_mrg {c : Nat} {q : NP} (h : vld c q = true) (i : Nat) : vld c (mrg q i) = true := by
  rw [vld_iff] at h ⊢
  refine ⟨Nat.lt_of_le_of_lt (anN_le _ _) h.1, fun j hj => ?_⟩
  simp only [mrg] at hj ⊢
  rw [an_bit] at hj ⊢
  simp only [Bool.and_eq_true] at hj ⊢
  exact ⟨h.2 j hj.1, hj.2⟩
theorem pop_step {x : Nat} (h : x < 256) : popN 8 x = x % 2 + popN 8 (x / 2) := by
  have : popN 8 (x / 2) = popN 7 (x / 2) := popN_more 7 1 (x / 2) (by omega)
  rw [this]; rfl
/-- one pattern is tried -/
def freshB (N : Nat) (S D : Nat → Bool) (q : NP) : Bool := (List.range N).any fun x => mt q x && S x && !D x
def rstep (c : Nat) (S : Nat → Bool) (st : List NP × (Nat → Bool)) (q : NP) : List NP × (Nat → Bool) :=
  if (q.2 &&& q.1 == q.2 && freshB (2 ^ c) S st.2 q && prm c S q) = true then (st.1 ++ [q], fun x => st.2 x || (decide (x < 2 ^ c) && mt q x)) else st
def stB (c : Nat) (S : Nat → Bool) (m : Nat) (st : List NP × (Nat → Bool)) (b : Nat) := rstep c S st (m, b)
def stM (c : Nat) (S : Nat → Bool) (fx : Nat) (st : List NP × (Nat → Bool)) (m : Nat) := if popN 8 m = fx then (List.range (m + 1)).foldl (stB c S m) st else st
def stF (c : Nat) (S : Nat → Bool) (st : List NP × (Nat → Bool)) (fx : Nat) := (List.range (2 ^ c)).foldl (stM c S fx) st
def st0 : List NP × (Nat → Bool) := ([], fun _ => false)
theorem fold_succ {β : Type} (f : β → Nat → β) (b : β) (k : Nat) : (List.range (k + 1)).foldl f b = f ((List.range k).foldl f b) k := by rw [List.range_succ, List.foldl_append]; rfl
theorem fold_flat {α β γ : Type} {f : α → List β} {h : γ → β → γ} : ∀ (l : List α) (b : γ), (l.flatMap f).foldl h b = l.foldl (fun acc x => (f x).foldl h acc) b
  | [], _ => rfl
  | x :: r, b => by rw [List.flatMap_cons, List.foldl_append, List.foldl_cons, fold_flat r]
theorem fold_all (c : Nat) (S : Nat → Bool) (st : List NP × (Nat → Bool)) : (allP c).foldl (rstep c S) st = (List.range (c + 1)).foldl (stF c S) st := by
  unfold allP
  rw [fold_flat]
  congr 1
  funext acc fx
  unfold rowM stF
  rw [fold_flat]
  congr 1
  funext acc m
  unfold stM
  split
  · unfold rowB; rw [List.foldl_map]; rfl
  · rfl
theorem fold_rel (c : Nat) (S : Nat → Bool) : ∀ (l : List NP) (o : List NP) (D M : Nat → Bool), (∀ q ∈ l, prm c S q = true → vld c q = true) → (∀ x, M x = (S x && !D x)) → (l.foldl (rstep c S) (o, D)).1 = ((l.filter (prm c S)).foldl (pstep (2 ^ c)) (o, M)).1
  | [], o, D, M, _, _ => rfl
  | q :: r, o, D, M, hv, h => by
    have hr := fun q hq => hv q (List.mem_cons_of_mem _ hq)
    rw [List.foldl_cons]
    by_cases hp : prm c S q = true
    · rw [List.filter_cons_of_pos hp, List.foldl_cons]
      have hq := hv q (by simp) hp
      have hb : (q.2 &&& q.1 == q.2) = true := by unfold vld at hq; rw [Bool.and_eq_true] at hq; exact hq.2
      have hf : freshB (2 ^ c) S D q = (List.range (2 ^ c)).any fun x => M x && mt q x := by
        unfold freshB; congr 1; funext x; rw [h x]; cases mt q x <;> cases S x <;> cases D x <;> rfl
      by_cases hfr : freshB (2 ^ c) S D q = true
      · have e1 : rstep c S (o, D) q = (o ++ [q], fun x => D x || (decide (x < 2 ^ c) && mt q x)) := by unfold rstep; rw [if_pos (by simp [hb, hfr, hp])]
        have e2 : pstep (2 ^ c) (o, M) q = (o ++ [q], fun x => M x && !(decide (x < 2 ^ c) && mt q x)) := by unfold pstep; rw [if_pos (by rw [← hf]; exact hfr)]
        rw [e1, e2]
        refine fold_rel c S r _ _ _ hr fun x => ?_
        rw [h x]; cases S x <;> cases D x <;> simp
      · have e1 : rstep c S (o, D) q = (o, D) := by unfold rstep; rw [if_neg (by simp [hfr])]
        have e2 : pstep (2 ^ c) (o, M) q = (o, fun x => M x && !(decide (x < 2 ^ c) && mt q x)) := by unfold pstep; rw [if_neg (by rw [← hf]; exact hfr)]
        rw [e1, e2]
        refine fold_rel c S r _ _ _ hr fun x => ?_
        rw [← h x]
        rw [Bool.not_eq_true, hf, List.any_eq_false] at hfr
        by_cases hx : x < 2 ^ c
        · have := hfr x (List.mem_range.2 hx)
          cases h1 : M x <;> cases h2 : mt q x <;> simp_all
        · simp [hx]
    · rw [List.filter_cons_of_neg hp]
      have e1 : rstep c S (o, D) q = (o, D) := by unfold rstep; rw [if_neg (by simp [hp])]
      rw [e1]
      exact fold_rel c S r _ _ _ hr h
theorem ref_min (c : Nat) (S : Nat → Bool) : ((List.range (c + 1)).foldl (stF c S) st0).1 = minF c S := by
  rw [← fold_all]
  unfold minF prmL st0
  exact fold_rel c S _ _ _ _ (fun q _ h => (prm_vld h).2) (fun x => by simp)
theorem rstep_len (c : Nat) (S : Nat → Bool) (st : List NP × (Nat → Bool)) (q : NP) : (rstep c S st q).1.length ≤ st.1.length + 1 := by
  unfold rstep; split <;> simp
end Go.Proofs.Ytmdhmgngomlheaa
