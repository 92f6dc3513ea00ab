import Derived.Test.YtmdhmgngomlheaaP30j
namespace Go.Proofs.Ytmdhmgngomlheaa
open Go.Eng
set_option maxRecDepth 100000
set_option linter.unusedVariables false
set_option linter.unusedSimpArgs false
/-! chapter 30, plain: the choice among the prime implicants -/
def inS (N : Nat) (l : List Int) (x : Nat) : Bool := decide (x < N) && l.contains (x : Int)
def fM (M : Nat → Bool) : Int → Option Bool := fun x => if (decide (0 ≤ x) && M x.toNat) = true then some true else none
theorem fM_get (M : Nat → Bool) (j : Nat) : (fM M (j : Int)).getD false = M j := by
  unfold fM; cases h : M j <;> simp [h]
theorem fM_upd (M : Nat → Bool) (x : Int) (h : 0 ≤ x) : updK (fM M) x true = fM fun y => M y || decide (y = x.toNat) := by
  funext y
  unfold updK fM
  by_cases e : y = x
  · subst e; simp [h]
  · rw [if_neg e]
    by_cases h0 : 0 ≤ y
    · have : y.toNat ≠ x.toNat := by omega
      simp [h0, this]
    · simp [h0]
theorem fM_del (M : Nat → Bool) (j : Nat) : delK (fM M) (j : Int) = fM fun y => M y && !decide (y = j) := by
  funext y
  unfold delK fM
  by_cases e : y = (j : Int)
  · subst e; simp
  · rw [if_neg e]
    by_cases h0 : 0 ≤ y
    · have : y.toNat ≠ j := by omega
      simp [h0, this]
    · simp [h0]
theorem fM_congr {A B : Nat → Bool} (h : ∀ q, A q = B q) : fM A = fM B := by rw [funext h]
theorem inS_nil (N : Nat) : inS N [] = fun _ => false := by funext x; simp [inS]
theorem inS_in {N : Nat} {l : List Int} {x : Int} (h0 : 0 ≤ x) (h1 : x < N) (y : Nat) : inS N (l ++ [x]) y = (inS N l y || decide (y = x.toNat)) := by
  unfold inS
  by_cases e : y = x.toNat
  · subst e
    have : ((x.toNat : Nat) : Int) = x := by omega
    simp [this]; omega
  · have : ¬ ((y : Nat) : Int) = x := by omega
    simp [this, e]
theorem inS_out {N : Nat} {l : List Int} {x : Int} (h : ¬ (0 ≤ x ∧ x < N)) (y : Nat) : inS N (l ++ [x]) y = inS N l y := by
  unfold inS
  by_cases hy : y < N
  · have : ¬ ((y : Nat) : Int) = x := by omega
    simp [this]
  · simp [hy]
theorem start_in {n : Nat} {S : Nat → Bool} {x : Nat} (h1 : x < 2 ^ n) (q : NP) : start n (fun y => S y || decide (y = x)) q = (start n S q || decide (q = (2 ^ n - 1, x))) := by
  unfold start
  have : (q = (2 ^ n - 1, x)) ↔ (q.1 = 2 ^ n - 1 ∧ q.2 = x) := ⟨fun e => by rw [e]; exact ⟨rfl, rfl⟩, fun h => Prod.ext h.1 h.2⟩
  rw [show decide (q = (2 ^ n - 1, x)) = (decide (q.1 = 2 ^ n - 1) && decide (q.2 = x)) from by rw [← Bool.decide_and]; exact decide_eq_decide.2 this]
  by_cases e1 : q.1 = 2 ^ n - 1 <;> by_cases e2 : q.2 = x <;> simp [e1, e2, h1]
theorem matchI_nat {q : NP} {x : Nat} (h : q.1 < 256) (hx : x < 256) : matchI (pc q) (x : Int) = mt q x := by
  unfold matchI mt pc
  simp only
  rw [andI_nat (by omega) (by omega), Bool.eq_iff_iff, beq_iff_eq, beq_iff_eq]; omega
/-- one prime implicant is tried -/
def pstep (N : Nat) (st : List NP × (Nat → Bool)) (q : NP) : List NP × (Nat → Bool) :=
  (if (List.range N).any (fun x => st.2 x && mt q x) then st.1 ++ [q] else st.1, fun x => st.2 x && !(decide (x < N) && mt q x))
def minF (n : Nat) (S : Nat → Bool) : List NP := ((prmL n S).foldl (pstep (2 ^ n)) ([], S)).1
theorem foldS {α β : Type} {f : β → α → β} {b : β} {l : List α} {k : Nat} (h : k < l.length) : (l.take (k + 1)).foldl f b = f ((l.take k).foldl f b) l[k] := by rw [List.take_succ_eq_append_getElem h, List.foldl_append]; rfl
theorem foldF {α β : Type} {f : β → α → β} {b : β} {l : List α} {k : Nat} (h : l.length ≤ k) : (l.take k).foldl f b = l.foldl f b := by rw [List.take_of_length_le h]
theorem any_succ (f : Nat → Bool) (j : Nat) : (List.range (j + 1)).any f = ((List.range j).any f || f j) := by rw [List.range_succ, List.any_append]; simp
theorem gr_len (N : Nat) : ∀ (l : List NP) (st : List NP × (Nat → Bool)), (l.foldl (pstep N) st).1.length ≤ st.1.length + l.length
  | [], st => by simp
  | q :: r, st => by
    have := gr_len N r (pstep N st q)
    have h2 : (pstep N st q).1.length ≤ st.1.length + 1 := by unfold pstep; simp only; split <;> simp
    simp only [List.foldl_cons, List.length_cons]; omega
theorem flat_len {α β : Type} {f : α → List β} {B : Nat} : ∀ (l : List α), (∀ x ∈ l, (f x).length ≤ B) → (l.flatMap f).length ≤ l.length * B
  | [], _ => by simp
  | x :: r, h => by
    have h1 := flat_len r (fun y hy => h y (by simp [hy]))
    have h2 := h x (by simp)
    rw [List.flatMap_cons, List.length_append, List.length_cons, Nat.add_mul, Nat.one_mul]; omega
theorem prmL_len {n : Nat} (hn : n ≤ 8) (S : Nat → Bool) : (prmL n S).length ≤ 589824 := by
  have hN : 2 ^ n ≤ 2 ^ 8 := Nat.pow_le_pow_right (by omega) hn
  rw [show (2 : Nat) ^ 8 = 256 from rfl] at hN
  have h1 : (prmL n S).length ≤ (allP n).length := List.length_filter_le _ _
  have h2 : (allP n).length ≤ (List.range (n + 1)).length * 65536 := flat_len _ fun fx _ => by
    have : (rowM n fx).length ≤ (List.range (2 ^ n)).length * 256 := flat_len _ fun m hm => by
      have := List.mem_range.1 hm
      split
      · simp [rowB]; omega
      · simp
    rw [List.length_range] at this; omega
  rw [List.length_range] at h2; omega
end Go.Proofs.Ytmdhmgngomlheaa
