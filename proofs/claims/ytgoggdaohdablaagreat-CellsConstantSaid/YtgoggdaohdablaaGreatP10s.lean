import Derived.Test.YtgoggdaohdablaaGreatFacts
namespace Go.Proofs.YtgoggdaohdablaaGreat
open Go.Eng
/-! chapter 10: what the functions compute, in plain terms -/
def arity (op : Int) : Int :=
  if (1 ≤ op ∧ op ≤ 9) ∨ (35 ≤ op ∧ op ≤ 39) then 0
  else if op = 10 ∨ op = 25 ∨ (31 ≤ op ∧ op ≤ 34) then 1
  else if op = 26 then 3
  else if 11 ≤ op ∧ op ≤ 30 then 2 else -1
theorem arity_le (op : Int) : -1 ≤ arity op ∧ arity op ≤ 3 := by unfold arity; (repeat' split) <;> omega

def sLoop (L : Int) : List TNode → Nat → List Int → List Int → List Int × Int × Int
  | [], _, stack, starts => if 1 < stack.length then ([], L, 4) else (starts, 0, 0)
  | n :: r, i, stack, starts =>
    if arity n.1 < 0 then ([], i, 2)
    else if (stack.length : Int) < arity n.1 then ([], i, 5)
    else if 12 < (stack.take (stack.length - arity n.1).toNat).length + 1 then ([], i, 16)
    else sLoop L r (i + 1) (stack.take (stack.length - arity n.1).toNat ++ [if 0 < arity n.1 then stack[(stack.length - arity n.1).toNat]?.getD 0 else i])
      (starts ++ [if 0 < arity n.1 then stack[(stack.length - arity n.1).toNat]?.getD 0 else i])
def structF (e : List TNode) : List Int × Int × Int :=
  if 48 < e.length then ([], 0, 4) else if e.length = 0 then ([], 0, 5) else sLoop e.length e 0 [] []

theorem set_row {starts : List Int} {k m : Nat} (x : Int) (h : starts.length = k) (hk : k < m) : (starts ++ List.replicate (m - k) 0).set k x = starts ++ [x] ++ List.replicate (m - (k + 1)) 0 := by
  have e : m - k = (m - (k + 1)) + 1 := by omega
  rw [e, List.replicate_succ, ← h, List.set_append_right _ _ (Nat.le_refl _)]
  simp
theorem set_row2 {starts R : List Int} {k : Nat} (x y : Int) (h : starts.length = k) : (starts ++ [x] ++ R).set k y = starts ++ [y] ++ R := by
  rw [← h, List.append_assoc, List.set_append_right _ _ (Nat.le_refl _)]; simp
theorem get_row {starts R : List Int} {k : Nat} (x : Int) (h : starts.length = k) {g : k < (starts ++ [x] ++ R).length} : (starts ++ [x] ++ R)[k] = x := by
  subst h; simp
theorem sLoop_step (L : Int) {e : List TNode} {k : Nat} {stack starts : List Int} (hk : k < e.length) (ha : 0 ≤ arity e[k].1) (hb : arity e[k].1 ≤ (stack.length : Int)) (hc : (stack.length - arity e[k].1).toNat + 1 ≤ 12) (frm : Int) (hf : frm = if 0 < arity e[k].1 then stack[(stack.length - arity e[k].1).toNat]?.getD 0 else k) :
    sLoop L (e.drop k) k stack starts = sLoop L (e.drop (k + 1)) (k + 1) (stack.take (stack.length - arity e[k].1).toNat ++ [frm]) (starts ++ [frm]) := by
  rw [List.drop_eq_getElem_cons hk, sLoop, if_neg (by omega), if_neg (by omega), if_neg (by simp only [List.length_take]; omega), ← hf]

def sv3 (R : List Int × Int × Int) : SV := .tup3 (.tv (rSlice (rInt .i64)) R.1) (.raw (.int .i64 R.2.1)) (.raw (.int .i64 R.2.2))
theorem sv3_eq {R : List Int × Int × Int} {a : List Int} {b c : Int} (h : (a, b, c) = R) : SV.tup3 (.tv (rSlice (rInt .i64)) a) (.raw (.int .i64 b)) (.raw (.int .i64 c)) = sv3 R := by subst h; rfl
def sv2 (R : List Int × Int) : SV := .tup2 (.tv (rSlice (rInt .i64)) R.1) (.raw (.int .i64 R.2))
theorem sv2_eq {R : List Int × Int} {a : List Int} {b : Int} (h : (a, b) = R) : SV.tup2 (.tv (rSlice (rInt .i64)) a) (.raw (.int .i64 b)) = sv2 R := by subst h; rfl
theorem res_nil {α : Type} {P : Program} {cx : Cx} {st : St} {t : Nat} {rt : RT α} (h : lookS st.slots t = some (.raw (.slice none 0 0))) : Res P cx st (.tmp t) (.tv (rSlice rt) []) := fun β a w hi => by
  obtain ⟨v, h1, h2⟩ := hi.slots t _ h
  have h2 : v = .slice none 0 0 := h2
  exact ⟨v, by simp [resRun, h1], by rw [h2]; exact nil_val⟩
end Go.Proofs.YtgoggdaohdablaaGreat
