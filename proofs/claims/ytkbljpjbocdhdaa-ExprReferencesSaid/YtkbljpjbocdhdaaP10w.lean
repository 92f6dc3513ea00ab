import Derived.Test.YtkbljpjbocdhdaaP10k
import Derived.Test.YtkbljpjbocdhdaaTurns
namespace Go.Proofs.Ytkbljpjbocdhdaa
open Go.Eng
set_option maxRecDepth 100000
set_option maxHeartbeats 4000000
set_option linter.unusedVariables false
set_option linter.unusedSimpArgs false


def doneK (l : List Int) (n : Int) (k : Nat) : Bool := (l.take k).any (fun y => decide (n ≤ y))
def outK (l : List Int) (n : Int) (k : Nat) : List Int := if doneK l n k = true then insU n (l.take k) else l.take k
theorem insU_lt {n : Int} : ∀ {a b : List Int}, (∀ y ∈ a, y < n) → insU n (a ++ b) = a ++ insU n b
  | [], b, _ => rfl
  | y :: a, b, h => by
    have h1 := h y (by simp)
    rw [List.cons_append, insU, if_neg (by omega), if_neg (by omega), insU_lt (fun z hz => h z (by simp [hz]))]; rfl
theorem insU_any {n : Int} : ∀ {a b : List Int}, a.any (fun y => decide (n ≤ y)) = true → insU n (a ++ b) = insU n a ++ b
  | y :: a, b, h => by
    rw [List.cons_append, insU, insU]
    split
    · rfl
    · split
      · rfl
      · rename_i h1 h2
        simp only [List.any_cons, Bool.or_eq_true, decide_eq_true_eq] at h
        rw [insU_any (h.resolve_left (by omega))]; rfl
theorem done_false {l : List Int} {n : Int} {k : Nat} (h : doneK l n k = false) : ∀ y ∈ l.take k, y < n := fun y hy => by
  have := List.any_eq_false.1 h y hy; simpa using this
theorem done_succ {l : List Int} {n : Int} {k : Nat} (hk : k < l.length) : doneK l n (k + 1) = (doneK l n k || decide (n ≤ l[k])) := by
  unfold doneK; rw [← List.take_append_getElem hk, List.any_append]; simp
theorem ins_A {l : List Int} {n : Int} {k : Nat} (hk : k < l.length) (h : doneK l n k = false) (hg : n < l[k]) : l.take k ++ [n] ++ [l[k]] = outK l n (k + 1) ∧ doneK l n (k + 1) = true := by
  have hd : doneK l n (k + 1) = true := by rw [done_succ hk]; simp; omega
  refine ⟨?_, hd⟩
  rw [outK, if_pos hd, ← List.take_append_getElem hk, insU_lt (done_false h), insU, if_pos hg]; simp
theorem ins_B {l : List Int} {n : Int} {k : Nat} (hk : k < l.length) (h : doneK l n k = false) (hg : n = l[k]) : l.take k ++ [l[k]] = outK l n (k + 1) ∧ doneK l n (k + 1) = true := by
  have hd : doneK l n (k + 1) = true := by rw [done_succ hk]; simp; omega
  refine ⟨?_, hd⟩
  rw [outK, if_pos hd, ← List.take_append_getElem hk, insU_lt (done_false h), insU, if_neg (by omega), if_pos hg]
theorem ins_C {l : List Int} {n : Int} {k : Nat} (hk : k < l.length) (h : doneK l n k = true ∨ l[k] < n) : outK l n k ++ [l[k]] = outK l n (k + 1) ∧ doneK l n (k + 1) = doneK l n k := by
  cases hd : doneK l n k with
  | true =>
    have hd2 : doneK l n (k + 1) = true := by rw [done_succ hk, hd]; rfl
    refine ⟨?_, hd2⟩
    rw [outK, if_pos hd, outK, if_pos hd2, ← List.take_append_getElem hk, insU_any hd]
  | false =>
    have h := h.resolve_left (by simp [hd])
    have hd2 : doneK l n (k + 1) = false := by rw [done_succ hk, hd]; simp; omega
    refine ⟨?_, hd2⟩
    rw [outK, if_neg (by simp [hd]), outK, if_neg (by simp [hd2]), List.take_append_getElem hk]
theorem out_false {l : List Int} {n : Int} {k : Nat} (h : doneK l n k = false) : outK l n k = l.take k := by rw [outK, if_neg (by simp [h])]
theorem out_end {l : List Int} {n : Int} : (doneK l n l.length = true → outK l n l.length = insU n l) ∧ (doneK l n l.length = false → outK l n l.length ++ [n] = insU n l) := by
  refine ⟨fun h => ?_, fun h => ?_⟩
  · rw [outK, if_pos h, List.take_of_length_le (Nat.le_refl _)]
  · have := insU_lt (b := []) (done_false h)
    rw [out_false h]
    rw [List.take_of_length_le (Nat.le_refl _), List.append_nil] at this
    rw [List.take_of_length_le (Nat.le_refl _), this]; rfl
theorem out_len {l : List Int} {n : Int} {k : Nat} : (outK l n k).length ≤ l.length + 1 := by
  have hI : ∀ (a : List Int), (insU n a).length ≤ a.length + 1 := by
    intro a; induction a with
    | nil => simp [insU]
    | cons y r ih => unfold insU; (repeat' split) <;> simp <;> omega
  unfold outK; split
  · have := hI (l.take k); simp at this ⊢; omega
  · simp; omega

theorem rinsert_ok (l : List Int) (n : Int) (hlm : l.length ≤ 1000000) : Ct Try.prog 27 [.tv (rSlice (rInt .i64)) l, .raw (.int .i64 n)] (.tv (rSlice (rInt .i64)) (insU n l)) := by
  refine ct_intro Try.func27 rfl rfl Try.ntmps27 rfl rfl ?_
  intro w0 ok0
  refine j_seq ?_
  refine j_region ?_
  refine jg_adr _ rfl _ rfl rfl (op_assign (.base rfl)) ?_
  refine jg_nil ?_
  refine jn_keep [0, 1] [] (.cons rfl (.cons rfl .nil)) .nil ?_
  refine jn_seq (j_seq ?_)
  refine j_region ?_
  refine jg_adr _ rfl _ rfl rfl (op_assign (.base rfl)) ?_
  refine jg_nil ?_
  refine jn_keep [0, 1, 5] [] (.cons rfl (.cons rfl (.cons rfl .nil))) .nil ?_
  refine jn_seq (j_seq ?_)
  refine j_region ?_
  refine jg_adr _ rfl _ rfl rfl (op_assign (.base rfl)) ?_
  refine jg_nil ?_
  refine jn_keep [0, 1, 5, 6] [] (.cons rfl (.cons rfl (.cons rfl (.cons rfl .nil)))) .nil ?_
  refine jn_seq (j_seq (j_seq ?_))
  refine j_region ?_
  refine jg_adr _ rfl _ rfl rfl (op_assign (.base rfl)) ?_
  refine jg_nil ?_
  refine jn_keep [0, 1, 5, 6, 7] [] (.cons rfl (.cons rfl (.cons rfl (.cons rfl (.cons rfl .nil))))) .nil ?_
  refine jn_seq (j_block ?_)
  refine j_vac 70 5 (rInt .i64) rfl rfl rfl ?_
  refine j_loopp (ι := Nat) (fun k => ⟨[(0, .tv (rSlice (rInt .i64)) l), (1, .raw (.int .i64 (n))), (5, .own 70 (rInt .i64).n 0 (outK l n k).length), (6, .raw (.bool (doneK l n k))), (7, .raw (.int .i64 ((k : Nat))))], [(70, ⟨rInt .i64, outK l n k⟩)]⟩) (fun k => k ≤ l.length) (fun k => l.length - k) 0 (Nat.zero_le _) (fun a w hi => (Sub.inv ⟨(by repeat (first | exact SubS_nil | refine SubS_cons rfl (by first | rfl | (simp; done) | assumption) ?_)), (by repeat (first | exact SubH_nil | refine SubH_cons rfl (by first | rfl | (simp; done) | assumption) ?_))⟩ hi)) ?_
  rintro k hk
  have hol := out_len (l := l) (n := n) (k := k)
  refine j_seq (j_seq ?_)
  refine j_region ?_
  refine jg_adr _ rfl _ rfl rfl (op_move (.base rfl)) ?_
  refine jg_adr _ rfl _ rfl rfl (op_move (.base rfl)) ?_
  refine jg_adr _ rfl _ rfl rfl (op_len Try.underlying24 (.base rfl)) ?_
  refine jg_adr _ rfl _ rfl rfl (op_lss (.base rfl) (.base rfl)) ?_
  refine jg_nil ?_
  refine jn_keep [0, 1, 5, 6, 7, 11] [70] (.cons rfl (.cons rfl (.cons rfl (.cons rfl (.cons rfl (.cons rfl .nil)))))) (.cons rfl .nil) ?_
  refine jn_seq ?_
  refine j_cond rfl (fun h4 => ?_) (fun h4 => ?_)
  · try simp at h4
    refine j_skip (jn_seq (j_seq (j_block (j_seq (j_seq ?_)))))
    refine j_region ?_
    refine jg_adr _ rfl _ rfl rfl (op_move (.base rfl)) ?_
    refine jg_adr _ rfl _ rfl rfl (op_not (.base rfl)) ?_
    refine jg_adr _ rfl _ rfl rfl (op_move (.base rfl)) ?_
    refine jg_gd _ _ _ _ _ _ rfl rfl rfl rfl rfl (fun hg => op_move (.base rfl)) ?_
    refine jg_gd _ _ _ _ _ _ rfl rfl rfl rfl rfl (fun hg => op_move (.base rfl)) ?_
    refine jg_gd _ _ _ _ _ _ rfl rfl rfl rfl rfl (fun hg => op_index Try.underlying24 ty3 (.gd rfl hg) (.gd rfl hg) rfl (getD_some (z := (0 : Int)) (by first | omega | (simp; done) | (simp; omega) | (simp at hg; omega) | (simp at hg; simp; omega)))) ?_
    refine jg_gd _ _ _ _ _ _ rfl rfl rfl rfl rfl (fun hg => op_load ty3 (.gd rfl hg)) ?_
    refine jg_gd _ _ _ _ _ _ rfl rfl rfl rfl rfl (fun hg => op_move (.base rfl)) ?_
    refine jg_gd _ _ _ _ _ _ rfl rfl rfl rfl rfl (fun hg => op_geq (.gd rfl hg) (.gd rfl hg)) ?_
    refine jg_adr _ rfl _ rfl rfl (op_pick_and (.base rfl) (.base rfl) rfl (by intro h; first | (rw [h]; rfl) | simp_all)) ?_
    refine jg_nil ?_
    refine jn_keep [0, 1, 5, 6, 7, 23] [70] (.cons rfl (.cons rfl (.cons rfl (.cons rfl (.cons rfl (.cons rfl .nil)))))) (.cons rfl .nil) ?_
    refine jn_seq ?_
    refine j_cond rfl (fun h6 => ?_) (fun h6 => ?_)
    · have h4' : k < l.length := by omega
      have h6a : doneK l n k = false := by simp at h6; exact h6.1
      have h6b : n ≤ l[k] := by simp [h4'] at h6; exact h6.2
      refine j_seq (j_seq ?_)
      refine j_region ?_
      refine jg_adr _ rfl _ rfl rfl (op_move (.base rfl)) ?_
      refine jg_adr _ rfl _ rfl rfl (op_move (.base rfl)) ?_
      refine jg_adr _ rfl _ rfl rfl (op_index Try.underlying24 ty3 (.base rfl) (.base rfl) rfl (List.getElem?_eq_getElem (by first | omega | (simp; done) | (simp; omega) | (simp at hg; omega)))) ?_
      refine jg_adr _ rfl _ rfl rfl (op_load ty3 (.base rfl)) ?_
      refine jg_adr _ rfl _ rfl rfl (op_move (.base rfl)) ?_
      refine jg_adr _ rfl _ rfl rfl (op_gtr (.base rfl) (.base rfl)) ?_
      refine jg_nil ?_
      refine jn_keep [0, 1, 5, 7, 29] [70] (.cons rfl (.cons rfl (.cons rfl (.cons rfl (.cons rfl .nil))))) (.cons rfl .nil) ?_
      refine jn_seq ?_
      refine j_cond rfl (fun h7 => ?_) (fun h7 => ?_)
      · have hT := List.take_length (l := outK l n k)
        obtain ⟨hO, hB'⟩ := ins_A h4' h6a (by simpa using h7)
        have hB := hB'.symm
        rw [← out_false h6a] at hO
        refine j_region ?_
        refine jg_adr _ rfl _ rfl rfl (op_move (.base rfl)) ?_
        refine jg_adr _ rfl _ rfl rfl (op_move (.base rfl)) ?_
        refine jg_adr _ rfl _ rfl rfl (op_bslice (rt := (rInt .i64)) Try.underlying24 ty3 z3 rfl (.cons (.raw (.base rfl) rfl) .nil) rfl rfl) ?_
        refine jg_os _ rfl (op_append [0, 1, 7] Try.underlying24 ty3 z3 rfl by3 (.base rfl) rfl (by simp; try omega) (.tv (.base rfl)) (by unfold maxLen; simp; omega) (by simp; omega) rfl (.cons rfl (.cons rfl (.cons rfl .nil))) rfl) ?_
        refine jg_adr _ rfl _ rfl rfl (op_assign (.base rfl)) ?_
        refine jg_nil ?_
        refine jn_keep [0, 1, 5, 7] [70] (.cons rfl (.cons rfl (.cons rfl (.cons rfl .nil)))) (.cons rfl .nil) ?_
        refine jn_seq ?_
        refine j_region ?_
        refine jg_adr _ rfl _ rfl rfl (op_assign (.base rfl)) ?_
        refine jg_nil ?_
        refine jn_keep [0, 1, 5, 6, 7] [70] (.cons rfl (.cons rfl (.cons rfl (.cons rfl (.cons rfl .nil))))) (.cons rfl .nil) ?_
        refine jn_seq ?_
        refine j_region ?_
        refine jg_adr _ rfl _ rfl rfl (op_move (.base rfl)) ?_
        refine jg_adr _ rfl _ rfl rfl (op_move (.base rfl)) ?_
        refine jg_adr _ rfl _ rfl rfl (op_move (.base rfl)) ?_
        refine jg_adr _ rfl _ rfl rfl (op_index Try.underlying24 ty3 (.base rfl) (.base rfl) rfl (List.getElem?_eq_getElem (by first | omega | (simp; done) | (simp; omega) | (simp at hg; omega)))) ?_
        refine jg_adr _ rfl _ rfl rfl (op_load ty3 (.base rfl)) ?_
        refine jg_adr _ rfl _ rfl rfl (op_bslice (rt := (rInt .i64)) Try.underlying24 ty3 z3 rfl (.cons (.raw (.base rfl) rfl) .nil) rfl rfl) ?_
        refine jg_os _ rfl (op_append [0, 1, 6, 7] Try.underlying24 ty3 z3 rfl by3 (.base rfl) rfl (by simp; try omega) (.tv (.base rfl)) (by unfold maxLen; simp; omega) (by simp; omega) rfl (.cons rfl (.cons rfl (.cons rfl (.cons rfl .nil)))) rfl) ?_
        refine jg_adr _ rfl _ rfl rfl (op_assign (.base rfl)) ?_
        refine jg_nil ?_
        refine jn_keep [0, 1, 5, 6, 7] [70] (.cons rfl (.cons rfl (.cons rfl (.cons rfl (.cons rfl .nil))))) (.cons rfl .nil) ?_
        refine jn_blk (jn_seq ?_)
        refine j_region ?_
        refine jg_adr _ rfl _ rfl rfl (op_move (.base rfl)) ?_
        refine jg_adr _ rfl _ rfl rfl (op_add (.base rfl) (.base rfl) (w64 (by omega))) ?_
        refine jg_adr _ rfl _ rfl rfl (op_assign (.base rfl)) ?_
        refine jg_nil ?_
        refine jn_keep [0, 1, 5, 6, 7] [70] (.cons rfl (.cons rfl (.cons rfl (.cons rfl (.cons rfl .nil))))) (.cons rfl .nil) ?_
        exact jn_loop (fun a w hi => ⟨k + 1, (by omega), (by omega), Sub.inv ⟨(by repeat (first | exact SubS_nil | refine SubS_cons rfl (by first | rfl | exact congrArg (fun b => SV.raw (.bool b)) hB | exact congrArg (SV.own 70 (rInt .i64).n 0) (by rw [← hO]; simp; try omega)) ?_)), (by repeat (first | exact SubH_nil | refine SubH_cons rfl (by first | rfl | (refine congrArg (HB.mk (rInt .i64)) ?_; rw [← hO]; simp only [List.drop_zero, hT]; first | done | (rw [List.take_of_length_le (by simp)]; done))) ?_))⟩ hi⟩)
      · have hT := List.take_length (l := outK l n k)
        obtain ⟨hO, hB'⟩ := ins_B h4' h6a (by have := h6b; have := (by simpa using h7); omega)
        have hB := hB'.symm
        rw [← out_false h6a] at hO
        refine j_skip (jn_seq ?_)
        refine j_region ?_
        refine jg_adr _ rfl _ rfl rfl (op_assign (.base rfl)) ?_
        refine jg_nil ?_
        refine jn_keep [0, 1, 5, 6, 7] [70] (.cons rfl (.cons rfl (.cons rfl (.cons rfl (.cons rfl .nil))))) (.cons rfl .nil) ?_
        refine jn_seq ?_
        refine j_region ?_
        refine jg_adr _ rfl _ rfl rfl (op_move (.base rfl)) ?_
        refine jg_adr _ rfl _ rfl rfl (op_move (.base rfl)) ?_
        refine jg_adr _ rfl _ rfl rfl (op_move (.base rfl)) ?_
        refine jg_adr _ rfl _ rfl rfl (op_index Try.underlying24 ty3 (.base rfl) (.base rfl) rfl (List.getElem?_eq_getElem (by first | omega | (simp; done) | (simp; omega) | (simp at hg; omega)))) ?_
        refine jg_adr _ rfl _ rfl rfl (op_load ty3 (.base rfl)) ?_
        refine jg_adr _ rfl _ rfl rfl (op_bslice (rt := (rInt .i64)) Try.underlying24 ty3 z3 rfl (.cons (.raw (.base rfl) rfl) .nil) rfl rfl) ?_
        refine jg_os _ rfl (op_append [0, 1, 6, 7] Try.underlying24 ty3 z3 rfl by3 (.base rfl) rfl (by simp; try omega) (.tv (.base rfl)) (by unfold maxLen; simp; omega) (by simp; omega) rfl (.cons rfl (.cons rfl (.cons rfl (.cons rfl .nil)))) rfl) ?_
        refine jg_adr _ rfl _ rfl rfl (op_assign (.base rfl)) ?_
        refine jg_nil ?_
        refine jn_keep [0, 1, 5, 6, 7] [70] (.cons rfl (.cons rfl (.cons rfl (.cons rfl (.cons rfl .nil))))) (.cons rfl .nil) ?_
        refine jn_blk (jn_seq ?_)
        refine j_region ?_
        refine jg_adr _ rfl _ rfl rfl (op_move (.base rfl)) ?_
        refine jg_adr _ rfl _ rfl rfl (op_add (.base rfl) (.base rfl) (w64 (by omega))) ?_
        refine jg_adr _ rfl _ rfl rfl (op_assign (.base rfl)) ?_
        refine jg_nil ?_
        refine jn_keep [0, 1, 5, 6, 7] [70] (.cons rfl (.cons rfl (.cons rfl (.cons rfl (.cons rfl .nil))))) (.cons rfl .nil) ?_
        exact jn_loop (fun a w hi => ⟨k + 1, (by omega), (by omega), Sub.inv ⟨(by repeat (first | exact SubS_nil | refine SubS_cons rfl (by first | rfl | exact congrArg (fun b => SV.raw (.bool b)) hB | exact congrArg (SV.own 70 (rInt .i64).n 0) (by rw [← hO]; simp; try omega)) ?_)), (by repeat (first | exact SubH_nil | refine SubH_cons rfl (by first | rfl | (refine congrArg (HB.mk (rInt .i64)) ?_; rw [← hO]; simp only [List.drop_zero, hT]; first | done | (rw [List.take_of_length_le (by simp)]; done))) ?_))⟩ hi⟩)
    · have hT := List.take_length (l := outK l n k)
      have h4' : k < l.length := by omega
      obtain ⟨hO, hB'⟩ := ins_C (l := l) (n := n) h4' (by simp [h4'] at h6; by_cases hd : doneK l n k = true; exact .inl hd; exact .inr (by have := h6 (by simpa using hd); omega))
      have hB := hB'.symm
      refine j_skip (jn_seq ?_)
      refine j_region ?_
      refine jg_adr _ rfl _ rfl rfl (op_move (.base rfl)) ?_
      refine jg_adr _ rfl _ rfl rfl (op_move (.base rfl)) ?_
      refine jg_adr _ rfl _ rfl rfl (op_move (.base rfl)) ?_
      refine jg_adr _ rfl _ rfl rfl (op_index Try.underlying24 ty3 (.base rfl) (.base rfl) rfl (List.getElem?_eq_getElem (by first | omega | (simp; done) | (simp; omega) | (simp at hg; omega)))) ?_
      refine jg_adr _ rfl _ rfl rfl (op_load ty3 (.base rfl)) ?_
      refine jg_adr _ rfl _ rfl rfl (op_bslice (rt := (rInt .i64)) Try.underlying24 ty3 z3 rfl (.cons (.raw (.base rfl) rfl) .nil) rfl rfl) ?_
      refine jg_os _ rfl (op_append [0, 1, 6, 7] Try.underlying24 ty3 z3 rfl by3 (.base rfl) rfl (by simp; try omega) (.tv (.base rfl)) (by unfold maxLen; simp; omega) (by simp; omega) rfl (.cons rfl (.cons rfl (.cons rfl (.cons rfl .nil)))) rfl) ?_
      refine jg_adr _ rfl _ rfl rfl (op_assign (.base rfl)) ?_
      refine jg_nil ?_
      refine jn_keep [0, 1, 5, 6, 7] [70] (.cons rfl (.cons rfl (.cons rfl (.cons rfl (.cons rfl .nil))))) (.cons rfl .nil) ?_
      refine jn_blk (jn_seq ?_)
      refine j_region ?_
      refine jg_adr _ rfl _ rfl rfl (op_move (.base rfl)) ?_
      refine jg_adr _ rfl _ rfl rfl (op_add (.base rfl) (.base rfl) (w64 (by omega))) ?_
      refine jg_adr _ rfl _ rfl rfl (op_assign (.base rfl)) ?_
      refine jg_nil ?_
      refine jn_keep [0, 1, 5, 6, 7] [70] (.cons rfl (.cons rfl (.cons rfl (.cons rfl (.cons rfl .nil))))) (.cons rfl .nil) ?_
      exact jn_loop (fun a w hi => ⟨k + 1, (by omega), (by omega), Sub.inv ⟨(by repeat (first | exact SubS_nil | refine SubS_cons rfl (by first | rfl | exact congrArg (fun b => SV.raw (.bool b)) hB | exact congrArg (SV.own 70 (rInt .i64).n 0) (by rw [← hO]; simp; try omega)) ?_)), (by repeat (first | exact SubH_nil | refine SubH_cons rfl (by first | rfl | (refine congrArg (HB.mk (rInt .i64)) ?_; rw [← hO]; simp only [List.drop_zero, hT]; first | done | (rw [List.take_of_length_le (by simp)]; done))) ?_))⟩ hi⟩)
  · try simp at h4
    refine j_exit (je_seq (je_loop (je_blk (jn_seq (j_seq (j_seq ?_))))))
    have hkl : k = l.length := by omega
    subst hkl
    obtain ⟨oe1, oe2⟩ := out_end (l := l) (n := n)
    refine j_region ?_
    refine jg_adr _ rfl _ rfl rfl (op_move (.base rfl)) ?_
    refine jg_adr _ rfl _ rfl rfl (op_not (.base rfl)) ?_
    refine jg_nil ?_
    refine jn_keep [1, 5, 42] [70] (.cons rfl (.cons rfl (.cons rfl .nil))) (.cons rfl .nil) ?_
    refine jn_seq ?_
    refine j_cond rfl (fun h11 => ?_) (fun h11 => ?_)
    · try simp at h11
      refine j_region ?_
      refine jg_adr _ rfl _ rfl rfl (op_move (.base rfl)) ?_
      refine jg_adr _ rfl _ rfl rfl (op_move (.base rfl)) ?_
      refine jg_adr _ rfl _ rfl rfl (op_bslice (rt := (rInt .i64)) Try.underlying24 ty3 z3 rfl (.cons (.raw (.base rfl) rfl) .nil) rfl rfl) ?_
      refine jg_os _ rfl (op_append [] Try.underlying24 ty3 z3 rfl by3 (.base rfl) rfl (by simp; try omega) (.tv (.base rfl)) (by unfold maxLen; simp; omega) (by simp; omega) rfl .nil rfl) ?_
      refine jg_adr _ rfl _ rfl rfl (op_assign (.base rfl)) ?_
      refine jg_nil ?_
      refine jn_keep [5] [70] (.cons rfl .nil) (.cons rfl .nil) ?_
      refine jn_seq (j_seq ?_)
      refine j_region ?_
      refine jg_adr _ rfl _ rfl rfl (op_move (.base rfl)) ?_
      refine jg_adr _ rfl _ rfl rfl (op_assign (.base rfl)) ?_
      refine jg_nil ?_
      refine jn_keep [4] [70] (.cons rfl .nil) (.cons rfl .nil) ?_
      refine jn_seq (j_ret ?_)
      refine jr_seal (rt := rInt .i64) 70 4 (dropH 70 _) rfl rfl (by simp; try omega) (dropH_sub 70 _) (dropH_no 70 _) ?_
      exact jr_fin1 Try.results27 (res_tmp rfl) rfl (congrArg (SV.tv (rSlice (rInt .i64))) (by (try simp at h11); first | (rw [List.drop_zero, List.take_of_length_le (Nat.le_refl _)]; exact oe1 h11) | (rw [List.drop_zero, List.drop_zero, List.take_of_length_le (Nat.le_refl _), List.take_of_length_le (by simp)]; exact oe2 h11)))
    · try simp at h11
      refine j_skip (jn_seq (j_seq ?_))
      refine j_region ?_
      refine jg_adr _ rfl _ rfl rfl (op_move (.base rfl)) ?_
      refine jg_adr _ rfl _ rfl rfl (op_assign (.base rfl)) ?_
      refine jg_nil ?_
      refine jn_keep [4] [70] (.cons rfl .nil) (.cons rfl .nil) ?_
      refine jn_seq (j_ret ?_)
      refine jr_seal (rt := rInt .i64) 70 4 (dropH 70 _) rfl rfl (by simp; try omega) (dropH_sub 70 _) (dropH_no 70 _) ?_
      exact jr_fin1 Try.results27 (res_tmp rfl) rfl (congrArg (SV.tv (rSlice (rInt .i64))) (by (try simp at h11); first | (rw [List.drop_zero, List.take_of_length_le (Nat.le_refl _)]; exact oe1 h11) | (rw [List.drop_zero, List.drop_zero, List.take_of_length_le (Nat.le_refl _), List.take_of_length_le (by simp)]; exact oe2 h11)))

end Go.Proofs.Ytkbljpjbocdhdaa
