import Derived.Test.YtemcooggkcneiaaTurns
import Derived.Test.YtemcooggkcneiaaEngH
import Derived.Test.YtemcooggkcneiaaFacts
import Derived.Test.YtemcooggkcneiaaSame
namespace Go.Proofs.Ytemcooggkcneiaa
open Go.Eng
set_option maxRecDepth 100000
set_option maxHeartbeats 4000000
set_option linter.unusedVariables false
set_option linter.unusedSimpArgs false


def doneK (l : List Int) (n : Int) (k : Nat) : Bool := (l.take k).any (fun y => decide (n ≤ y))
def outK (l : List Int) (n : Int) (k : Nat) : List Int := if doneK l n k = true then insU n (l.take k) else l.take k
theorem insU_lt {n : Int} : ∀ {a b : List Int}, (∀ y ∈ a, y < n) → insU n (a ++ b) = a ++ insU n b
  | [], b, _ => rfl
  | y :: a, b, h => by
    have h1 := h y (by simp)
    rw [List.cons_append, insU, if_neg (by omega), if_neg (by omega), insU_lt (fun z hz => h z (by simp [hz]))]; rfl
theorem insU_any {n : Int} : ∀ {a b : List Int}, a.any (fun y => decide (n ≤ y)) = true → insU n (a ++ b) = insU n a ++ b
  | y :: a, b, h => by
    rw [List.cons_append, insU, insU]
    split
    · rfl
    · split
      · rfl
      · rename_i h1 h2
        simp only [List.any_cons, Bool.or_eq_true, decide_eq_true_eq] at h
        rw [insU_any (h.resolve_left (by omega))]; rfl
theorem done_false {l : List Int} {n : Int} {k : Nat} (h : doneK l n k = false) : ∀ y ∈ l.take k, y < n := fun y hy => by
  have := List.any_eq_false.1 h y hy; simpa using this
theorem done_succ {l : List Int} {n : Int} {k : Nat} (hk : k < l.length) : doneK l n (k + 1) = (doneK l n k || decide (n ≤ l[k])) := by
  unfold doneK; rw [← List.take_append_getElem hk, List.any_append]; simp
theorem ins_A {l : List Int} {n : Int} {k : Nat} (hk : k < l.length) (h : doneK l n k = false) (hg : n < l[k]) : l.take k ++ [n] ++ [l[k]] = outK l n (k + 1) ∧ doneK l n (k + 1) = true := by
  have hd : doneK l n (k + 1) = true := by rw [done_succ hk]; simp; omega
  refine ⟨?_, hd⟩
  rw [outK, if_pos hd, ← List.take_append_getElem hk, insU_lt (done_false h), insU, if_pos hg]; simp
theorem ins_B {l : List Int} {n : Int} {k : Nat} (hk : k < l.length) (h : doneK l n k = false) (hg : n = l[k]) : l.take k ++ [l[k]] = outK l n (k + 1) ∧ doneK l n (k + 1) = true := by
  have hd : doneK l n (k + 1) = true := by rw [done_succ hk]; simp; omega
  refine ⟨?_, hd⟩
  rw [outK, if_pos hd, ← List.take_append_getElem hk, insU_lt (done_false h), insU, if_neg (by omega), if_pos hg]
theorem ins_C {l : List Int} {n : Int} {k : Nat} (hk : k < l.length) (h : doneK l n k = true ∨ l[k] < n) : outK l n k ++ [l[k]] = outK l n (k + 1) ∧ doneK l n (k + 1) = doneK l n k := by
  cases hd : doneK l n k with
  | true =>
    have hd2 : doneK l n (k + 1) = true := by rw [done_succ hk, hd]; rfl
    refine ⟨?_, hd2⟩
    rw [outK, if_pos hd, outK, if_pos hd2, ← List.take_append_getElem hk, insU_any hd]
  | false =>
    have h := h.resolve_left (by simp [hd])
    have hd2 : doneK l n (k + 1) = false := by rw [done_succ hk, hd]; simp; omega
    refine ⟨?_, hd2⟩
    rw [outK, if_neg (by simp [hd]), outK, if_neg (by simp [hd2]), List.take_append_getElem hk]
theorem out_false {l : List Int} {n : Int} {k : Nat} (h : doneK l n k = false) : outK l n k = l.take k := by rw [outK, if_neg (by simp [h])]
theorem out_end {l : List Int} {n : Int} : (doneK l n l.length = true → outK l n l.length = insU n l) ∧ (doneK l n l.length = false → outK l n l.length ++ [n] = insU n l) := by
  refine ⟨fun h => ?_, fun h => ?_⟩
  · rw [outK, if_pos h, List.take_of_length_le (Nat.le_refl _)]
  · have := insU_lt (b := []) (done_false h)
    rw [out_false h]
    rw [List.take_of_length_le (Nat.le_refl _), List.append_nil] at this
    rw [List.take_of_length_le (Nat.le_refl _), this]; rfl
theorem out_len {l : List Int} {n : Int} {k : Nat} : (outK l n k).length ≤ l.length + 1 := by
  have hI : ∀ (a : List Int), (insU n a).length ≤ a.length + 1 := by
    intro a; induction a with
    | nil => simp [insU]
    | cons y r ih => unfold insU; (repeat' split) <;> simp <;> omega
  unfold outK; split
  · have := hI (l.take k); simp at this ⊢; omega
  · simp; omega

theorem rinsert_ok (l : List Int) (n : Int) (hlm : l.length ≤ 1000000) : Ct Try.prog 43 [.tv (rSlice (rInt .i64)) l, .raw (.int .i64 n)] (.tv (rSlice (rInt .i64)) (insU n l)) := by
  refine ct_intro Try.func43 rfl rfl Try.ntmps43 rfl rfl ?_
  intro w0 ok0
  refine j_seq ?_
  refine j_region ?_
  refine jg_adr _ rfl _ rfl rfl (op_assign (.base rfl)) ?_
  refine jg_nil ?_
  refine jn_keep [0, 1] [] (.cons rfl (.cons rfl .nil)) .nil ?_
  refine jn_seq (j_seq ?_)
  refine j_region ?_
  refine jg_adr _ rfl _ rfl rfl (op_assign (.base rfl)) ?_
  refine jg_nil ?_
  refine jn_keep [0, 1, 5] [] (.cons rfl (.cons rfl (.cons rfl .nil))) .nil ?_
  refine jn_seq (j_seq ?_)
  refine j_region ?_
  refine jg_adr _ rfl _ rfl rfl (op_assign (.base rfl)) ?_
  refine jg_nil ?_
  refine jn_keep [0, 1, 5, 6] [] (.cons rfl (.cons rfl (.cons rfl (.cons rfl .nil)))) .nil ?_
  refine jn_seq (j_seq (j_seq ?_))
  refine j_region ?_
  refine jg_adr _ rfl _ rfl rfl (op_assign (.base rfl)) ?_
  refine jg_nil ?_
  refine jn_keep [0, 1, 5, 6, 7] [] (.cons rfl (.cons rfl (.cons rfl (.cons rfl (.cons rfl .nil))))) .nil ?_
  refine jn_seq (j_block ?_)
  refine j_vac 70 5 (rInt .i64) rfl rfl rfl ?_
  refine j_loopp (ι := Nat) (fun k => ⟨[(0, .tv (rSlice (rInt .i64)) l), (1, .raw (.int .i64 (n))), (5, .own 70 (rInt .i64).n 0 (outK l n k).length), (6, .raw (.bool (doneK l n k))), (7, .raw (.int .i64 ((k : Nat))))], [(70, ⟨rInt .i64, outK l n k⟩)]⟩) (fun k => k ≤ l.length) (fun k => l.length - k) 0 (Nat.zero_le _) (fun a w hi => (Sub.inv ⟨(by repeat (first | exact SubS_nil | refine SubS_cons rfl (by first | rfl | (simp; done) | assumption) ?_)), (by repeat (first | exact SubH_nil | refine SubH_cons rfl (by first | rfl | (simp; done) | assumption) ?_))⟩ hi)) ?_
  rintro k hk
  have hol := out_len (l := l) (n := n) (k := k)
  refine j_seq (j_seq ?_)
  refine j_region ?_
  refine jg_adr _ rfl _ rfl rfl (op_move (.base rfl)) ?_
  refine jg_adr _ rfl _ rfl rfl (op_move (.base rfl)) ?_
  refine jg_adr _ rfl _ rfl rfl (op_len Try.underlying28 (.base rfl)) ?_
  refine jg_adr _ rfl _ rfl rfl (op_lss (.base rfl) (.base rfl)) ?_
  refine jg_nil ?_
  refine jn_keep [0, 1, 5, 6, 7, 11] [70] (.cons rfl (.cons rfl (.cons rfl (.cons rfl (.cons rfl (.cons rfl .nil)))))) (.cons rfl .nil) ?_
  refine jn_seq ?_
  refine j_cond rfl (fun h4 => ?_) (fun h4 => ?_)
  · try simp at h4
    refine j_skip (jn_seq (j_seq (j_block (j_seq (j_seq ?_)))))
    refine j_region ?_
    refine jg_adr _ rfl _ rfl rfl (op_move (.base rfl)) ?_
    refine jg_adr _ rfl _ rfl rfl (op_not (.base rfl)) ?_
    refine jg_adr _ rfl _ rfl rfl (op_move (.base rfl)) ?_
    refine jg_gd _ _ _ _ _ _ rfl rfl rfl rfl rfl (fun hg => op_move (.base rfl)) ?_
    refine jg_gd _ _ _ _ _ _ rfl rfl rfl rfl rfl (fun hg => op_move (.base rfl)) ?_
    refine jg_gd _ _ _ _ _ _ rfl rfl rfl rfl rfl (fun hg => op_index Try.underlying28 ty3 (.gd rfl hg) (.gd rfl hg) rfl (getD_some (z := (0 : Int)) (by first | omega | (simp; done) | (simp; omega) | (simp at hg; omega) | (simp at hg; simp; omega)))) ?_
    refine jg_gd _ _ _ _ _ _ rfl rfl rfl rfl rfl (fun hg => op_load ty3 (.gd rfl hg)) ?_
    refine jg_gd _ _ _ _ _ _ rfl rfl rfl rfl rfl (fun hg => op_move (.base rfl)) ?_
    refine jg_gd _ _ _ _ _ _ rfl rfl rfl rfl rfl (fun hg => op_geq (.gd rfl hg) (.gd rfl hg)) ?_
    refine jg_adr _ rfl _ rfl rfl (op_pick_and (.base rfl) (.base rfl) rfl (by intro h; first | (rw [h]; rfl) | (rw [hg, h]; rfl) | (rw [h, hg]; rfl) | simp_all)) ?_
    refine jg_nil ?_
    refine jn_keep [0, 1, 5, 6, 7, 23] [70] (.cons rfl (.cons rfl (.cons rfl (.cons rfl (.cons rfl (.cons rfl .nil)))))) (.cons rfl .nil) ?_
    refine jn_seq ?_
    refine j_cond rfl (fun h6 => ?_) (fun h6 => ?_)
    · have h4' : k < l.length := by omega
      have h6a : doneK l n k = false := by simp at h6; exact h6.1
      have h6b : n ≤ l[k] := by simp [h4'] at h6; exact h6.2
      refine j_seq (j_seq ?_)
      refine j_region ?_
      refine jg_adr _ rfl _ rfl rfl (op_move (.base rfl)) ?_
      refine jg_adr _ rfl _ rfl rfl (op_move (.base rfl)) ?_
      refine jg_adr _ rfl _ rfl rfl (op_index Try.underlying28 ty3 (.base rfl) (.base rfl) rfl (List.getElem?_eq_getElem (by first | omega | (simp; done) | (simp; omega) | (simp at hg; omega)))) ?_
      refine jg_adr _ rfl _ rfl rfl (op_load ty3 (.base rfl)) ?_
      refine jg_adr _ rfl _ rfl rfl (op_move (.base rfl)) ?_
      refine jg_adr _ rfl _ rfl rfl (op_gtr (.base rfl) (.base rfl)) ?_
      refine jg_nil ?_
      refine jn_keep [0, 1, 5, 7, 29] [70] (.cons rfl (.cons rfl (.cons rfl (.cons rfl (.cons rfl .nil))))) (.cons rfl .nil) ?_
      refine jn_seq ?_
      refine j_cond rfl (fun h7 => ?_) (fun h7 => ?_)
      · have hT := List.take_length (l := outK l n k)
        obtain ⟨hO, hB'⟩ := ins_A h4' h6a (by simpa using h7)
        have hB := hB'.symm
        rw [← out_false h6a] at hO
        refine j_region ?_
        refine jg_adr _ rfl _ rfl rfl (op_move (.base rfl)) ?_
        refine jg_adr _ rfl _ rfl rfl (op_move (.base rfl)) ?_
        refine jg_adr _ rfl _ rfl rfl (op_bslice (rt := (rInt .i64)) Try.underlying28 ty3 z3 rfl (.cons (.raw (.base rfl) rfl) .nil) rfl rfl) ?_
        refine jg_os _ rfl (op_append [0, 1, 7] Try.underlying28 ty3 z3 rfl by3 (.base rfl) rfl (by (try simp); try omega) (.tv (.base rfl)) (by unfold maxLen; (try simp); try omega) (by (try simp); try omega) rfl (.cons rfl (.cons rfl (.cons rfl .nil))) rfl) ?_
        refine jg_adr _ rfl _ rfl rfl (op_assign (.base rfl)) ?_
        refine jg_nil ?_
        refine jn_keep [0, 1, 5, 7] [70] (.cons rfl (.cons rfl (.cons rfl (.cons rfl .nil)))) (.cons rfl .nil) ?_
        refine jn_seq ?_
        refine j_region ?_
        refine jg_adr _ rfl _ rfl rfl (op_assign (.base rfl)) ?_
        refine jg_nil ?_
        refine jn_keep [0, 1, 5, 6, 7] [70] (.cons rfl (.cons rfl (.cons rfl (.cons rfl (.cons rfl .nil))))) (.cons rfl .nil) ?_
        refine jn_seq ?_
        refine j_region ?_
        refine jg_adr _ rfl _ rfl rfl (op_move (.base rfl)) ?_
        refine jg_adr _ rfl _ rfl rfl (op_move (.base rfl)) ?_
        refine jg_adr _ rfl _ rfl rfl (op_move (.base rfl)) ?_
        refine jg_adr _ rfl _ rfl rfl (op_index Try.underlying28 ty3 (.base rfl) (.base rfl) rfl (List.getElem?_eq_getElem (by first | omega | (simp; done) | (simp; omega) | (simp at hg; omega)))) ?_
        refine jg_adr _ rfl _ rfl rfl (op_load ty3 (.base rfl)) ?_
        refine jg_adr _ rfl _ rfl rfl (op_bslice (rt := (rInt .i64)) Try.underlying28 ty3 z3 rfl (.cons (.raw (.base rfl) rfl) .nil) rfl rfl) ?_
        refine jg_os _ rfl (op_append [0, 1, 6, 7] Try.underlying28 ty3 z3 rfl by3 (.base rfl) rfl (by (try simp); try omega) (.tv (.base rfl)) (by unfold maxLen; (try simp); try omega) (by (try simp); try omega) rfl (.cons rfl (.cons rfl (.cons rfl (.cons rfl .nil)))) rfl) ?_
        refine jg_adr _ rfl _ rfl rfl (op_assign (.base rfl)) ?_
        refine jg_nil ?_
        refine jn_keep [0, 1, 5, 6, 7] [70] (.cons rfl (.cons rfl (.cons rfl (.cons rfl (.cons rfl .nil))))) (.cons rfl .nil) ?_
        refine jn_blk (jn_seq ?_)
        refine j_region ?_
        refine jg_adr _ rfl _ rfl rfl (op_move (.base rfl)) ?_
        refine jg_adr _ rfl _ rfl rfl (op_add (.base rfl) (.base rfl) (w64 (by omega))) ?_
        refine jg_adr _ rfl _ rfl rfl (op_assign (.base rfl)) ?_
        refine jg_nil ?_
        refine jn_keep [0, 1, 5, 6, 7] [70] (.cons rfl (.cons rfl (.cons rfl (.cons rfl (.cons rfl .nil))))) (.cons rfl .nil) ?_
        exact jn_loop (fun a w hi => ⟨k + 1, (by omega), (by omega), Sub.inv ⟨(by repeat (first | exact SubS_nil | refine SubS_cons rfl (by first | rfl | exact congrArg (fun b => SV.raw (.bool b)) hB | exact congrArg (SV.own 70 (rInt .i64).n 0) (by rw [← hO]; simp; try omega)) ?_)), (by repeat (first | exact SubH_nil | refine SubH_cons rfl (by first | rfl | (refine congrArg (HB.mk (rInt .i64)) ?_; rw [← hO]; simp only [List.drop_zero, hT]; first | done | (rw [List.take_of_length_le (by simp)]; done))) ?_))⟩ hi⟩)
      · have hT := List.take_length (l := outK l n k)
        obtain ⟨hO, hB'⟩ := ins_B h4' h6a (by have := h6b; have := (by simpa using h7); omega)
        have hB := hB'.symm
        rw [← out_false h6a] at hO
        refine j_skip (jn_seq ?_)
        refine j_region ?_
        refine jg_adr _ rfl _ rfl rfl (op_assign (.base rfl)) ?_
        refine jg_nil ?_
        refine jn_keep [0, 1, 5, 6, 7] [70] (.cons rfl (.cons rfl (.cons rfl (.cons rfl (.cons rfl .nil))))) (.cons rfl .nil) ?_
        refine jn_seq ?_
        refine j_region ?_
        refine jg_adr _ rfl _ rfl rfl (op_move (.base rfl)) ?_
        refine jg_adr _ rfl _ rfl rfl (op_move (.base rfl)) ?_
        refine jg_adr _ rfl _ rfl rfl (op_move (.base rfl)) ?_
        refine jg_adr _ rfl _ rfl rfl (op_index Try.underlying28 ty3 (.base rfl) (.base rfl) rfl (List.getElem?_eq_getElem (by first | omega | (simp; done) | (simp; omega) | (simp at hg; omega)))) ?_
        refine jg_adr _ rfl _ rfl rfl (op_load ty3 (.base rfl)) ?_
        refine jg_adr _ rfl _ rfl rfl (op_bslice (rt := (rInt .i64)) Try.underlying28 ty3 z3 rfl (.cons (.raw (.base rfl) rfl) .nil) rfl rfl) ?_
        refine jg_os _ rfl (op_append [0, 1, 6, 7] Try.underlying28 ty3 z3 rfl by3 (.base rfl) rfl (by (try simp); try omega) (.tv (.base rfl)) (by unfold maxLen; (try simp); try omega) (by (try simp); try omega) rfl (.cons rfl (.cons rfl (.cons rfl (.cons rfl .nil)))) rfl) ?_
        refine jg_adr _ rfl _ rfl rfl (op_assign (.base rfl)) ?_
        refine jg_nil ?_
        refine jn_keep [0, 1, 5, 6, 7] [70] (.cons rfl (.cons rfl (.cons rfl (.cons rfl (.cons rfl .nil))))) (.cons rfl .nil) ?_
        refine jn_blk (jn_seq ?_)
        refine j_region ?_
        refine jg_adr _ rfl _ rfl rfl (op_move (.base rfl)) ?_
        refine jg_adr _ rfl _ rfl rfl (op_add (.base rfl) (.base rfl) (w64 (by omega))) ?_
        refine jg_adr _ rfl _ rfl rfl (op_assign (.base rfl)) ?_
        refine jg_nil ?_
        refine jn_keep [0, 1, 5, 6, 7] [70] (.cons rfl (.cons rfl (.cons rfl (.cons rfl (.cons rfl .nil))))) (.cons rfl .nil) ?_
        exact jn_loop (fun a w hi => ⟨k + 1, (by omega), (by omega), Sub.inv ⟨(by repeat (first | exact SubS_nil | refine SubS_cons rfl (by first | rfl | exact congrArg (fun b => SV.raw (.bool b)) hB | exact congrArg (SV.own 70 (rInt .i64).n 0) (by rw [← hO]; simp; try omega)) ?_)), (by repeat (first | exact SubH_nil | refine SubH_cons rfl (by first | rfl | (refine congrArg (HB.mk (rInt .i64)) ?_; rw [← hO]; simp only [List.drop_zero, hT]; first | done | (rw [List.take_of_length_le (by simp)]; done))) ?_))⟩ hi⟩)
    · have hT := List.take_length (l := outK l n k)
      have h4' : k < l.length := by omega
      obtain ⟨hO, hB'⟩ := ins_C (l := l) (n := n) h4' (by simp [h4'] at h6; by_cases hd : doneK l n k = true; exact .inl hd; exact .inr (by have := h6 (by simpa using hd); omega))
      have hB := hB'.symm
      refine j_skip (jn_seq ?_)
      refine j_region ?_
      refine jg_adr _ rfl _ rfl rfl (op_move (.base rfl)) ?_
      refine jg_adr _ rfl _ rfl rfl (op_move (.base rfl)) ?_
      refine jg_adr _ rfl _ rfl rfl (op_move (.base rfl)) ?_
      refine jg_adr _ rfl _ rfl rfl (op_index Try.underlying28 ty3 (.base rfl) (.base rfl) rfl (List.getElem?_eq_getElem (by first | omega | (simp; done) | (simp; omega) | (simp at hg; omega)))) ?_
      refine jg_adr _ rfl _ rfl rfl (op_load ty3 (.base rfl)) ?_
      refine jg_adr _ rfl _ rfl rfl (op_bslice (rt := (rInt .i64)) Try.underlying28 ty3 z3 rfl (.cons (.raw (.base rfl) rfl) .nil) rfl rfl) ?_
      refine jg_os _ rfl (op_append [0, 1, 6, 7] Try.underlying28 ty3 z3 rfl by3 (.base rfl) rfl (by (try simp); try omega) (.tv (.base rfl)) (by unfold maxLen; (try simp); try omega) (by (try simp); try omega) rfl (.cons rfl (.cons rfl (.cons rfl (.cons rfl .nil)))) rfl) ?_
      refine jg_adr _ rfl _ rfl rfl (op_assign (.base rfl)) ?_
      refine jg_nil ?_
      refine jn_keep [0, 1, 5, 6, 7] [70] (.cons rfl (.cons rfl (.cons rfl (.cons rfl (.cons rfl .nil))))) (.cons rfl .nil) ?_
      refine jn_blk (jn_seq ?_)
      refine j_region ?_
      refine jg_adr _ rfl _ rfl rfl (op_move (.base rfl)) ?_
      refine jg_adr _ rfl _ rfl rfl (op_add (.base rfl) (.base rfl) (w64 (by omega))) ?_
      refine jg_adr _ rfl _ rfl rfl (op_assign (.base rfl)) ?_
      refine jg_nil ?_
      refine jn_keep [0, 1, 5, 6, 7] [70] (.cons rfl (.cons rfl (.cons rfl (.cons rfl (.cons rfl .nil))))) (.cons rfl .nil) ?_
      exact jn_loop (fun a w hi => ⟨k + 1, (by omega), (by omega), Sub.inv ⟨(by repeat (first | exact SubS_nil | refine SubS_cons rfl (by first | rfl | exact congrArg (fun b => SV.raw (.bool b)) hB | exact congrArg (SV.own 70 (rInt .i64).n 0) (by rw [← hO]; simp; try omega)) ?_)), (by repeat (first | exact SubH_nil | refine SubH_cons rfl (by first | rfl | (refine congrArg (HB.mk (rInt .i64)) ?_; rw [← hO]; simp only [List.drop_zero, hT]; first | done | (rw [List.take_of_length_le (by simp)]; done))) ?_))⟩ hi⟩)
  · try simp at h4
    refine j_exit (je_seq (je_loop (je_blk (jn_seq (j_seq (j_seq ?_))))))
    have hkl : k = l.length := by omega
    subst hkl
    obtain ⟨oe1, oe2⟩ := out_end (l := l) (n := n)
    refine j_region ?_
    refine jg_adr _ rfl _ rfl rfl (op_move (.base rfl)) ?_
    refine jg_adr _ rfl _ rfl rfl (op_not (.base rfl)) ?_
    refine jg_nil ?_
    refine jn_keep [1, 5, 42] [70] (.cons rfl (.cons rfl (.cons rfl .nil))) (.cons rfl .nil) ?_
    refine jn_seq ?_
    refine j_cond rfl (fun h11 => ?_) (fun h11 => ?_)
    · try simp at h11
      refine j_region ?_
      refine jg_adr _ rfl _ rfl rfl (op_move (.base rfl)) ?_
      refine jg_adr _ rfl _ rfl rfl (op_move (.base rfl)) ?_
      refine jg_adr _ rfl _ rfl rfl (op_bslice (rt := (rInt .i64)) Try.underlying28 ty3 z3 rfl (.cons (.raw (.base rfl) rfl) .nil) rfl rfl) ?_
      refine jg_os _ rfl (op_append [] Try.underlying28 ty3 z3 rfl by3 (.base rfl) rfl (by (try simp); try omega) (.tv (.base rfl)) (by unfold maxLen; (try simp); try omega) (by (try simp); try omega) rfl .nil rfl) ?_
      refine jg_adr _ rfl _ rfl rfl (op_assign (.base rfl)) ?_
      refine jg_nil ?_
      refine jn_keep [5] [70] (.cons rfl .nil) (.cons rfl .nil) ?_
      refine jn_seq (j_seq ?_)
      refine j_region ?_
      refine jg_adr _ rfl _ rfl rfl (op_move (.base rfl)) ?_
      refine jg_adr _ rfl _ rfl rfl (op_assign (.base rfl)) ?_
      refine jg_nil ?_
      refine jn_keep [4] [70] (.cons rfl .nil) (.cons rfl .nil) ?_
      refine jn_seq (j_ret ?_)
      refine jr_seal (rt := rInt .i64) 70 4 (dropH 70 _) rfl rfl (by simp; try omega) (dropH_sub 70 _) (dropH_no 70 _) ?_
      exact jr_fin1 Try.results43 (res_tmp rfl) rfl (congrArg (SV.tv (rSlice (rInt .i64))) (by (try simp at h11); first | (rw [List.drop_zero, List.take_of_length_le (Nat.le_refl _)]; exact oe1 h11) | (rw [List.drop_zero, List.drop_zero, List.take_of_length_le (Nat.le_refl _), List.take_of_length_le (by simp)]; exact oe2 h11)))
    · try simp at h11
      refine j_skip (jn_seq (j_seq ?_))
      refine j_region ?_
      refine jg_adr _ rfl _ rfl rfl (op_move (.base rfl)) ?_
      refine jg_adr _ rfl _ rfl rfl (op_assign (.base rfl)) ?_
      refine jg_nil ?_
      refine jn_keep [4] [70] (.cons rfl .nil) (.cons rfl .nil) ?_
      refine jn_seq (j_ret ?_)
      refine jr_seal (rt := rInt .i64) 70 4 (dropH 70 _) rfl rfl (by simp; try omega) (dropH_sub 70 _) (dropH_no 70 _) ?_
      exact jr_fin1 Try.results43 (res_tmp rfl) rfl (congrArg (SV.tv (rSlice (rInt .i64))) (by (try simp at h11); first | (rw [List.drop_zero, List.take_of_length_le (Nat.le_refl _)]; exact oe1 h11) | (rw [List.drop_zero, List.drop_zero, List.take_of_length_le (Nat.le_refl _), List.take_of_length_le (by simp)]; exact oe2 h11)))

theorem rins16_ok (l : List Int) (n : Int) (hlm : l.length ≤ 1000000) : Ct Try.prog 37 [.tv (rSlice (rInt .i64)) l, .raw (.int .i64 n)] (.tv (rSlice (rInt .i64)) (insU n l)) := by
  refine ct_intro Try.func37 rfl rfl Try.ntmps37 rfl rfl ?_
  intro w0 ok0
  refine j_seq ?_
  refine j_region ?_
  refine jg_adr _ rfl _ rfl rfl (op_assign (.base rfl)) ?_
  refine jg_nil ?_
  refine jn_keep [0, 1] [] (.cons rfl (.cons rfl .nil)) .nil ?_
  refine jn_seq (j_seq ?_)
  refine j_region ?_
  refine jg_adr _ rfl _ rfl rfl (op_assign (.base rfl)) ?_
  refine jg_nil ?_
  refine jn_keep [0, 1, 5] [] (.cons rfl (.cons rfl (.cons rfl .nil))) .nil ?_
  refine jn_seq (j_seq ?_)
  refine j_region ?_
  refine jg_adr _ rfl _ rfl rfl (op_assign (.base rfl)) ?_
  refine jg_nil ?_
  refine jn_keep [0, 1, 5, 6] [] (.cons rfl (.cons rfl (.cons rfl (.cons rfl .nil)))) .nil ?_
  refine jn_seq (j_seq (j_seq ?_))
  refine j_region ?_
  refine jg_adr _ rfl _ rfl rfl (op_assign (.base rfl)) ?_
  refine jg_nil ?_
  refine jn_keep [0, 1, 5, 6, 7] [] (.cons rfl (.cons rfl (.cons rfl (.cons rfl (.cons rfl .nil))))) .nil ?_
  refine jn_seq (j_block ?_)
  refine j_vac 70 5 (rInt .i64) rfl rfl rfl ?_
  refine j_loopp (ι := Nat) (fun k => ⟨[(0, .tv (rSlice (rInt .i64)) l), (1, .raw (.int .i64 (n))), (5, .own 70 (rInt .i64).n 0 (outK l n k).length), (6, .raw (.bool (doneK l n k))), (7, .raw (.int .i64 ((k : Nat))))], [(70, ⟨rInt .i64, outK l n k⟩)]⟩) (fun k => k ≤ l.length) (fun k => l.length - k) 0 (Nat.zero_le _) (fun a w hi => (Sub.inv ⟨(by repeat (first | exact SubS_nil | refine SubS_cons rfl (by first | rfl | (simp; done) | assumption) ?_)), (by repeat (first | exact SubH_nil | refine SubH_cons rfl (by first | rfl | (simp; done) | assumption) ?_))⟩ hi)) ?_
  rintro k hk
  have hol := out_len (l := l) (n := n) (k := k)
  refine j_seq (j_seq ?_)
  refine j_region ?_
  refine jg_adr _ rfl _ rfl rfl (op_move (.base rfl)) ?_
  refine jg_adr _ rfl _ rfl rfl (op_move (.base rfl)) ?_
  refine jg_adr _ rfl _ rfl rfl (op_len Try.underlying28 (.base rfl)) ?_
  refine jg_adr _ rfl _ rfl rfl (op_lss (.base rfl) (.base rfl)) ?_
  refine jg_nil ?_
  refine jn_keep [0, 1, 5, 6, 7, 11] [70] (.cons rfl (.cons rfl (.cons rfl (.cons rfl (.cons rfl (.cons rfl .nil)))))) (.cons rfl .nil) ?_
  refine jn_seq ?_
  refine j_cond rfl (fun h4 => ?_) (fun h4 => ?_)
  · try simp at h4
    refine j_skip (jn_seq (j_seq (j_block (j_seq (j_seq ?_)))))
    refine j_region ?_
    refine jg_adr _ rfl _ rfl rfl (op_move (.base rfl)) ?_
    refine jg_adr _ rfl _ rfl rfl (op_not (.base rfl)) ?_
    refine jg_adr _ rfl _ rfl rfl (op_move (.base rfl)) ?_
    refine jg_gd _ _ _ _ _ _ rfl rfl rfl rfl rfl (fun hg => op_move (.base rfl)) ?_
    refine jg_gd _ _ _ _ _ _ rfl rfl rfl rfl rfl (fun hg => op_move (.base rfl)) ?_
    refine jg_gd _ _ _ _ _ _ rfl rfl rfl rfl rfl (fun hg => op_index Try.underlying28 ty3 (.gd rfl hg) (.gd rfl hg) rfl (getD_some (z := (0 : Int)) (by first | omega | (simp; done) | (simp; omega) | (simp at hg; omega) | (simp at hg; simp; omega)))) ?_
    refine jg_gd _ _ _ _ _ _ rfl rfl rfl rfl rfl (fun hg => op_load ty3 (.gd rfl hg)) ?_
    refine jg_gd _ _ _ _ _ _ rfl rfl rfl rfl rfl (fun hg => op_move (.base rfl)) ?_
    refine jg_gd _ _ _ _ _ _ rfl rfl rfl rfl rfl (fun hg => op_geq (.gd rfl hg) (.gd rfl hg)) ?_
    refine jg_adr _ rfl _ rfl rfl (op_pick_and (.base rfl) (.base rfl) rfl (by intro h; first | (rw [h]; rfl) | (rw [hg, h]; rfl) | (rw [h, hg]; rfl) | simp_all)) ?_
    refine jg_nil ?_
    refine jn_keep [0, 1, 5, 6, 7, 23] [70] (.cons rfl (.cons rfl (.cons rfl (.cons rfl (.cons rfl (.cons rfl .nil)))))) (.cons rfl .nil) ?_
    refine jn_seq ?_
    refine j_cond rfl (fun h6 => ?_) (fun h6 => ?_)
    · have h4' : k < l.length := by omega
      have h6a : doneK l n k = false := by simp at h6; exact h6.1
      have h6b : n ≤ l[k] := by simp [h4'] at h6; exact h6.2
      refine j_seq (j_seq ?_)
      refine j_region ?_
      refine jg_adr _ rfl _ rfl rfl (op_move (.base rfl)) ?_
      refine jg_adr _ rfl _ rfl rfl (op_move (.base rfl)) ?_
      refine jg_adr _ rfl _ rfl rfl (op_index Try.underlying28 ty3 (.base rfl) (.base rfl) rfl (List.getElem?_eq_getElem (by first | omega | (simp; done) | (simp; omega) | (simp at hg; omega)))) ?_
      refine jg_adr _ rfl _ rfl rfl (op_load ty3 (.base rfl)) ?_
      refine jg_adr _ rfl _ rfl rfl (op_move (.base rfl)) ?_
      refine jg_adr _ rfl _ rfl rfl (op_gtr (.base rfl) (.base rfl)) ?_
      refine jg_nil ?_
      refine jn_keep [0, 1, 5, 7, 29] [70] (.cons rfl (.cons rfl (.cons rfl (.cons rfl (.cons rfl .nil))))) (.cons rfl .nil) ?_
      refine jn_seq ?_
      refine j_cond rfl (fun h7 => ?_) (fun h7 => ?_)
      · have hT := List.take_length (l := outK l n k)
        obtain ⟨hO, hB'⟩ := ins_A h4' h6a (by simpa using h7)
        have hB := hB'.symm
        rw [← out_false h6a] at hO
        refine j_region ?_
        refine jg_adr _ rfl _ rfl rfl (op_move (.base rfl)) ?_
        refine jg_adr _ rfl _ rfl rfl (op_move (.base rfl)) ?_
        refine jg_adr _ rfl _ rfl rfl (op_bslice (rt := (rInt .i64)) Try.underlying28 ty3 z3 rfl (.cons (.raw (.base rfl) rfl) .nil) rfl rfl) ?_
        refine jg_os _ rfl (op_append [0, 1, 7] Try.underlying28 ty3 z3 rfl by3 (.base rfl) rfl (by (try simp); try omega) (.tv (.base rfl)) (by unfold maxLen; (try simp); try omega) (by (try simp); try omega) rfl (.cons rfl (.cons rfl (.cons rfl .nil))) rfl) ?_
        refine jg_adr _ rfl _ rfl rfl (op_assign (.base rfl)) ?_
        refine jg_nil ?_
        refine jn_keep [0, 1, 5, 7] [70] (.cons rfl (.cons rfl (.cons rfl (.cons rfl .nil)))) (.cons rfl .nil) ?_
        refine jn_seq ?_
        refine j_region ?_
        refine jg_adr _ rfl _ rfl rfl (op_assign (.base rfl)) ?_
        refine jg_nil ?_
        refine jn_keep [0, 1, 5, 6, 7] [70] (.cons rfl (.cons rfl (.cons rfl (.cons rfl (.cons rfl .nil))))) (.cons rfl .nil) ?_
        refine jn_seq ?_
        refine j_region ?_
        refine jg_adr _ rfl _ rfl rfl (op_move (.base rfl)) ?_
        refine jg_adr _ rfl _ rfl rfl (op_move (.base rfl)) ?_
        refine jg_adr _ rfl _ rfl rfl (op_move (.base rfl)) ?_
        refine jg_adr _ rfl _ rfl rfl (op_index Try.underlying28 ty3 (.base rfl) (.base rfl) rfl (List.getElem?_eq_getElem (by first | omega | (simp; done) | (simp; omega) | (simp at hg; omega)))) ?_
        refine jg_adr _ rfl _ rfl rfl (op_load ty3 (.base rfl)) ?_
        refine jg_adr _ rfl _ rfl rfl (op_bslice (rt := (rInt .i64)) Try.underlying28 ty3 z3 rfl (.cons (.raw (.base rfl) rfl) .nil) rfl rfl) ?_
        refine jg_os _ rfl (op_append [0, 1, 6, 7] Try.underlying28 ty3 z3 rfl by3 (.base rfl) rfl (by (try simp); try omega) (.tv (.base rfl)) (by unfold maxLen; (try simp); try omega) (by (try simp); try omega) rfl (.cons rfl (.cons rfl (.cons rfl (.cons rfl .nil)))) rfl) ?_
        refine jg_adr _ rfl _ rfl rfl (op_assign (.base rfl)) ?_
        refine jg_nil ?_
        refine jn_keep [0, 1, 5, 6, 7] [70] (.cons rfl (.cons rfl (.cons rfl (.cons rfl (.cons rfl .nil))))) (.cons rfl .nil) ?_
        refine jn_blk (jn_seq ?_)
        refine j_region ?_
        refine jg_adr _ rfl _ rfl rfl (op_move (.base rfl)) ?_
        refine jg_adr _ rfl _ rfl rfl (op_add (.base rfl) (.base rfl) (w64 (by omega))) ?_
        refine jg_adr _ rfl _ rfl rfl (op_assign (.base rfl)) ?_
        refine jg_nil ?_
        refine jn_keep [0, 1, 5, 6, 7] [70] (.cons rfl (.cons rfl (.cons rfl (.cons rfl (.cons rfl .nil))))) (.cons rfl .nil) ?_
        exact jn_loop (fun a w hi => ⟨k + 1, (by omega), (by omega), Sub.inv ⟨(by repeat (first | exact SubS_nil | refine SubS_cons rfl (by first | rfl | exact congrArg (fun b => SV.raw (.bool b)) hB | exact congrArg (SV.own 70 (rInt .i64).n 0) (by rw [← hO]; simp; try omega)) ?_)), (by repeat (first | exact SubH_nil | refine SubH_cons rfl (by first | rfl | (refine congrArg (HB.mk (rInt .i64)) ?_; rw [← hO]; simp only [List.drop_zero, hT]; first | done | (rw [List.take_of_length_le (by simp)]; done))) ?_))⟩ hi⟩)
      · have hT := List.take_length (l := outK l n k)
        obtain ⟨hO, hB'⟩ := ins_B h4' h6a (by have := h6b; have := (by simpa using h7); omega)
        have hB := hB'.symm
        rw [← out_false h6a] at hO
        refine j_skip (jn_seq ?_)
        refine j_region ?_
        refine jg_adr _ rfl _ rfl rfl (op_assign (.base rfl)) ?_
        refine jg_nil ?_
        refine jn_keep [0, 1, 5, 6, 7] [70] (.cons rfl (.cons rfl (.cons rfl (.cons rfl (.cons rfl .nil))))) (.cons rfl .nil) ?_
        refine jn_seq ?_
        refine j_region ?_
        refine jg_adr _ rfl _ rfl rfl (op_move (.base rfl)) ?_
        refine jg_adr _ rfl _ rfl rfl (op_move (.base rfl)) ?_
        refine jg_adr _ rfl _ rfl rfl (op_move (.base rfl)) ?_
        refine jg_adr _ rfl _ rfl rfl (op_index Try.underlying28 ty3 (.base rfl) (.base rfl) rfl (List.getElem?_eq_getElem (by first | omega | (simp; done) | (simp; omega) | (simp at hg; omega)))) ?_
        refine jg_adr _ rfl _ rfl rfl (op_load ty3 (.base rfl)) ?_
        refine jg_adr _ rfl _ rfl rfl (op_bslice (rt := (rInt .i64)) Try.underlying28 ty3 z3 rfl (.cons (.raw (.base rfl) rfl) .nil) rfl rfl) ?_
        refine jg_os _ rfl (op_append [0, 1, 6, 7] Try.underlying28 ty3 z3 rfl by3 (.base rfl) rfl (by (try simp); try omega) (.tv (.base rfl)) (by unfold maxLen; (try simp); try omega) (by (try simp); try omega) rfl (.cons rfl (.cons rfl (.cons rfl (.cons rfl .nil)))) rfl) ?_
        refine jg_adr _ rfl _ rfl rfl (op_assign (.base rfl)) ?_
        refine jg_nil ?_
        refine jn_keep [0, 1, 5, 6, 7] [70] (.cons rfl (.cons rfl (.cons rfl (.cons rfl (.cons rfl .nil))))) (.cons rfl .nil) ?_
        refine jn_blk (jn_seq ?_)
        refine j_region ?_
        refine jg_adr _ rfl _ rfl rfl (op_move (.base rfl)) ?_
        refine jg_adr _ rfl _ rfl rfl (op_add (.base rfl) (.base rfl) (w64 (by omega))) ?_
        refine jg_adr _ rfl _ rfl rfl (op_assign (.base rfl)) ?_
        refine jg_nil ?_
        refine jn_keep [0, 1, 5, 6, 7] [70] (.cons rfl (.cons rfl (.cons rfl (.cons rfl (.cons rfl .nil))))) (.cons rfl .nil) ?_
        exact jn_loop (fun a w hi => ⟨k + 1, (by omega), (by omega), Sub.inv ⟨(by repeat (first | exact SubS_nil | refine SubS_cons rfl (by first | rfl | exact congrArg (fun b => SV.raw (.bool b)) hB | exact congrArg (SV.own 70 (rInt .i64).n 0) (by rw [← hO]; simp; try omega)) ?_)), (by repeat (first | exact SubH_nil | refine SubH_cons rfl (by first | rfl | (refine congrArg (HB.mk (rInt .i64)) ?_; rw [← hO]; simp only [List.drop_zero, hT]; first | done | (rw [List.take_of_length_le (by simp)]; done))) ?_))⟩ hi⟩)
    · have hT := List.take_length (l := outK l n k)
      have h4' : k < l.length := by omega
      obtain ⟨hO, hB'⟩ := ins_C (l := l) (n := n) h4' (by simp [h4'] at h6; by_cases hd : doneK l n k = true; exact .inl hd; exact .inr (by have := h6 (by simpa using hd); omega))
      have hB := hB'.symm
      refine j_skip (jn_seq ?_)
      refine j_region ?_
      refine jg_adr _ rfl _ rfl rfl (op_move (.base rfl)) ?_
      refine jg_adr _ rfl _ rfl rfl (op_move (.base rfl)) ?_
      refine jg_adr _ rfl _ rfl rfl (op_move (.base rfl)) ?_
      refine jg_adr _ rfl _ rfl rfl (op_index Try.underlying28 ty3 (.base rfl) (.base rfl) rfl (List.getElem?_eq_getElem (by first | omega | (simp; done) | (simp; omega) | (simp at hg; omega)))) ?_
      refine jg_adr _ rfl _ rfl rfl (op_load ty3 (.base rfl)) ?_
      refine jg_adr _ rfl _ rfl rfl (op_bslice (rt := (rInt .i64)) Try.underlying28 ty3 z3 rfl (.cons (.raw (.base rfl) rfl) .nil) rfl rfl) ?_
      refine jg_os _ rfl (op_append [0, 1, 6, 7] Try.underlying28 ty3 z3 rfl by3 (.base rfl) rfl (by (try simp); try omega) (.tv (.base rfl)) (by unfold maxLen; (try simp); try omega) (by (try simp); try omega) rfl (.cons rfl (.cons rfl (.cons rfl (.cons rfl .nil)))) rfl) ?_
      refine jg_adr _ rfl _ rfl rfl (op_assign (.base rfl)) ?_
      refine jg_nil ?_
      refine jn_keep [0, 1, 5, 6, 7] [70] (.cons rfl (.cons rfl (.cons rfl (.cons rfl (.cons rfl .nil))))) (.cons rfl .nil) ?_
      refine jn_blk (jn_seq ?_)
      refine j_region ?_
      refine jg_adr _ rfl _ rfl rfl (op_move (.base rfl)) ?_
      refine jg_adr _ rfl _ rfl rfl (op_add (.base rfl) (.base rfl) (w64 (by omega))) ?_
      refine jg_adr _ rfl _ rfl rfl (op_assign (.base rfl)) ?_
      refine jg_nil ?_
      refine jn_keep [0, 1, 5, 6, 7] [70] (.cons rfl (.cons rfl (.cons rfl (.cons rfl (.cons rfl .nil))))) (.cons rfl .nil) ?_
      exact jn_loop (fun a w hi => ⟨k + 1, (by omega), (by omega), Sub.inv ⟨(by repeat (first | exact SubS_nil | refine SubS_cons rfl (by first | rfl | exact congrArg (fun b => SV.raw (.bool b)) hB | exact congrArg (SV.own 70 (rInt .i64).n 0) (by rw [← hO]; simp; try omega)) ?_)), (by repeat (first | exact SubH_nil | refine SubH_cons rfl (by first | rfl | (refine congrArg (HB.mk (rInt .i64)) ?_; rw [← hO]; simp only [List.drop_zero, hT]; first | done | (rw [List.take_of_length_le (by simp)]; done))) ?_))⟩ hi⟩)
  · try simp at h4
    refine j_exit (je_seq (je_loop (je_blk (jn_seq (j_seq (j_seq ?_))))))
    have hkl : k = l.length := by omega
    subst hkl
    obtain ⟨oe1, oe2⟩ := out_end (l := l) (n := n)
    refine j_region ?_
    refine jg_adr _ rfl _ rfl rfl (op_move (.base rfl)) ?_
    refine jg_adr _ rfl _ rfl rfl (op_not (.base rfl)) ?_
    refine jg_nil ?_
    refine jn_keep [1, 5, 42] [70] (.cons rfl (.cons rfl (.cons rfl .nil))) (.cons rfl .nil) ?_
    refine jn_seq ?_
    refine j_cond rfl (fun h11 => ?_) (fun h11 => ?_)
    · try simp at h11
      refine j_region ?_
      refine jg_adr _ rfl _ rfl rfl (op_move (.base rfl)) ?_
      refine jg_adr _ rfl _ rfl rfl (op_move (.base rfl)) ?_
      refine jg_adr _ rfl _ rfl rfl (op_bslice (rt := (rInt .i64)) Try.underlying28 ty3 z3 rfl (.cons (.raw (.base rfl) rfl) .nil) rfl rfl) ?_
      refine jg_os _ rfl (op_append [] Try.underlying28 ty3 z3 rfl by3 (.base rfl) rfl (by (try simp); try omega) (.tv (.base rfl)) (by unfold maxLen; (try simp); try omega) (by (try simp); try omega) rfl .nil rfl) ?_
      refine jg_adr _ rfl _ rfl rfl (op_assign (.base rfl)) ?_
      refine jg_nil ?_
      refine jn_keep [5] [70] (.cons rfl .nil) (.cons rfl .nil) ?_
      refine jn_seq (j_seq ?_)
      refine j_region ?_
      refine jg_adr _ rfl _ rfl rfl (op_move (.base rfl)) ?_
      refine jg_adr _ rfl _ rfl rfl (op_assign (.base rfl)) ?_
      refine jg_nil ?_
      refine jn_keep [4] [70] (.cons rfl .nil) (.cons rfl .nil) ?_
      refine jn_seq (j_ret ?_)
      refine jr_seal (rt := rInt .i64) 70 4 (dropH 70 _) rfl rfl (by simp; try omega) (dropH_sub 70 _) (dropH_no 70 _) ?_
      exact jr_fin1 Try.results37 (res_tmp rfl) rfl (congrArg (SV.tv (rSlice (rInt .i64))) (by (try simp at h11); first | (rw [List.drop_zero, List.take_of_length_le (Nat.le_refl _)]; exact oe1 h11) | (rw [List.drop_zero, List.drop_zero, List.take_of_length_le (Nat.le_refl _), List.take_of_length_le (by simp)]; exact oe2 h11)))
    · try simp at h11
      refine j_skip (jn_seq (j_seq ?_))
      refine j_region ?_
      refine jg_adr _ rfl _ rfl rfl (op_move (.base rfl)) ?_
      refine jg_adr _ rfl _ rfl rfl (op_assign (.base rfl)) ?_
      refine jg_nil ?_
      refine jn_keep [4] [70] (.cons rfl .nil) (.cons rfl .nil) ?_
      refine jn_seq (j_ret ?_)
      refine jr_seal (rt := rInt .i64) 70 4 (dropH 70 _) rfl rfl (by simp; try omega) (dropH_sub 70 _) (dropH_no 70 _) ?_
      exact jr_fin1 Try.results37 (res_tmp rfl) rfl (congrArg (SV.tv (rSlice (rInt .i64))) (by (try simp at h11); first | (rw [List.drop_zero, List.take_of_length_le (Nat.le_refl _)]; exact oe1 h11) | (rw [List.drop_zero, List.drop_zero, List.take_of_length_le (Nat.le_refl _), List.take_of_length_le (by simp)]; exact oe2 h11)))


def refs (p : Int → Bool) (l : List TNode) : List Int := (l.filter (fun d => p d.1)).map (·.2)
def pIn (op : Int) : Bool := op == 7
def pDef (op : Int) : Bool := op == 8
def pMem (op : Int) : Bool := decide (36 ≤ op ∧ op ≤ 39)
theorem refs_t {p : Int → Bool} {e : List TNode} {k : Nat} (hk : k < e.length) (h : p e[k].1 = true) : refs p (e.take (k + 1)) = refs p (e.take k) ++ [e[k].2] := by
  rw [← List.take_append_getElem hk, refs, List.filter_append, List.map_append]; simp [refs, h]
theorem refs_f {p : Int → Bool} {e : List TNode} {k : Nat} (hk : k < e.length) (h : p e[k].1 = false) : refs p (e.take (k + 1)) = refs p (e.take k) := by
  rw [← List.take_append_getElem hk, refs, List.filter_append, List.map_append]; simp [refs, h]
theorem refs_len {p : Int → Bool} {l : List TNode} : (refs p l).length ≤ l.length := by
  simp only [refs, List.length_map]; exact List.length_filter_le _ _
theorem dst_take (zs : List Int) : (dstZ zs).take (uniqS zs).length = uniqS zs := List.take_left' rfl
theorem dst_len (zs : List Int) : (dstZ zs).length = zs.length := turn_distinct.len zs
theorem ins_t {p : Int → Bool} {e : List TNode} {k : Nat} (hk : k < e.length) (h : p e[k].1 = true) : insU e[k].2 (uniqS (refs p (e.take k))) = uniqS (refs p (e.take (k + 1))) := by rw [insU_uniqS, refs_t hk h]
def sv3s (a b c : List Int) : SV := .tup3 (.tv (rSlice (rInt .i64)) a) (.tv (rSlice (rInt .i64)) b) (.tv (rSlice (rInt .i64)) c)

theorem refs_ok (e : List TNode) (hm : e.length ≤ 1000) : Ct Try.prog 38 [.tv (rSlice rNode) e] (sv3s (uniqS (refs pIn e)) (uniqS (refs pDef e)) (uniqS (refs pMem e))) := by
  refine ct_intro Try.func38 rfl rfl Try.ntmps38 rfl rfl ?_
  intro w0 ok0
  refine j_seq ?_
  refine j_region ?_
  refine jg_adr _ rfl _ rfl rfl (op_assign (.base rfl)) ?_
  refine jg_adr _ rfl _ rfl rfl (op_assign (.base rfl)) ?_
  refine jg_adr _ rfl _ rfl rfl (op_assign (.base rfl)) ?_
  refine jg_nil ?_
  refine jn_keep [0] [] (.cons rfl .nil) .nil ?_
  refine jn_seq (j_seq ?_)
  refine j_region ?_
  refine jg_adr _ rfl _ rfl rfl (op_assign (.base rfl)) ?_
  refine jg_adr _ rfl _ rfl rfl (op_assign (.base rfl)) ?_
  refine jg_adr _ rfl _ rfl rfl (op_assign (.base rfl)) ?_
  refine jg_nil ?_
  refine jn_keep [0, 5, 6, 7] [] (.cons rfl (.cons rfl (.cons rfl (.cons rfl .nil)))) .nil ?_
  refine jn_seq (j_seq (j_seq ?_))
  refine j_region ?_
  refine jg_adr _ rfl _ rfl rfl (op_move (.base rfl)) ?_
  refine jg_adr _ rfl _ rfl rfl (op_len Try.underlying39 (.base rfl)) ?_
  refine jg_adr _ rfl _ rfl rfl (op_move (.base rfl)) ?_
  refine jg_nil ?_
  refine jn_keep [5, 6, 7, 10, 11, 12] [] (.cons rfl (.cons rfl (.cons rfl (.cons rfl (.cons rfl (.cons rfl .nil)))))) .nil ?_
  refine jn_seq (j_block ?_)
  refine j_vac 70 5 (rInt .i64) rfl rfl rfl ?_
  refine j_vac 71 6 (rInt .i64) rfl rfl rfl ?_
  refine j_vac 72 7 (rInt .i64) rfl rfl rfl ?_
  refine j_loopp (ι := Nat) (fun k => ⟨[(5, .own 70 (rInt .i64).n 0 (refs pIn (e.take k)).length), (6, .own 71 (rInt .i64).n 0 (refs pDef (e.take k)).length), (7, .own 72 (rInt .i64).n 0 (refs pMem (e.take k)).length), (10, .tv (rSlice rNode) e), (11, .raw (.int .i64 (e.length))), (12, .raw (.int .i64 ((k : Nat))))], [(70, ⟨rInt .i64, (refs pIn (e.take k))⟩), (71, ⟨rInt .i64, (refs pDef (e.take k))⟩), (72, ⟨rInt .i64, (refs pMem (e.take k))⟩)]⟩) (fun k => k ≤ e.length) (fun k => e.length - k) 0 (Nat.zero_le _) (fun a w hi => (Sub.inv ⟨(by repeat (first | exact SubS_nil | refine SubS_cons rfl (by first | rfl | (simp; done) | assumption) ?_)), (by repeat (first | exact SubH_nil | refine SubH_cons rfl (by first | rfl | (simp; done) | assumption) ?_))⟩ hi)) ?_
  rintro k hk
  have l1 := refs_len (p := pIn) (l := e.take k)
  have l2 := refs_len (p := pDef) (l := e.take k)
  have l3 := refs_len (p := pMem) (l := e.take k)
  have l4 : (e.take k).length ≤ k := by simp; omega
  refine j_seq ?_
  refine j_region ?_
  refine jg_adr _ rfl _ rfl rfl (op_lss (.base rfl) (.base rfl)) ?_
  refine jg_nil ?_
  refine jn_keep [5, 6, 7, 10, 11, 12, 13] [70, 71, 72] (.cons rfl (.cons rfl (.cons rfl (.cons rfl (.cons rfl (.cons rfl (.cons rfl .nil))))))) (.cons rfl (.cons rfl (.cons rfl .nil))) ?_
  refine jn_seq (j_seq ?_)
  refine j_cond rfl (fun h3 => ?_) (fun h3 => ?_)
  · try simp at h3
    refine j_skip (jn_seq (j_seq (j_block (j_seq ?_))))
    refine j_region ?_
    refine jg_adr _ rfl _ rfl rfl (op_index Try.underlying39 ty63 (.base rfl) (.base rfl) rfl (List.getElem?_eq_getElem (by first | omega | (simp; done) | (simp; omega) | (simp at hg; omega)))) ?_
    refine jg_adr _ rfl _ rfl rfl (op_load ty63 (.base rfl)) ?_
    refine jg_os _ rfl (op_alloc _ z63 rfl rfl rfl) ?_
    refine jg_os _ rfl (op_ostore ty63 (.base rfl) rfl rfl (Lens.id _) (.tv (.base rfl))) ?_
    refine jg_nil ?_
    refine jn_keep [5, 6, 7, 9, 10, 11, 12] [9, 70, 71, 72] (.cons rfl (.cons rfl (.cons rfl (.cons rfl (.cons rfl (.cons rfl (.cons rfl .nil))))))) (.cons rfl (.cons rfl (.cons rfl (.cons rfl .nil)))) ?_
    refine jn_seq (j_seq ?_)
    refine j_region ?_
    refine jg_adr _ rfl _ rfl rfl (op_ofield fld63_0 (.base rfl)) ?_
    refine jg_adr _ rfl _ rfl rfl (op_oload ty3 (.base rfl) rfl rfl ln63_0) ?_
    refine jg_nil ?_
    refine jn_keep [5, 6, 7, 9, 10, 11, 12, 17] [9, 70, 71, 72] (.cons rfl (.cons rfl (.cons rfl (.cons rfl (.cons rfl (.cons rfl (.cons rfl (.cons rfl .nil)))))))) (.cons rfl (.cons rfl (.cons rfl (.cons rfl .nil)))) ?_
    refine jn_seq (j_block (j_seq ?_))
    refine j_region ?_
    refine jg_adr _ rfl _ rfl rfl (op_eql (.base rfl) (.base rfl)) ?_
    refine jg_adr _ rfl _ rfl rfl (op_assign (.base rfl)) ?_
    refine jg_nil ?_
    refine jn_keep [5, 6, 7, 9, 10, 11, 12, 17, 18] [9, 70, 71, 72] (.cons rfl (.cons rfl (.cons rfl (.cons rfl (.cons rfl (.cons rfl (.cons rfl (.cons rfl (.cons rfl .nil))))))))) (.cons rfl (.cons rfl (.cons rfl (.cons rfl .nil)))) ?_
    refine jn_seq ?_
    refine j_cond rfl (fun h6 => ?_) (fun h6 => ?_)
    · try simp at h6
      refine j_region ?_
      refine jg_adr _ rfl _ rfl rfl (op_move (.base rfl)) ?_
      refine jg_adr _ rfl _ rfl rfl (op_ofield fld63_1 (.base rfl)) ?_
      refine jg_adr _ rfl _ rfl rfl (op_oload ty3 (.base rfl) rfl rfl ln63_1) ?_
      refine jg_adr _ rfl _ rfl rfl (op_bslice (rt := (rInt .i64)) Try.underlying28 ty3 z3 rfl (.cons (.raw (.base rfl) rfl) .nil) rfl rfl) ?_
      refine jg_os _ rfl (op_append [6, 7, 10, 11, 12] Try.underlying28 ty3 z3 rfl by3 (.base rfl) rfl (by (try simp); try omega) (.tv (.base rfl)) (by unfold maxLen; (try simp); try omega) (by (try simp); try omega) rfl (.cons rfl (.cons rfl (.cons rfl (.cons rfl (.cons rfl .nil))))) rfl) ?_
      refine jg_adr _ rfl _ rfl rfl (op_assign (.base rfl)) ?_
      refine jg_nil ?_
      have hA := refs_t (p := pIn) (e := e) (k := k) (by omega) (by simp [pIn, *]; try omega)
      have hB := refs_f (p := pDef) (e := e) (k := k) (by omega) (by simp [pDef, *]; try omega)
      have hC := refs_f (p := pMem) (e := e) (k := k) (by omega) (by simp [pMem, *]; try omega)
      refine jn_keep [5, 6, 7, 10, 11, 12] [70, 71, 72] (.cons rfl (.cons rfl (.cons rfl (.cons rfl (.cons rfl (.cons rfl .nil)))))) (.cons rfl (.cons rfl (.cons rfl .nil))) ?_
      refine jn_blk (jn_blk (jn_seq ?_))
      refine j_region ?_
      refine jg_adr _ rfl _ rfl rfl (op_add (.base rfl) (.base rfl) (w64 (by omega))) ?_
      refine jg_adr _ rfl _ rfl rfl (op_move (.base rfl)) ?_
      refine jg_nil ?_
      refine jn_keep [5, 6, 7, 10, 11, 12] [70, 71, 72] (.cons rfl (.cons rfl (.cons rfl (.cons rfl (.cons rfl (.cons rfl .nil)))))) (.cons rfl (.cons rfl (.cons rfl .nil))) ?_
      exact jn_loop (fun a w hi => ⟨k + 1, (by omega), (by omega), Sub.inv ⟨(by repeat (first | exact SubS_nil | refine SubS_cons rfl (by first | rfl | exact congrArg (SV.own 70 (rInt .i64).n 0) (by rw [hA]; try simp; try omega) | exact congrArg (SV.own 71 (rInt .i64).n 0) (by rw [hB]; try simp; try omega) | exact congrArg (SV.own 72 (rInt .i64).n 0) (by rw [hC]; try simp; try omega)) ?_)), (by repeat (first | exact SubH_nil | refine SubH_cons rfl (by first | rfl | (refine congrArg (HB.mk (rInt .i64)) ?_; rw [hA]; try (simp only [List.drop_zero, List.take_of_length_le (Nat.le_refl _)]); done) | (refine congrArg (HB.mk (rInt .i64)) ?_; rw [hB]; try (simp only [List.drop_zero, List.take_of_length_le (Nat.le_refl _)]); done) | (refine congrArg (HB.mk (rInt .i64)) ?_; rw [hC]; try (simp only [List.drop_zero, List.take_of_length_le (Nat.le_refl _)]); done)) ?_))⟩ hi⟩)
    · try simp at h6
      refine j_seq ?_
      refine j_region ?_
      refine jg_adr _ rfl _ rfl rfl (op_eql (.base rfl) (.base rfl)) ?_
      refine jg_adr _ rfl _ rfl rfl (op_assign (.base rfl)) ?_
      refine jg_nil ?_
      refine jn_keep [5, 6, 7, 9, 10, 11, 12, 17, 25] [9, 70, 71, 72] (.cons rfl (.cons rfl (.cons rfl (.cons rfl (.cons rfl (.cons rfl (.cons rfl (.cons rfl (.cons rfl .nil))))))))) (.cons rfl (.cons rfl (.cons rfl (.cons rfl .nil)))) ?_
      refine jn_seq ?_
      refine j_cond rfl (fun h8 => ?_) (fun h8 => ?_)
      · try simp at h8
        refine j_region ?_
        refine jg_adr _ rfl _ rfl rfl (op_move (.base rfl)) ?_
        refine jg_adr _ rfl _ rfl rfl (op_ofield fld63_1 (.base rfl)) ?_
        refine jg_adr _ rfl _ rfl rfl (op_oload ty3 (.base rfl) rfl rfl ln63_1) ?_
        refine jg_adr _ rfl _ rfl rfl (op_bslice (rt := (rInt .i64)) Try.underlying28 ty3 z3 rfl (.cons (.raw (.base rfl) rfl) .nil) rfl rfl) ?_
        refine jg_os _ rfl (op_append [5, 7, 10, 11, 12] Try.underlying28 ty3 z3 rfl by3 (.base rfl) rfl (by (try simp); try omega) (.tv (.base rfl)) (by unfold maxLen; (try simp); try omega) (by (try simp); try omega) rfl (.cons rfl (.cons rfl (.cons rfl (.cons rfl (.cons rfl .nil))))) rfl) ?_
        refine jg_adr _ rfl _ rfl rfl (op_assign (.base rfl)) ?_
        refine jg_nil ?_
        have hA := refs_f (p := pIn) (e := e) (k := k) (by omega) (by simp [pIn, *]; try omega)
        have hB := refs_t (p := pDef) (e := e) (k := k) (by omega) (by simp [pDef, *]; try omega)
        have hC := refs_f (p := pMem) (e := e) (k := k) (by omega) (by simp [pMem, *]; try omega)
        refine jn_keep [5, 6, 7, 10, 11, 12] [70, 71, 72] (.cons rfl (.cons rfl (.cons rfl (.cons rfl (.cons rfl (.cons rfl .nil)))))) (.cons rfl (.cons rfl (.cons rfl .nil))) ?_
        refine jn_blk (jn_blk (jn_seq ?_))
        refine j_region ?_
        refine jg_adr _ rfl _ rfl rfl (op_add (.base rfl) (.base rfl) (w64 (by omega))) ?_
        refine jg_adr _ rfl _ rfl rfl (op_move (.base rfl)) ?_
        refine jg_nil ?_
        refine jn_keep [5, 6, 7, 10, 11, 12] [70, 71, 72] (.cons rfl (.cons rfl (.cons rfl (.cons rfl (.cons rfl (.cons rfl .nil)))))) (.cons rfl (.cons rfl (.cons rfl .nil))) ?_
        exact jn_loop (fun a w hi => ⟨k + 1, (by omega), (by omega), Sub.inv ⟨(by repeat (first | exact SubS_nil | refine SubS_cons rfl (by first | rfl | exact congrArg (SV.own 70 (rInt .i64).n 0) (by rw [hA]; try simp; try omega) | exact congrArg (SV.own 71 (rInt .i64).n 0) (by rw [hB]; try simp; try omega) | exact congrArg (SV.own 72 (rInt .i64).n 0) (by rw [hC]; try simp; try omega)) ?_)), (by repeat (first | exact SubH_nil | refine SubH_cons rfl (by first | rfl | (refine congrArg (HB.mk (rInt .i64)) ?_; rw [hA]; try (simp only [List.drop_zero, List.take_of_length_le (Nat.le_refl _)]); done) | (refine congrArg (HB.mk (rInt .i64)) ?_; rw [hB]; try (simp only [List.drop_zero, List.take_of_length_le (Nat.le_refl _)]); done) | (refine congrArg (HB.mk (rInt .i64)) ?_; rw [hC]; try (simp only [List.drop_zero, List.take_of_length_le (Nat.le_refl _)]); done)) ?_))⟩ hi⟩)
      · try simp at h8
        refine j_seq (j_seq ?_)
        refine j_region ?_
        refine jg_adr _ rfl _ rfl rfl (op_eql (.base rfl) (.base rfl)) ?_
        refine jg_adr _ rfl _ rfl rfl (op_assign (.base rfl)) ?_
        refine jg_nil ?_
        refine jn_keep [5, 6, 7, 9, 10, 11, 12, 17, 32] [9, 70, 71, 72] (.cons rfl (.cons rfl (.cons rfl (.cons rfl (.cons rfl (.cons rfl (.cons rfl (.cons rfl (.cons rfl .nil))))))))) (.cons rfl (.cons rfl (.cons rfl (.cons rfl .nil)))) ?_
        refine jn_seq ?_
        refine j_cond rfl (fun h10 => ?_) (fun h10 => ?_)
        · have g10 := h10; have hq : 36 ≤ e[k].1 ∧ e[k].1 ≤ 39 := by first | omega | (simp at h10; omega)
          refine j_skip (jn_seq ?_)
          refine j_cond_t rfl g10 ?_
          refine j_region ?_
          refine jg_adr _ rfl _ rfl rfl (op_move (.base rfl)) ?_
          refine jg_adr _ rfl _ rfl rfl (op_ofield fld63_1 (.base rfl)) ?_
          refine jg_adr _ rfl _ rfl rfl (op_oload ty3 (.base rfl) rfl rfl ln63_1) ?_
          refine jg_adr _ rfl _ rfl rfl (op_bslice (rt := (rInt .i64)) Try.underlying28 ty3 z3 rfl (.cons (.raw (.base rfl) rfl) .nil) rfl rfl) ?_
          refine jg_os _ rfl (op_append [5, 6, 10, 11, 12] Try.underlying28 ty3 z3 rfl by3 (.base rfl) rfl (by (try simp); try omega) (.tv (.base rfl)) (by unfold maxLen; (try simp); try omega) (by (try simp); try omega) rfl (.cons rfl (.cons rfl (.cons rfl (.cons rfl (.cons rfl .nil))))) rfl) ?_
          refine jg_adr _ rfl _ rfl rfl (op_assign (.base rfl)) ?_
          refine jg_nil ?_
          have hA := refs_f (p := pIn) (e := e) (k := k) (by omega) (by simp [pIn, *]; try omega)
          have hB := refs_f (p := pDef) (e := e) (k := k) (by omega) (by simp [pDef, *]; try omega)
          have hC := refs_t (p := pMem) (e := e) (k := k) (by omega) (by simp [pMem, *]; try omega)
          refine jn_keep [5, 6, 7, 10, 11, 12] [70, 71, 72] (.cons rfl (.cons rfl (.cons rfl (.cons rfl (.cons rfl (.cons rfl .nil)))))) (.cons rfl (.cons rfl (.cons rfl .nil))) ?_
          refine jn_blk (jn_blk (jn_seq ?_))
          refine j_region ?_
          refine jg_adr _ rfl _ rfl rfl (op_add (.base rfl) (.base rfl) (w64 (by omega))) ?_
          refine jg_adr _ rfl _ rfl rfl (op_move (.base rfl)) ?_
          refine jg_nil ?_
          refine jn_keep [5, 6, 7, 10, 11, 12] [70, 71, 72] (.cons rfl (.cons rfl (.cons rfl (.cons rfl (.cons rfl (.cons rfl .nil)))))) (.cons rfl (.cons rfl (.cons rfl .nil))) ?_
          exact jn_loop (fun a w hi => ⟨k + 1, (by omega), (by omega), Sub.inv ⟨(by repeat (first | exact SubS_nil | refine SubS_cons rfl (by first | rfl | exact congrArg (SV.own 70 (rInt .i64).n 0) (by rw [hA]; try simp; try omega) | exact congrArg (SV.own 71 (rInt .i64).n 0) (by rw [hB]; try simp; try omega) | exact congrArg (SV.own 72 (rInt .i64).n 0) (by rw [hC]; try simp; try omega)) ?_)), (by repeat (first | exact SubH_nil | refine SubH_cons rfl (by first | rfl | (refine congrArg (HB.mk (rInt .i64)) ?_; rw [hA]; try (simp only [List.drop_zero, List.take_of_length_le (Nat.le_refl _)]); done) | (refine congrArg (HB.mk (rInt .i64)) ?_; rw [hB]; try (simp only [List.drop_zero, List.take_of_length_le (Nat.le_refl _)]); done) | (refine congrArg (HB.mk (rInt .i64)) ?_; rw [hC]; try (simp only [List.drop_zero, List.take_of_length_le (Nat.le_refl _)]); done)) ?_))⟩ hi⟩)
        · have g10 := h10; try simp at h10
          refine j_seq ?_
          refine j_region ?_
          refine jg_adr _ rfl _ rfl rfl (op_eql (.base rfl) (.base rfl)) ?_
          refine jg_adr _ rfl _ rfl rfl (op_assign (.base rfl)) ?_
          refine jg_nil ?_
          refine jn_keep [5, 6, 7, 9, 10, 11, 12, 17, 32] [9, 70, 71, 72] (.cons rfl (.cons rfl (.cons rfl (.cons rfl (.cons rfl (.cons rfl (.cons rfl (.cons rfl (.cons rfl .nil))))))))) (.cons rfl (.cons rfl (.cons rfl (.cons rfl .nil)))) ?_
          refine jn_seq ?_
          refine j_cond rfl (fun h11 => ?_) (fun h11 => ?_)
          · have g11 := h11; have hq : 36 ≤ e[k].1 ∧ e[k].1 ≤ 39 := by first | omega | (simp at h11; omega)
            refine j_skip (jn_seq ?_)
            refine j_cond_t rfl g11 ?_
            refine j_region ?_
            refine jg_adr _ rfl _ rfl rfl (op_move (.base rfl)) ?_
            refine jg_adr _ rfl _ rfl rfl (op_ofield fld63_1 (.base rfl)) ?_
            refine jg_adr _ rfl _ rfl rfl (op_oload ty3 (.base rfl) rfl rfl ln63_1) ?_
            refine jg_adr _ rfl _ rfl rfl (op_bslice (rt := (rInt .i64)) Try.underlying28 ty3 z3 rfl (.cons (.raw (.base rfl) rfl) .nil) rfl rfl) ?_
            refine jg_os _ rfl (op_append [5, 6, 10, 11, 12] Try.underlying28 ty3 z3 rfl by3 (.base rfl) rfl (by (try simp); try omega) (.tv (.base rfl)) (by unfold maxLen; (try simp); try omega) (by (try simp); try omega) rfl (.cons rfl (.cons rfl (.cons rfl (.cons rfl (.cons rfl .nil))))) rfl) ?_
            refine jg_adr _ rfl _ rfl rfl (op_assign (.base rfl)) ?_
            refine jg_nil ?_
            have hA := refs_f (p := pIn) (e := e) (k := k) (by omega) (by simp [pIn, *]; try omega)
            have hB := refs_f (p := pDef) (e := e) (k := k) (by omega) (by simp [pDef, *]; try omega)
            have hC := refs_t (p := pMem) (e := e) (k := k) (by omega) (by simp [pMem, *]; try omega)
            refine jn_keep [5, 6, 7, 10, 11, 12] [70, 71, 72] (.cons rfl (.cons rfl (.cons rfl (.cons rfl (.cons rfl (.cons rfl .nil)))))) (.cons rfl (.cons rfl (.cons rfl .nil))) ?_
            refine jn_blk (jn_blk (jn_seq ?_))
            refine j_region ?_
            refine jg_adr _ rfl _ rfl rfl (op_add (.base rfl) (.base rfl) (w64 (by omega))) ?_
            refine jg_adr _ rfl _ rfl rfl (op_move (.base rfl)) ?_
            refine jg_nil ?_
            refine jn_keep [5, 6, 7, 10, 11, 12] [70, 71, 72] (.cons rfl (.cons rfl (.cons rfl (.cons rfl (.cons rfl (.cons rfl .nil)))))) (.cons rfl (.cons rfl (.cons rfl .nil))) ?_
            exact jn_loop (fun a w hi => ⟨k + 1, (by omega), (by omega), Sub.inv ⟨(by repeat (first | exact SubS_nil | refine SubS_cons rfl (by first | rfl | exact congrArg (SV.own 70 (rInt .i64).n 0) (by rw [hA]; try simp; try omega) | exact congrArg (SV.own 71 (rInt .i64).n 0) (by rw [hB]; try simp; try omega) | exact congrArg (SV.own 72 (rInt .i64).n 0) (by rw [hC]; try simp; try omega)) ?_)), (by repeat (first | exact SubH_nil | refine SubH_cons rfl (by first | rfl | (refine congrArg (HB.mk (rInt .i64)) ?_; rw [hA]; try (simp only [List.drop_zero, List.take_of_length_le (Nat.le_refl _)]); done) | (refine congrArg (HB.mk (rInt .i64)) ?_; rw [hB]; try (simp only [List.drop_zero, List.take_of_length_le (Nat.le_refl _)]); done) | (refine congrArg (HB.mk (rInt .i64)) ?_; rw [hC]; try (simp only [List.drop_zero, List.take_of_length_le (Nat.le_refl _)]); done)) ?_))⟩ hi⟩)
          · have g11 := h11; try simp at h11
            refine j_seq ?_
            refine j_region ?_
            refine jg_adr _ rfl _ rfl rfl (op_eql (.base rfl) (.base rfl)) ?_
            refine jg_adr _ rfl _ rfl rfl (op_assign (.base rfl)) ?_
            refine jg_nil ?_
            refine jn_keep [5, 6, 7, 9, 10, 11, 12, 17, 32] [9, 70, 71, 72] (.cons rfl (.cons rfl (.cons rfl (.cons rfl (.cons rfl (.cons rfl (.cons rfl (.cons rfl (.cons rfl .nil))))))))) (.cons rfl (.cons rfl (.cons rfl (.cons rfl .nil)))) ?_
            refine jn_seq ?_
            refine j_cond rfl (fun h12 => ?_) (fun h12 => ?_)
            · have g12 := h12; have hq : 36 ≤ e[k].1 ∧ e[k].1 ≤ 39 := by first | omega | (simp at h12; omega)
              refine j_skip (jn_seq ?_)
              refine j_cond_t rfl g12 ?_
              refine j_region ?_
              refine jg_adr _ rfl _ rfl rfl (op_move (.base rfl)) ?_
              refine jg_adr _ rfl _ rfl rfl (op_ofield fld63_1 (.base rfl)) ?_
              refine jg_adr _ rfl _ rfl rfl (op_oload ty3 (.base rfl) rfl rfl ln63_1) ?_
              refine jg_adr _ rfl _ rfl rfl (op_bslice (rt := (rInt .i64)) Try.underlying28 ty3 z3 rfl (.cons (.raw (.base rfl) rfl) .nil) rfl rfl) ?_
              refine jg_os _ rfl (op_append [5, 6, 10, 11, 12] Try.underlying28 ty3 z3 rfl by3 (.base rfl) rfl (by (try simp); try omega) (.tv (.base rfl)) (by unfold maxLen; (try simp); try omega) (by (try simp); try omega) rfl (.cons rfl (.cons rfl (.cons rfl (.cons rfl (.cons rfl .nil))))) rfl) ?_
              refine jg_adr _ rfl _ rfl rfl (op_assign (.base rfl)) ?_
              refine jg_nil ?_
              have hA := refs_f (p := pIn) (e := e) (k := k) (by omega) (by simp [pIn, *]; try omega)
              have hB := refs_f (p := pDef) (e := e) (k := k) (by omega) (by simp [pDef, *]; try omega)
              have hC := refs_t (p := pMem) (e := e) (k := k) (by omega) (by simp [pMem, *]; try omega)
              refine jn_keep [5, 6, 7, 10, 11, 12] [70, 71, 72] (.cons rfl (.cons rfl (.cons rfl (.cons rfl (.cons rfl (.cons rfl .nil)))))) (.cons rfl (.cons rfl (.cons rfl .nil))) ?_
              refine jn_blk (jn_blk (jn_seq ?_))
              refine j_region ?_
              refine jg_adr _ rfl _ rfl rfl (op_add (.base rfl) (.base rfl) (w64 (by omega))) ?_
              refine jg_adr _ rfl _ rfl rfl (op_move (.base rfl)) ?_
              refine jg_nil ?_
              refine jn_keep [5, 6, 7, 10, 11, 12] [70, 71, 72] (.cons rfl (.cons rfl (.cons rfl (.cons rfl (.cons rfl (.cons rfl .nil)))))) (.cons rfl (.cons rfl (.cons rfl .nil))) ?_
              exact jn_loop (fun a w hi => ⟨k + 1, (by omega), (by omega), Sub.inv ⟨(by repeat (first | exact SubS_nil | refine SubS_cons rfl (by first | rfl | exact congrArg (SV.own 70 (rInt .i64).n 0) (by rw [hA]; try simp; try omega) | exact congrArg (SV.own 71 (rInt .i64).n 0) (by rw [hB]; try simp; try omega) | exact congrArg (SV.own 72 (rInt .i64).n 0) (by rw [hC]; try simp; try omega)) ?_)), (by repeat (first | exact SubH_nil | refine SubH_cons rfl (by first | rfl | (refine congrArg (HB.mk (rInt .i64)) ?_; rw [hA]; try (simp only [List.drop_zero, List.take_of_length_le (Nat.le_refl _)]); done) | (refine congrArg (HB.mk (rInt .i64)) ?_; rw [hB]; try (simp only [List.drop_zero, List.take_of_length_le (Nat.le_refl _)]); done) | (refine congrArg (HB.mk (rInt .i64)) ?_; rw [hC]; try (simp only [List.drop_zero, List.take_of_length_le (Nat.le_refl _)]); done)) ?_))⟩ hi⟩)
            · have g12 := h12; try simp at h12
              refine j_region ?_
              refine jg_adr _ rfl _ rfl rfl (op_eql (.base rfl) (.base rfl)) ?_
              refine jg_adr _ rfl _ rfl rfl (op_assign (.base rfl)) ?_
              refine jg_nil ?_
              refine jn_keep [5, 6, 7, 9, 10, 11, 12, 32] [9, 70, 71, 72] (.cons rfl (.cons rfl (.cons rfl (.cons rfl (.cons rfl (.cons rfl (.cons rfl (.cons rfl .nil)))))))) (.cons rfl (.cons rfl (.cons rfl (.cons rfl .nil)))) ?_
              refine jn_seq ?_
              refine j_cond rfl (fun h13 => ?_) (fun h13 => ?_)
              · have g13 := h13; have hq : 36 ≤ e[k].1 ∧ e[k].1 ≤ 39 := by first | omega | (simp at h13; omega)
                refine j_region ?_
                refine jg_adr _ rfl _ rfl rfl (op_move (.base rfl)) ?_
                refine jg_adr _ rfl _ rfl rfl (op_ofield fld63_1 (.base rfl)) ?_
                refine jg_adr _ rfl _ rfl rfl (op_oload ty3 (.base rfl) rfl rfl ln63_1) ?_
                refine jg_adr _ rfl _ rfl rfl (op_bslice (rt := (rInt .i64)) Try.underlying28 ty3 z3 rfl (.cons (.raw (.base rfl) rfl) .nil) rfl rfl) ?_
                refine jg_os _ rfl (op_append [5, 6, 10, 11, 12] Try.underlying28 ty3 z3 rfl by3 (.base rfl) rfl (by (try simp); try omega) (.tv (.base rfl)) (by unfold maxLen; (try simp); try omega) (by (try simp); try omega) rfl (.cons rfl (.cons rfl (.cons rfl (.cons rfl (.cons rfl .nil))))) rfl) ?_
                refine jg_adr _ rfl _ rfl rfl (op_assign (.base rfl)) ?_
                refine jg_nil ?_
                have hA := refs_f (p := pIn) (e := e) (k := k) (by omega) (by simp [pIn, *]; try omega)
                have hB := refs_f (p := pDef) (e := e) (k := k) (by omega) (by simp [pDef, *]; try omega)
                have hC := refs_t (p := pMem) (e := e) (k := k) (by omega) (by simp [pMem, *]; try omega)
                refine jn_keep [5, 6, 7, 10, 11, 12] [70, 71, 72] (.cons rfl (.cons rfl (.cons rfl (.cons rfl (.cons rfl (.cons rfl .nil)))))) (.cons rfl (.cons rfl (.cons rfl .nil))) ?_
                refine jn_blk (jn_blk (jn_seq ?_))
                refine j_region ?_
                refine jg_adr _ rfl _ rfl rfl (op_add (.base rfl) (.base rfl) (w64 (by omega))) ?_
                refine jg_adr _ rfl _ rfl rfl (op_move (.base rfl)) ?_
                refine jg_nil ?_
                refine jn_keep [5, 6, 7, 10, 11, 12] [70, 71, 72] (.cons rfl (.cons rfl (.cons rfl (.cons rfl (.cons rfl (.cons rfl .nil)))))) (.cons rfl (.cons rfl (.cons rfl .nil))) ?_
                exact jn_loop (fun a w hi => ⟨k + 1, (by omega), (by omega), Sub.inv ⟨(by repeat (first | exact SubS_nil | refine SubS_cons rfl (by first | rfl | exact congrArg (SV.own 70 (rInt .i64).n 0) (by rw [hA]; try simp; try omega) | exact congrArg (SV.own 71 (rInt .i64).n 0) (by rw [hB]; try simp; try omega) | exact congrArg (SV.own 72 (rInt .i64).n 0) (by rw [hC]; try simp; try omega)) ?_)), (by repeat (first | exact SubH_nil | refine SubH_cons rfl (by first | rfl | (refine congrArg (HB.mk (rInt .i64)) ?_; rw [hA]; try (simp only [List.drop_zero, List.take_of_length_le (Nat.le_refl _)]); done) | (refine congrArg (HB.mk (rInt .i64)) ?_; rw [hB]; try (simp only [List.drop_zero, List.take_of_length_le (Nat.le_refl _)]); done) | (refine congrArg (HB.mk (rInt .i64)) ?_; rw [hC]; try (simp only [List.drop_zero, List.take_of_length_le (Nat.le_refl _)]); done)) ?_))⟩ hi⟩)
              · have g13 := h13; simp at h13
                have hA := refs_f (p := pIn) (e := e) (k := k) (by omega) (by simp [pIn, *]; try omega)
                have hB := refs_f (p := pDef) (e := e) (k := k) (by omega) (by simp [pDef, *]; try omega)
                have hC := refs_f (p := pMem) (e := e) (k := k) (by omega) (by simp [pMem, *]; try omega)
                refine j_skip (jn_blk (jn_blk (jn_seq ?_)))
                refine j_region ?_
                refine jg_adr _ rfl _ rfl rfl (op_add (.base rfl) (.base rfl) (w64 (by omega))) ?_
                refine jg_adr _ rfl _ rfl rfl (op_move (.base rfl)) ?_
                refine jg_nil ?_
                refine jn_keep [5, 6, 7, 10, 11, 12] [70, 71, 72] (.cons rfl (.cons rfl (.cons rfl (.cons rfl (.cons rfl (.cons rfl .nil)))))) (.cons rfl (.cons rfl (.cons rfl .nil))) ?_
                exact jn_loop (fun a w hi => ⟨k + 1, (by omega), (by omega), Sub.inv ⟨(by repeat (first | exact SubS_nil | refine SubS_cons rfl (by first | rfl | exact congrArg (SV.own 70 (rInt .i64).n 0) (by rw [hA]; try simp; try omega) | exact congrArg (SV.own 71 (rInt .i64).n 0) (by rw [hB]; try simp; try omega) | exact congrArg (SV.own 72 (rInt .i64).n 0) (by rw [hC]; try simp; try omega)) ?_)), (by repeat (first | exact SubH_nil | refine SubH_cons rfl (by first | rfl | (refine congrArg (HB.mk (rInt .i64)) ?_; rw [hA]; try (simp only [List.drop_zero, List.take_of_length_le (Nat.le_refl _)]); done) | (refine congrArg (HB.mk (rInt .i64)) ?_; rw [hB]; try (simp only [List.drop_zero, List.take_of_length_le (Nat.le_refl _)]); done) | (refine congrArg (HB.mk (rInt .i64)) ?_; rw [hC]; try (simp only [List.drop_zero, List.take_of_length_le (Nat.le_refl _)]); done)) ?_))⟩ hi⟩)
  · try simp at h3
    refine j_exit (je_seq (je_loop (je_blk (jn_seq (j_seq ?_)))))
    have hke : k = e.length := by omega
    subst hke
    have u1 := uniqS_len (refs pIn (e.take e.length))
    have u2 := uniqS_len (refs pDef (e.take e.length))
    have u3 := uniqS_len (refs pMem (e.take e.length))
    refine j_region ?_
    refine jg_adr _ rfl _ rfl rfl (op_move (.base rfl)) ?_
    refine jg_os _ rfl (op_turn1 turn_distinct (.base rfl) rfl (by rfl) (by omega) rfl) ?_
    refine jg_adr _ rfl _ rfl rfl (op_move (.base rfl)) ?_
    refine jg_os _ rfl (op_turn1 turn_distinct (.base rfl) rfl (by rfl) (by omega) rfl) ?_
    refine jg_adr _ rfl _ rfl rfl (op_move (.base rfl)) ?_
    refine jg_os _ rfl (op_turn1 turn_distinct (.base rfl) rfl (by rfl) (by omega) rfl) ?_
    refine jg_adr _ rfl _ rfl rfl (op_assign (.base rfl)) ?_
    refine jg_adr _ rfl _ rfl rfl (op_assign (.base rfl)) ?_
    refine jg_adr _ rfl _ rfl rfl (op_assign (.base rfl)) ?_
    refine jg_nil ?_
    refine jn_keep [2, 3, 4] [70, 71, 72] (.cons rfl (.cons rfl (.cons rfl .nil))) (.cons rfl (.cons rfl (.cons rfl .nil))) ?_
    refine jn_seq (j_ret ?_)
    refine jr_seal (rt := rInt .i64) 70 2 (dropH 70 _) rfl rfl (by rw [dst_len, Nat.zero_add]; exact uniqS_len _) (dropH_sub 70 _) (dropH_no 70 _) ?_
    refine jr_seal (rt := rInt .i64) 71 3 (dropH 71 _) rfl rfl (by rw [dst_len, Nat.zero_add]; exact uniqS_len _) (dropH_sub 71 _) (dropH_no 71 _) ?_
    refine jr_seal (rt := rInt .i64) 72 4 (dropH 72 _) rfl rfl (by rw [dst_len, Nat.zero_add]; exact uniqS_len _) (dropH_sub 72 _) (dropH_no 72 _) ?_
    exact jr_fin3 Try.results38 (res_tmp rfl) (res_tmp rfl) (res_tmp rfl) ⟨rfl, rfl, rfl⟩ (by simp only [List.drop_zero, dst_take, List.take_of_length_le (Nat.le_refl _)]; rfl)

theorem rrefs_ok (e : List TNode) (hm : e.length ≤ 1000) : Ct Try.prog 36 [.tv (rSlice rNode) e] (sv3s (uniqS (refs pIn e)) (uniqS (refs pDef e)) (uniqS (refs pMem e))) := by
  refine ct_intro Try.func36 rfl rfl Try.ntmps36 rfl rfl ?_
  intro w0 ok0
  refine j_seq ?_
  refine j_region ?_
  refine jg_adr _ rfl _ rfl rfl (op_assign (.base rfl)) ?_
  refine jg_adr _ rfl _ rfl rfl (op_assign (.base rfl)) ?_
  refine jg_adr _ rfl _ rfl rfl (op_assign (.base rfl)) ?_
  refine jg_nil ?_
  refine jn_keep [0] [] (.cons rfl .nil) .nil ?_
  refine jn_seq (j_seq ?_)
  refine j_region ?_
  refine jg_adr _ rfl _ rfl rfl (op_assign (.base rfl)) ?_
  refine jg_adr _ rfl _ rfl rfl (op_assign (.base rfl)) ?_
  refine jg_adr _ rfl _ rfl rfl (op_assign (.base rfl)) ?_
  refine jg_nil ?_
  refine jn_keep [0, 5, 6, 7] [] (.cons rfl (.cons rfl (.cons rfl (.cons rfl .nil)))) .nil ?_
  refine jn_seq (j_seq (j_seq ?_))
  refine j_region ?_
  refine jg_adr _ rfl _ rfl rfl (op_assign (.base rfl)) ?_
  refine jg_nil ?_
  refine jn_keep [0, 5, 6, 7, 8] [] (.cons rfl (.cons rfl (.cons rfl (.cons rfl (.cons rfl .nil))))) .nil ?_
  refine jn_seq (j_block ?_)
  refine j_nil 5 (rInt .i64) rfl ?_
  refine j_nil 6 (rInt .i64) rfl ?_
  refine j_nil 7 (rInt .i64) rfl ?_
  refine j_loopp (ι := Nat) (fun k => ⟨[(0, .tv (rSlice rNode) e), (5, .tv (rSlice (rInt .i64)) (uniqS (refs pIn (e.take k)))), (6, .tv (rSlice (rInt .i64)) (uniqS (refs pDef (e.take k)))), (7, .tv (rSlice (rInt .i64)) (uniqS (refs pMem (e.take k)))), (8, .raw (.int .i64 ((k : Nat))))], []⟩) (fun k => k ≤ e.length) (fun k => e.length - k) 0 (Nat.zero_le _) (fun a w hi => (Sub.inv ⟨(by repeat (first | exact SubS_nil | refine SubS_cons rfl (by first | rfl | exact congrArg (SV.tv (rSlice (rInt .i64))) uniqS_nil.symm) ?_)), (by repeat (first | exact SubH_nil | refine SubH_cons rfl (by first | rfl | (simp; done) | assumption) ?_))⟩ hi)) ?_
  rintro k hk
  have l1 := refs_len (p := pIn) (l := e.take k)
  have l2 := refs_len (p := pDef) (l := e.take k)
  have l3 := refs_len (p := pMem) (l := e.take k)
  have l4 : (e.take k).length ≤ k := by simp; omega
  have u1 := uniqS_len (refs pIn (e.take k))
  have u2 := uniqS_len (refs pDef (e.take k))
  have u3 := uniqS_len (refs pMem (e.take k))
  refine j_seq (j_seq ?_)
  refine j_region ?_
  refine jg_adr _ rfl _ rfl rfl (op_move (.base rfl)) ?_
  refine jg_adr _ rfl _ rfl rfl (op_move (.base rfl)) ?_
  refine jg_adr _ rfl _ rfl rfl (op_len Try.underlying39 (.base rfl)) ?_
  refine jg_adr _ rfl _ rfl rfl (op_lss (.base rfl) (.base rfl)) ?_
  refine jg_nil ?_
  refine jn_keep [0, 5, 6, 7, 8, 13] [] (.cons rfl (.cons rfl (.cons rfl (.cons rfl (.cons rfl (.cons rfl .nil)))))) .nil ?_
  refine jn_seq ?_
  refine j_cond rfl (fun h3 => ?_) (fun h3 => ?_)
  · try simp at h3
    refine j_skip (jn_seq (j_seq (j_block (j_seq ?_))))
    refine j_region ?_
    refine jg_adr _ rfl _ rfl rfl (op_move (.base rfl)) ?_
    refine jg_adr _ rfl _ rfl rfl (op_move (.base rfl)) ?_
    refine jg_adr _ rfl _ rfl rfl (op_index Try.underlying39 ty63 (.base rfl) (.base rfl) rfl (List.getElem?_eq_getElem (by first | omega | (simp; done) | (simp; omega) | (simp at hg; omega)))) ?_
    refine jg_adr _ rfl _ rfl rfl (op_field fld63_0 ln63_0 (.base rfl)) ?_
    refine jg_adr _ rfl _ rfl rfl (op_load ty3 (.base rfl)) ?_
    refine jg_adr _ rfl _ rfl rfl (op_assign (.base rfl)) ?_
    refine jg_nil ?_
    refine jn_keep [0, 5, 6, 7, 8, 9] [] (.cons rfl (.cons rfl (.cons rfl (.cons rfl (.cons rfl (.cons rfl .nil)))))) .nil ?_
    refine jn_seq (j_seq (j_seq ?_))
    refine j_region ?_
    refine jg_adr _ rfl _ rfl rfl (op_move (.base rfl)) ?_
    refine jg_adr _ rfl _ rfl rfl (op_eql (.base rfl) (.base rfl)) ?_
    refine jg_nil ?_
    refine jn_keep [0, 5, 6, 7, 8, 9, 22] [] (.cons rfl (.cons rfl (.cons rfl (.cons rfl (.cons rfl (.cons rfl (.cons rfl .nil))))))) .nil ?_
    refine jn_seq ?_
    refine j_cond rfl (fun h6 => ?_) (fun h6 => ?_)
    · simp at h6
      refine j_region ?_
      refine jg_adr _ rfl _ rfl rfl (op_move (.base rfl)) ?_
      refine jg_adr _ rfl _ rfl rfl (op_move (.base rfl)) ?_
      refine jg_adr _ rfl _ rfl rfl (op_move (.base rfl)) ?_
      refine jg_adr _ rfl _ rfl rfl (op_index Try.underlying39 ty63 (.base rfl) (.base rfl) rfl (List.getElem?_eq_getElem (by first | omega | (simp; done) | (simp; omega) | (simp at hg; omega)))) ?_
      refine jg_adr _ rfl _ rfl rfl (op_field fld63_1 ln63_1 (.base rfl)) ?_
      refine jg_adr _ rfl _ rfl rfl (op_load ty3 (.base rfl)) ?_
      refine jg_adr _ rfl _ rfl rfl (op_call (rinsert_ok _ _ (by omega)) (.cons (.base rfl) (.cons (.base rfl) .nil)) rfl rfl) ?_
      refine jg_adr _ rfl _ rfl rfl (op_assign (.base rfl)) ?_
      refine jg_nil ?_
      refine jn_keep [0, 5, 6, 7, 8, 9] [] (.cons rfl (.cons rfl (.cons rfl (.cons rfl (.cons rfl (.cons rfl .nil)))))) .nil ?_
      refine jn_seq (j_seq (j_seq ?_))
      refine j_region ?_
      refine jg_adr _ rfl _ rfl rfl (op_move (.base rfl)) ?_
      refine jg_adr _ rfl _ rfl rfl (op_eql (.base rfl) (.base rfl)) ?_
      refine jg_nil ?_
      refine jn_keep [0, 5, 6, 7, 8, 9, 31] [] (.cons rfl (.cons rfl (.cons rfl (.cons rfl (.cons rfl (.cons rfl (.cons rfl .nil))))))) .nil ?_
      refine jn_seq ?_
      refine j_cond rfl (fun h8 => ?_) (fun h8 => ?_)
      · simp at h8
        refine j_region ?_
        refine jg_adr _ rfl _ rfl rfl (op_move (.base rfl)) ?_
        refine jg_adr _ rfl _ rfl rfl (op_move (.base rfl)) ?_
        refine jg_adr _ rfl _ rfl rfl (op_move (.base rfl)) ?_
        refine jg_adr _ rfl _ rfl rfl (op_index Try.underlying39 ty63 (.base rfl) (.base rfl) rfl (List.getElem?_eq_getElem (by first | omega | (simp; done) | (simp; omega) | (simp at hg; omega)))) ?_
        refine jg_adr _ rfl _ rfl rfl (op_field fld63_1 ln63_1 (.base rfl)) ?_
        refine jg_adr _ rfl _ rfl rfl (op_load ty3 (.base rfl)) ?_
        refine jg_adr _ rfl _ rfl rfl (op_call (rinsert_ok _ _ (by omega)) (.cons (.base rfl) (.cons (.base rfl) .nil)) rfl rfl) ?_
        refine jg_adr _ rfl _ rfl rfl (op_assign (.base rfl)) ?_
        refine jg_nil ?_
        refine jn_keep [0, 5, 6, 7, 8, 9] [] (.cons rfl (.cons rfl (.cons rfl (.cons rfl (.cons rfl (.cons rfl .nil)))))) .nil ?_
        refine jn_seq (j_seq ?_)
        refine j_region ?_
        refine jg_adr _ rfl _ rfl rfl (op_move (.base rfl)) ?_
        refine jg_adr _ rfl _ rfl rfl (op_geq (.base rfl) (.base rfl)) ?_
        refine jg_adr _ rfl _ rfl rfl (op_move (.base rfl)) ?_
        refine jg_gd _ _ _ _ _ _ rfl rfl rfl rfl rfl (fun hg => op_move (.base rfl)) ?_
        refine jg_gd _ _ _ _ _ _ rfl rfl rfl rfl rfl (fun hg => op_leq (.gd rfl hg) (.base rfl)) ?_
        refine jg_adr _ rfl _ rfl rfl (op_pick_and (.base rfl) (.base rfl) rfl (by intro h; first | (rw [h]; rfl) | (rw [hg, h]; rfl) | (rw [h, hg]; rfl) | simp_all)) ?_
        refine jg_nil ?_
        refine jn_keep [0, 5, 6, 7, 8, 44] [] (.cons rfl (.cons rfl (.cons rfl (.cons rfl (.cons rfl (.cons rfl .nil)))))) .nil ?_
        refine jn_seq ?_
        refine j_cond rfl (fun h10 => ?_) (fun h10 => ?_)
        · have hq : 36 ≤ e[k].1 ∧ e[k].1 ≤ 39 := by first | omega | (simp at h10; omega)
          have hA : (if pIn e[k].1 = true then insU e[k].2 (uniqS (refs pIn (e.take k))) else uniqS (refs pIn (e.take k))) = uniqS (refs pIn (e.take (k + 1))) := by split; exact ins_t (by omega) (by assumption); rename_i q; rw [refs_f (by omega) (Bool.eq_false_iff.2 q)]
          have hB : (if pDef e[k].1 = true then insU e[k].2 (uniqS (refs pDef (e.take k))) else uniqS (refs pDef (e.take k))) = uniqS (refs pDef (e.take (k + 1))) := by split; exact ins_t (by omega) (by assumption); rename_i q; rw [refs_f (by omega) (Bool.eq_false_iff.2 q)]
          have hC : (if pMem e[k].1 = true then insU e[k].2 (uniqS (refs pMem (e.take k))) else uniqS (refs pMem (e.take k))) = uniqS (refs pMem (e.take (k + 1))) := by split; exact ins_t (by omega) (by assumption); rename_i q; rw [refs_f (by omega) (Bool.eq_false_iff.2 q)]
          simp [pIn, h6] at hA
          simp [pDef, h8] at hB
          simp [pMem, hq] at hC
          refine j_region ?_
          refine jg_adr _ rfl _ rfl rfl (op_move (.base rfl)) ?_
          refine jg_adr _ rfl _ rfl rfl (op_move (.base rfl)) ?_
          refine jg_adr _ rfl _ rfl rfl (op_move (.base rfl)) ?_
          refine jg_adr _ rfl _ rfl rfl (op_index Try.underlying39 ty63 (.base rfl) (.base rfl) rfl (List.getElem?_eq_getElem (by first | omega | (simp; done) | (simp; omega) | (simp at hg; omega)))) ?_
          refine jg_adr _ rfl _ rfl rfl (op_field fld63_1 ln63_1 (.base rfl)) ?_
          refine jg_adr _ rfl _ rfl rfl (op_load ty3 (.base rfl)) ?_
          refine jg_adr _ rfl _ rfl rfl (op_call (rinsert_ok _ _ (by omega)) (.cons (.base rfl) (.cons (.base rfl) .nil)) rfl rfl) ?_
          refine jg_adr _ rfl _ rfl rfl (op_assign (.base rfl)) ?_
          refine jg_nil ?_
          refine jn_keep [0, 5, 6, 7, 8] [] (.cons rfl (.cons rfl (.cons rfl (.cons rfl (.cons rfl .nil))))) .nil ?_
          refine jn_blk (jn_seq ?_)
          refine j_region ?_
          refine jg_adr _ rfl _ rfl rfl (op_move (.base rfl)) ?_
          refine jg_adr _ rfl _ rfl rfl (op_add (.base rfl) (.base rfl) (w64 (by omega))) ?_
          refine jg_adr _ rfl _ rfl rfl (op_assign (.base rfl)) ?_
          refine jg_nil ?_
          refine jn_keep [0, 5, 6, 7, 8] [] (.cons rfl (.cons rfl (.cons rfl (.cons rfl (.cons rfl .nil))))) .nil ?_
          exact jn_loop (fun a w hi => ⟨k + 1, (by omega), (by omega), Sub.inv ⟨(by repeat (first | exact SubS_nil | refine SubS_cons rfl (by first | rfl | exact congrArg (SV.tv (rSlice (rInt .i64))) hA | exact congrArg (SV.tv (rSlice (rInt .i64))) hA.symm | exact congrArg (SV.tv (rSlice (rInt .i64))) hB | exact congrArg (SV.tv (rSlice (rInt .i64))) hB.symm | exact congrArg (SV.tv (rSlice (rInt .i64))) hC | exact congrArg (SV.tv (rSlice (rInt .i64))) hC.symm) ?_)), (by repeat (first | exact SubH_nil | refine SubH_cons rfl (by first | rfl | (simp; done) | assumption) ?_))⟩ hi⟩)
        · have hq : ¬ (36 ≤ e[k].1 ∧ e[k].1 ≤ 39) := by first | omega | (simp at h10; omega)
          have hA : (if pIn e[k].1 = true then insU e[k].2 (uniqS (refs pIn (e.take k))) else uniqS (refs pIn (e.take k))) = uniqS (refs pIn (e.take (k + 1))) := by split; exact ins_t (by omega) (by assumption); rename_i q; rw [refs_f (by omega) (Bool.eq_false_iff.2 q)]
          have hB : (if pDef e[k].1 = true then insU e[k].2 (uniqS (refs pDef (e.take k))) else uniqS (refs pDef (e.take k))) = uniqS (refs pDef (e.take (k + 1))) := by split; exact ins_t (by omega) (by assumption); rename_i q; rw [refs_f (by omega) (Bool.eq_false_iff.2 q)]
          have hC : (if pMem e[k].1 = true then insU e[k].2 (uniqS (refs pMem (e.take k))) else uniqS (refs pMem (e.take k))) = uniqS (refs pMem (e.take (k + 1))) := by split; exact ins_t (by omega) (by assumption); rename_i q; rw [refs_f (by omega) (Bool.eq_false_iff.2 q)]
          simp [pIn, h6] at hA
          simp [pDef, h8] at hB
          rw [if_neg (by simp [pMem]; omega)] at hC
          refine j_skip (jn_blk (jn_seq ?_))
          refine j_region ?_
          refine jg_adr _ rfl _ rfl rfl (op_move (.base rfl)) ?_
          refine jg_adr _ rfl _ rfl rfl (op_add (.base rfl) (.base rfl) (w64 (by omega))) ?_
          refine jg_adr _ rfl _ rfl rfl (op_assign (.base rfl)) ?_
          refine jg_nil ?_
          refine jn_keep [0, 5, 6, 7, 8] [] (.cons rfl (.cons rfl (.cons rfl (.cons rfl (.cons rfl .nil))))) .nil ?_
          exact jn_loop (fun a w hi => ⟨k + 1, (by omega), (by omega), Sub.inv ⟨(by repeat (first | exact SubS_nil | refine SubS_cons rfl (by first | rfl | exact congrArg (SV.tv (rSlice (rInt .i64))) hA | exact congrArg (SV.tv (rSlice (rInt .i64))) hA.symm | exact congrArg (SV.tv (rSlice (rInt .i64))) hB | exact congrArg (SV.tv (rSlice (rInt .i64))) hB.symm | exact congrArg (SV.tv (rSlice (rInt .i64))) hC | exact congrArg (SV.tv (rSlice (rInt .i64))) hC.symm) ?_)), (by repeat (first | exact SubH_nil | refine SubH_cons rfl (by first | rfl | (simp; done) | assumption) ?_))⟩ hi⟩)
      · simp at h8
        refine j_skip (jn_seq (j_seq ?_))
        refine j_region ?_
        refine jg_adr _ rfl _ rfl rfl (op_move (.base rfl)) ?_
        refine jg_adr _ rfl _ rfl rfl (op_geq (.base rfl) (.base rfl)) ?_
        refine jg_adr _ rfl _ rfl rfl (op_move (.base rfl)) ?_
        refine jg_gd _ _ _ _ _ _ rfl rfl rfl rfl rfl (fun hg => op_move (.base rfl)) ?_
        refine jg_gd _ _ _ _ _ _ rfl rfl rfl rfl rfl (fun hg => op_leq (.gd rfl hg) (.base rfl)) ?_
        refine jg_adr _ rfl _ rfl rfl (op_pick_and (.base rfl) (.base rfl) rfl (by intro h; first | (rw [h]; rfl) | (rw [hg, h]; rfl) | (rw [h, hg]; rfl) | simp_all)) ?_
        refine jg_nil ?_
        refine jn_keep [0, 5, 6, 7, 8, 44] [] (.cons rfl (.cons rfl (.cons rfl (.cons rfl (.cons rfl (.cons rfl .nil)))))) .nil ?_
        refine jn_seq ?_
        refine j_cond rfl (fun h10 => ?_) (fun h10 => ?_)
        · have hq : 36 ≤ e[k].1 ∧ e[k].1 ≤ 39 := by first | omega | (simp at h10; omega)
          have hA : (if pIn e[k].1 = true then insU e[k].2 (uniqS (refs pIn (e.take k))) else uniqS (refs pIn (e.take k))) = uniqS (refs pIn (e.take (k + 1))) := by split; exact ins_t (by omega) (by assumption); rename_i q; rw [refs_f (by omega) (Bool.eq_false_iff.2 q)]
          have hB : (if pDef e[k].1 = true then insU e[k].2 (uniqS (refs pDef (e.take k))) else uniqS (refs pDef (e.take k))) = uniqS (refs pDef (e.take (k + 1))) := by split; exact ins_t (by omega) (by assumption); rename_i q; rw [refs_f (by omega) (Bool.eq_false_iff.2 q)]
          have hC : (if pMem e[k].1 = true then insU e[k].2 (uniqS (refs pMem (e.take k))) else uniqS (refs pMem (e.take k))) = uniqS (refs pMem (e.take (k + 1))) := by split; exact ins_t (by omega) (by assumption); rename_i q; rw [refs_f (by omega) (Bool.eq_false_iff.2 q)]
          simp [pIn, h6] at hA
          simp [pDef, h8] at hB
          simp [pMem, hq] at hC
          refine j_region ?_
          refine jg_adr _ rfl _ rfl rfl (op_move (.base rfl)) ?_
          refine jg_adr _ rfl _ rfl rfl (op_move (.base rfl)) ?_
          refine jg_adr _ rfl _ rfl rfl (op_move (.base rfl)) ?_
          refine jg_adr _ rfl _ rfl rfl (op_index Try.underlying39 ty63 (.base rfl) (.base rfl) rfl (List.getElem?_eq_getElem (by first | omega | (simp; done) | (simp; omega) | (simp at hg; omega)))) ?_
          refine jg_adr _ rfl _ rfl rfl (op_field fld63_1 ln63_1 (.base rfl)) ?_
          refine jg_adr _ rfl _ rfl rfl (op_load ty3 (.base rfl)) ?_
          refine jg_adr _ rfl _ rfl rfl (op_call (rinsert_ok _ _ (by omega)) (.cons (.base rfl) (.cons (.base rfl) .nil)) rfl rfl) ?_
          refine jg_adr _ rfl _ rfl rfl (op_assign (.base rfl)) ?_
          refine jg_nil ?_
          refine jn_keep [0, 5, 6, 7, 8] [] (.cons rfl (.cons rfl (.cons rfl (.cons rfl (.cons rfl .nil))))) .nil ?_
          refine jn_blk (jn_seq ?_)
          refine j_region ?_
          refine jg_adr _ rfl _ rfl rfl (op_move (.base rfl)) ?_
          refine jg_adr _ rfl _ rfl rfl (op_add (.base rfl) (.base rfl) (w64 (by omega))) ?_
          refine jg_adr _ rfl _ rfl rfl (op_assign (.base rfl)) ?_
          refine jg_nil ?_
          refine jn_keep [0, 5, 6, 7, 8] [] (.cons rfl (.cons rfl (.cons rfl (.cons rfl (.cons rfl .nil))))) .nil ?_
          exact jn_loop (fun a w hi => ⟨k + 1, (by omega), (by omega), Sub.inv ⟨(by repeat (first | exact SubS_nil | refine SubS_cons rfl (by first | rfl | exact congrArg (SV.tv (rSlice (rInt .i64))) hA | exact congrArg (SV.tv (rSlice (rInt .i64))) hA.symm | exact congrArg (SV.tv (rSlice (rInt .i64))) hB | exact congrArg (SV.tv (rSlice (rInt .i64))) hB.symm | exact congrArg (SV.tv (rSlice (rInt .i64))) hC | exact congrArg (SV.tv (rSlice (rInt .i64))) hC.symm) ?_)), (by repeat (first | exact SubH_nil | refine SubH_cons rfl (by first | rfl | (simp; done) | assumption) ?_))⟩ hi⟩)
        · have hq : ¬ (36 ≤ e[k].1 ∧ e[k].1 ≤ 39) := by first | omega | (simp at h10; omega)
          have hA : (if pIn e[k].1 = true then insU e[k].2 (uniqS (refs pIn (e.take k))) else uniqS (refs pIn (e.take k))) = uniqS (refs pIn (e.take (k + 1))) := by split; exact ins_t (by omega) (by assumption); rename_i q; rw [refs_f (by omega) (Bool.eq_false_iff.2 q)]
          have hB : (if pDef e[k].1 = true then insU e[k].2 (uniqS (refs pDef (e.take k))) else uniqS (refs pDef (e.take k))) = uniqS (refs pDef (e.take (k + 1))) := by split; exact ins_t (by omega) (by assumption); rename_i q; rw [refs_f (by omega) (Bool.eq_false_iff.2 q)]
          have hC : (if pMem e[k].1 = true then insU e[k].2 (uniqS (refs pMem (e.take k))) else uniqS (refs pMem (e.take k))) = uniqS (refs pMem (e.take (k + 1))) := by split; exact ins_t (by omega) (by assumption); rename_i q; rw [refs_f (by omega) (Bool.eq_false_iff.2 q)]
          simp [pIn, h6] at hA
          simp [pDef, h8] at hB
          rw [if_neg (by simp [pMem]; omega)] at hC
          refine j_skip (jn_blk (jn_seq ?_))
          refine j_region ?_
          refine jg_adr _ rfl _ rfl rfl (op_move (.base rfl)) ?_
          refine jg_adr _ rfl _ rfl rfl (op_add (.base rfl) (.base rfl) (w64 (by omega))) ?_
          refine jg_adr _ rfl _ rfl rfl (op_assign (.base rfl)) ?_
          refine jg_nil ?_
          refine jn_keep [0, 5, 6, 7, 8] [] (.cons rfl (.cons rfl (.cons rfl (.cons rfl (.cons rfl .nil))))) .nil ?_
          exact jn_loop (fun a w hi => ⟨k + 1, (by omega), (by omega), Sub.inv ⟨(by repeat (first | exact SubS_nil | refine SubS_cons rfl (by first | rfl | exact congrArg (SV.tv (rSlice (rInt .i64))) hA | exact congrArg (SV.tv (rSlice (rInt .i64))) hA.symm | exact congrArg (SV.tv (rSlice (rInt .i64))) hB | exact congrArg (SV.tv (rSlice (rInt .i64))) hB.symm | exact congrArg (SV.tv (rSlice (rInt .i64))) hC | exact congrArg (SV.tv (rSlice (rInt .i64))) hC.symm) ?_)), (by repeat (first | exact SubH_nil | refine SubH_cons rfl (by first | rfl | (simp; done) | assumption) ?_))⟩ hi⟩)
    · simp at h6
      refine j_skip (jn_seq (j_seq (j_seq ?_)))
      refine j_region ?_
      refine jg_adr _ rfl _ rfl rfl (op_move (.base rfl)) ?_
      refine jg_adr _ rfl _ rfl rfl (op_eql (.base rfl) (.base rfl)) ?_
      refine jg_nil ?_
      refine jn_keep [0, 5, 6, 7, 8, 9, 31] [] (.cons rfl (.cons rfl (.cons rfl (.cons rfl (.cons rfl (.cons rfl (.cons rfl .nil))))))) .nil ?_
      refine jn_seq ?_
      refine j_cond rfl (fun h8 => ?_) (fun h8 => ?_)
      · simp at h8
        refine j_region ?_
        refine jg_adr _ rfl _ rfl rfl (op_move (.base rfl)) ?_
        refine jg_adr _ rfl _ rfl rfl (op_move (.base rfl)) ?_
        refine jg_adr _ rfl _ rfl rfl (op_move (.base rfl)) ?_
        refine jg_adr _ rfl _ rfl rfl (op_index Try.underlying39 ty63 (.base rfl) (.base rfl) rfl (List.getElem?_eq_getElem (by first | omega | (simp; done) | (simp; omega) | (simp at hg; omega)))) ?_
        refine jg_adr _ rfl _ rfl rfl (op_field fld63_1 ln63_1 (.base rfl)) ?_
        refine jg_adr _ rfl _ rfl rfl (op_load ty3 (.base rfl)) ?_
        refine jg_adr _ rfl _ rfl rfl (op_call (rinsert_ok _ _ (by omega)) (.cons (.base rfl) (.cons (.base rfl) .nil)) rfl rfl) ?_
        refine jg_adr _ rfl _ rfl rfl (op_assign (.base rfl)) ?_
        refine jg_nil ?_
        refine jn_keep [0, 5, 6, 7, 8, 9] [] (.cons rfl (.cons rfl (.cons rfl (.cons rfl (.cons rfl (.cons rfl .nil)))))) .nil ?_
        refine jn_seq (j_seq ?_)
        refine j_region ?_
        refine jg_adr _ rfl _ rfl rfl (op_move (.base rfl)) ?_
        refine jg_adr _ rfl _ rfl rfl (op_geq (.base rfl) (.base rfl)) ?_
        refine jg_adr _ rfl _ rfl rfl (op_move (.base rfl)) ?_
        refine jg_gd _ _ _ _ _ _ rfl rfl rfl rfl rfl (fun hg => op_move (.base rfl)) ?_
        refine jg_gd _ _ _ _ _ _ rfl rfl rfl rfl rfl (fun hg => op_leq (.gd rfl hg) (.base rfl)) ?_
        refine jg_adr _ rfl _ rfl rfl (op_pick_and (.base rfl) (.base rfl) rfl (by intro h; first | (rw [h]; rfl) | (rw [hg, h]; rfl) | (rw [h, hg]; rfl) | simp_all)) ?_
        refine jg_nil ?_
        refine jn_keep [0, 5, 6, 7, 8, 44] [] (.cons rfl (.cons rfl (.cons rfl (.cons rfl (.cons rfl (.cons rfl .nil)))))) .nil ?_
        refine jn_seq ?_
        refine j_cond rfl (fun h10 => ?_) (fun h10 => ?_)
        · have hq : 36 ≤ e[k].1 ∧ e[k].1 ≤ 39 := by first | omega | (simp at h10; omega)
          have hA : (if pIn e[k].1 = true then insU e[k].2 (uniqS (refs pIn (e.take k))) else uniqS (refs pIn (e.take k))) = uniqS (refs pIn (e.take (k + 1))) := by split; exact ins_t (by omega) (by assumption); rename_i q; rw [refs_f (by omega) (Bool.eq_false_iff.2 q)]
          have hB : (if pDef e[k].1 = true then insU e[k].2 (uniqS (refs pDef (e.take k))) else uniqS (refs pDef (e.take k))) = uniqS (refs pDef (e.take (k + 1))) := by split; exact ins_t (by omega) (by assumption); rename_i q; rw [refs_f (by omega) (Bool.eq_false_iff.2 q)]
          have hC : (if pMem e[k].1 = true then insU e[k].2 (uniqS (refs pMem (e.take k))) else uniqS (refs pMem (e.take k))) = uniqS (refs pMem (e.take (k + 1))) := by split; exact ins_t (by omega) (by assumption); rename_i q; rw [refs_f (by omega) (Bool.eq_false_iff.2 q)]
          simp [pIn, h6] at hA
          simp [pDef, h8] at hB
          simp [pMem, hq] at hC
          refine j_region ?_
          refine jg_adr _ rfl _ rfl rfl (op_move (.base rfl)) ?_
          refine jg_adr _ rfl _ rfl rfl (op_move (.base rfl)) ?_
          refine jg_adr _ rfl _ rfl rfl (op_move (.base rfl)) ?_
          refine jg_adr _ rfl _ rfl rfl (op_index Try.underlying39 ty63 (.base rfl) (.base rfl) rfl (List.getElem?_eq_getElem (by first | omega | (simp; done) | (simp; omega) | (simp at hg; omega)))) ?_
          refine jg_adr _ rfl _ rfl rfl (op_field fld63_1 ln63_1 (.base rfl)) ?_
          refine jg_adr _ rfl _ rfl rfl (op_load ty3 (.base rfl)) ?_
          refine jg_adr _ rfl _ rfl rfl (op_call (rinsert_ok _ _ (by omega)) (.cons (.base rfl) (.cons (.base rfl) .nil)) rfl rfl) ?_
          refine jg_adr _ rfl _ rfl rfl (op_assign (.base rfl)) ?_
          refine jg_nil ?_
          refine jn_keep [0, 5, 6, 7, 8] [] (.cons rfl (.cons rfl (.cons rfl (.cons rfl (.cons rfl .nil))))) .nil ?_
          refine jn_blk (jn_seq ?_)
          refine j_region ?_
          refine jg_adr _ rfl _ rfl rfl (op_move (.base rfl)) ?_
          refine jg_adr _ rfl _ rfl rfl (op_add (.base rfl) (.base rfl) (w64 (by omega))) ?_
          refine jg_adr _ rfl _ rfl rfl (op_assign (.base rfl)) ?_
          refine jg_nil ?_
          refine jn_keep [0, 5, 6, 7, 8] [] (.cons rfl (.cons rfl (.cons rfl (.cons rfl (.cons rfl .nil))))) .nil ?_
          exact jn_loop (fun a w hi => ⟨k + 1, (by omega), (by omega), Sub.inv ⟨(by repeat (first | exact SubS_nil | refine SubS_cons rfl (by first | rfl | exact congrArg (SV.tv (rSlice (rInt .i64))) hA | exact congrArg (SV.tv (rSlice (rInt .i64))) hA.symm | exact congrArg (SV.tv (rSlice (rInt .i64))) hB | exact congrArg (SV.tv (rSlice (rInt .i64))) hB.symm | exact congrArg (SV.tv (rSlice (rInt .i64))) hC | exact congrArg (SV.tv (rSlice (rInt .i64))) hC.symm) ?_)), (by repeat (first | exact SubH_nil | refine SubH_cons rfl (by first | rfl | (simp; done) | assumption) ?_))⟩ hi⟩)
        · have hq : ¬ (36 ≤ e[k].1 ∧ e[k].1 ≤ 39) := by first | omega | (simp at h10; omega)
          have hA : (if pIn e[k].1 = true then insU e[k].2 (uniqS (refs pIn (e.take k))) else uniqS (refs pIn (e.take k))) = uniqS (refs pIn (e.take (k + 1))) := by split; exact ins_t (by omega) (by assumption); rename_i q; rw [refs_f (by omega) (Bool.eq_false_iff.2 q)]
          have hB : (if pDef e[k].1 = true then insU e[k].2 (uniqS (refs pDef (e.take k))) else uniqS (refs pDef (e.take k))) = uniqS (refs pDef (e.take (k + 1))) := by split; exact ins_t (by omega) (by assumption); rename_i q; rw [refs_f (by omega) (Bool.eq_false_iff.2 q)]
          have hC : (if pMem e[k].1 = true then insU e[k].2 (uniqS (refs pMem (e.take k))) else uniqS (refs pMem (e.take k))) = uniqS (refs pMem (e.take (k + 1))) := by split; exact ins_t (by omega) (by assumption); rename_i q; rw [refs_f (by omega) (Bool.eq_false_iff.2 q)]
          simp [pIn, h6] at hA
          simp [pDef, h8] at hB
          rw [if_neg (by simp [pMem]; omega)] at hC
          refine j_skip (jn_blk (jn_seq ?_))
          refine j_region ?_
          refine jg_adr _ rfl _ rfl rfl (op_move (.base rfl)) ?_
          refine jg_adr _ rfl _ rfl rfl (op_add (.base rfl) (.base rfl) (w64 (by omega))) ?_
          refine jg_adr _ rfl _ rfl rfl (op_assign (.base rfl)) ?_
          refine jg_nil ?_
          refine jn_keep [0, 5, 6, 7, 8] [] (.cons rfl (.cons rfl (.cons rfl (.cons rfl (.cons rfl .nil))))) .nil ?_
          exact jn_loop (fun a w hi => ⟨k + 1, (by omega), (by omega), Sub.inv ⟨(by repeat (first | exact SubS_nil | refine SubS_cons rfl (by first | rfl | exact congrArg (SV.tv (rSlice (rInt .i64))) hA | exact congrArg (SV.tv (rSlice (rInt .i64))) hA.symm | exact congrArg (SV.tv (rSlice (rInt .i64))) hB | exact congrArg (SV.tv (rSlice (rInt .i64))) hB.symm | exact congrArg (SV.tv (rSlice (rInt .i64))) hC | exact congrArg (SV.tv (rSlice (rInt .i64))) hC.symm) ?_)), (by repeat (first | exact SubH_nil | refine SubH_cons rfl (by first | rfl | (simp; done) | assumption) ?_))⟩ hi⟩)
      · simp at h8
        refine j_skip (jn_seq (j_seq ?_))
        refine j_region ?_
        refine jg_adr _ rfl _ rfl rfl (op_move (.base rfl)) ?_
        refine jg_adr _ rfl _ rfl rfl (op_geq (.base rfl) (.base rfl)) ?_
        refine jg_adr _ rfl _ rfl rfl (op_move (.base rfl)) ?_
        refine jg_gd _ _ _ _ _ _ rfl rfl rfl rfl rfl (fun hg => op_move (.base rfl)) ?_
        refine jg_gd _ _ _ _ _ _ rfl rfl rfl rfl rfl (fun hg => op_leq (.gd rfl hg) (.base rfl)) ?_
        refine jg_adr _ rfl _ rfl rfl (op_pick_and (.base rfl) (.base rfl) rfl (by intro h; first | (rw [h]; rfl) | (rw [hg, h]; rfl) | (rw [h, hg]; rfl) | simp_all)) ?_
        refine jg_nil ?_
        refine jn_keep [0, 5, 6, 7, 8, 44] [] (.cons rfl (.cons rfl (.cons rfl (.cons rfl (.cons rfl (.cons rfl .nil)))))) .nil ?_
        refine jn_seq ?_
        refine j_cond rfl (fun h10 => ?_) (fun h10 => ?_)
        · have hq : 36 ≤ e[k].1 ∧ e[k].1 ≤ 39 := by first | omega | (simp at h10; omega)
          have hA : (if pIn e[k].1 = true then insU e[k].2 (uniqS (refs pIn (e.take k))) else uniqS (refs pIn (e.take k))) = uniqS (refs pIn (e.take (k + 1))) := by split; exact ins_t (by omega) (by assumption); rename_i q; rw [refs_f (by omega) (Bool.eq_false_iff.2 q)]
          have hB : (if pDef e[k].1 = true then insU e[k].2 (uniqS (refs pDef (e.take k))) else uniqS (refs pDef (e.take k))) = uniqS (refs pDef (e.take (k + 1))) := by split; exact ins_t (by omega) (by assumption); rename_i q; rw [refs_f (by omega) (Bool.eq_false_iff.2 q)]
          have hC : (if pMem e[k].1 = true then insU e[k].2 (uniqS (refs pMem (e.take k))) else uniqS (refs pMem (e.take k))) = uniqS (refs pMem (e.take (k + 1))) := by split; exact ins_t (by omega) (by assumption); rename_i q; rw [refs_f (by omega) (Bool.eq_false_iff.2 q)]
          simp [pIn, h6] at hA
          simp [pDef, h8] at hB
          simp [pMem, hq] at hC
          refine j_region ?_
          refine jg_adr _ rfl _ rfl rfl (op_move (.base rfl)) ?_
          refine jg_adr _ rfl _ rfl rfl (op_move (.base rfl)) ?_
          refine jg_adr _ rfl _ rfl rfl (op_move (.base rfl)) ?_
          refine jg_adr _ rfl _ rfl rfl (op_index Try.underlying39 ty63 (.base rfl) (.base rfl) rfl (List.getElem?_eq_getElem (by first | omega | (simp; done) | (simp; omega) | (simp at hg; omega)))) ?_
          refine jg_adr _ rfl _ rfl rfl (op_field fld63_1 ln63_1 (.base rfl)) ?_
          refine jg_adr _ rfl _ rfl rfl (op_load ty3 (.base rfl)) ?_
          refine jg_adr _ rfl _ rfl rfl (op_call (rinsert_ok _ _ (by omega)) (.cons (.base rfl) (.cons (.base rfl) .nil)) rfl rfl) ?_
          refine jg_adr _ rfl _ rfl rfl (op_assign (.base rfl)) ?_
          refine jg_nil ?_
          refine jn_keep [0, 5, 6, 7, 8] [] (.cons rfl (.cons rfl (.cons rfl (.cons rfl (.cons rfl .nil))))) .nil ?_
          refine jn_blk (jn_seq ?_)
          refine j_region ?_
          refine jg_adr _ rfl _ rfl rfl (op_move (.base rfl)) ?_
          refine jg_adr _ rfl _ rfl rfl (op_add (.base rfl) (.base rfl) (w64 (by omega))) ?_
          refine jg_adr _ rfl _ rfl rfl (op_assign (.base rfl)) ?_
          refine jg_nil ?_
          refine jn_keep [0, 5, 6, 7, 8] [] (.cons rfl (.cons rfl (.cons rfl (.cons rfl (.cons rfl .nil))))) .nil ?_
          exact jn_loop (fun a w hi => ⟨k + 1, (by omega), (by omega), Sub.inv ⟨(by repeat (first | exact SubS_nil | refine SubS_cons rfl (by first | rfl | exact congrArg (SV.tv (rSlice (rInt .i64))) hA | exact congrArg (SV.tv (rSlice (rInt .i64))) hA.symm | exact congrArg (SV.tv (rSlice (rInt .i64))) hB | exact congrArg (SV.tv (rSlice (rInt .i64))) hB.symm | exact congrArg (SV.tv (rSlice (rInt .i64))) hC | exact congrArg (SV.tv (rSlice (rInt .i64))) hC.symm) ?_)), (by repeat (first | exact SubH_nil | refine SubH_cons rfl (by first | rfl | (simp; done) | assumption) ?_))⟩ hi⟩)
        · have hq : ¬ (36 ≤ e[k].1 ∧ e[k].1 ≤ 39) := by first | omega | (simp at h10; omega)
          have hA : (if pIn e[k].1 = true then insU e[k].2 (uniqS (refs pIn (e.take k))) else uniqS (refs pIn (e.take k))) = uniqS (refs pIn (e.take (k + 1))) := by split; exact ins_t (by omega) (by assumption); rename_i q; rw [refs_f (by omega) (Bool.eq_false_iff.2 q)]
          have hB : (if pDef e[k].1 = true then insU e[k].2 (uniqS (refs pDef (e.take k))) else uniqS (refs pDef (e.take k))) = uniqS (refs pDef (e.take (k + 1))) := by split; exact ins_t (by omega) (by assumption); rename_i q; rw [refs_f (by omega) (Bool.eq_false_iff.2 q)]
          have hC : (if pMem e[k].1 = true then insU e[k].2 (uniqS (refs pMem (e.take k))) else uniqS (refs pMem (e.take k))) = uniqS (refs pMem (e.take (k + 1))) := by split; exact ins_t (by omega) (by assumption); rename_i q; rw [refs_f (by omega) (Bool.eq_false_iff.2 q)]
          simp [pIn, h6] at hA
          simp [pDef, h8] at hB
          rw [if_neg (by simp [pMem]; omega)] at hC
          refine j_skip (jn_blk (jn_seq ?_))
          refine j_region ?_
          refine jg_adr _ rfl _ rfl rfl (op_move (.base rfl)) ?_
          refine jg_adr _ rfl _ rfl rfl (op_add (.base rfl) (.base rfl) (w64 (by omega))) ?_
          refine jg_adr _ rfl _ rfl rfl (op_assign (.base rfl)) ?_
          refine jg_nil ?_
          refine jn_keep [0, 5, 6, 7, 8] [] (.cons rfl (.cons rfl (.cons rfl (.cons rfl (.cons rfl .nil))))) .nil ?_
          exact jn_loop (fun a w hi => ⟨k + 1, (by omega), (by omega), Sub.inv ⟨(by repeat (first | exact SubS_nil | refine SubS_cons rfl (by first | rfl | exact congrArg (SV.tv (rSlice (rInt .i64))) hA | exact congrArg (SV.tv (rSlice (rInt .i64))) hA.symm | exact congrArg (SV.tv (rSlice (rInt .i64))) hB | exact congrArg (SV.tv (rSlice (rInt .i64))) hB.symm | exact congrArg (SV.tv (rSlice (rInt .i64))) hC | exact congrArg (SV.tv (rSlice (rInt .i64))) hC.symm) ?_)), (by repeat (first | exact SubH_nil | refine SubH_cons rfl (by first | rfl | (simp; done) | assumption) ?_))⟩ hi⟩)
  · try simp at h3
    refine j_exit (je_seq (je_loop (je_blk (jn_seq (j_seq ?_)))))
    have hke : k = e.length := by omega
    subst hke
    refine j_region ?_
    refine jg_adr _ rfl _ rfl rfl (op_move (.base rfl)) ?_
    refine jg_adr _ rfl _ rfl rfl (op_move (.base rfl)) ?_
    refine jg_adr _ rfl _ rfl rfl (op_move (.base rfl)) ?_
    refine jg_adr _ rfl _ rfl rfl (op_assign (.base rfl)) ?_
    refine jg_adr _ rfl _ rfl rfl (op_assign (.base rfl)) ?_
    refine jg_adr _ rfl _ rfl rfl (op_assign (.base rfl)) ?_
    refine jg_nil ?_
    refine jn_keep [2, 3, 4] [] (.cons rfl (.cons rfl (.cons rfl .nil))) .nil ?_
    refine jn_seq (j_ret ?_)
    exact jr_fin3 Try.results36 (res_tmp rfl) (res_tmp rfl) (res_tmp rfl) ⟨rfl, rfl, rfl⟩ (by rw [List.take_of_length_le (Nat.le_refl _)]; rfl)

end Go.Proofs.Ytemcooggkcneiaa
