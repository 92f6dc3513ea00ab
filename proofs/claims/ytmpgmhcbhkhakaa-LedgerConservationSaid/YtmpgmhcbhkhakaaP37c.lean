import Derived.Test.YtmpgmhcbhkhakaaP37b
import Derived.Test.YtmpgmhcbhkhakaaTurns
import Derived.Test.YtmpgmhcbhkhakaaEng18
namespace Go.Proofs.Ytmpgmhcbhkhakaa
open Go.Eng
set_option maxRecDepth 100000
set_option maxHeartbeats 4000000
set_option linter.unusedVariables false
set_option linter.unusedSimpArgs false


def mon (l : List Po) : List Int := l.map fun p => p.2.1
theorem mon_succ {l : List Po} {k : Nat} (h : k < l.length) : mon (l.take (k + 1)) = mon (l.take k) ++ [l[k].2.1] := by unfold mon; rw [← List.take_append_getElem h, List.map_append]; rfl
theorem mon_len (l : List Po) : (mon l).length = l.length := by simp [mon]
theorem cpt_take (zs : List Int) : (cptZ zs).take (Lib.compact zs).length = Lib.compact zs := List.take_left' rfl
/-- an insertion, element by element -/
def insStep (x : Int) (s : List Int × Bool) (y : Int) : List Int × Bool := if s.2 = false ∧ y ≥ x then ((if y > x then s.1 ++ [x] else s.1) ++ [y], true) else (s.1 ++ [y], s.2)
def insP (u : List Int) (x : Int) (j : Nat) : List Int × Bool := (u.take j).foldl (insStep x) ([], false)
theorem insP_succ {u : List Int} {x : Int} {j : Nat} (h : j < u.length) : insP u x (j + 1) = insStep x (insP u x j) u[j] := by unfold insP; rw [← List.take_append_getElem h, List.foldl_append]; rfl
theorem ins_done (x : Int) : ∀ (u acc : List Int), u.foldl (insStep x) (acc, true) = (acc ++ u, true)
  | [], acc => by simp
  | y :: r, acc => by rw [List.foldl_cons]; simp only [insStep]; rw [if_neg (by simp), ins_done x r]; simp
theorem ins_all (x : Int) : ∀ (u acc : List Int), (let r := u.foldl (insStep x) (acc, false); if r.2 then r.1 else r.1 ++ [x]) = acc ++ insU x u
  | [], acc => by simp [insU]
  | y :: r, acc => by
    rw [List.foldl_cons]
    by_cases h : y ≥ x
    · have e : insStep x (acc, false) y = ((if y > x then acc ++ [x] else acc) ++ [y], true) := by unfold insStep; rw [if_pos ⟨rfl, h⟩]
      rw [e, ins_done]
      unfold insU
      by_cases h2 : y > x
      · simp [h2]
      · have h3 : x = y := by omega
        simp [h3]
    · have e : insStep x (acc, false) y = (acc ++ [y], false) := by unfold insStep; rw [if_neg (by simp; omega)]
      rw [e, ins_all x r, show insU x (y :: r) = y :: insU x r from by rw [insU, if_neg (by omega), if_neg (by omega)]]
      simp
theorem insP_full {u : List Int} {x : Int} {j : Nat} (h : u.length ≤ j) : (if (insP u x j).2 then (insP u x j).1 else (insP u x j).1 ++ [x]) = insU x u := by
  have := ins_all x u []
  unfold insP; rw [List.take_of_length_le h]; simpa using this
theorem insP_len {u : List Int} {x : Int} : ∀ j, (insP u x j).1.length ≤ 2 * j
  | 0 => by simp [insP]
  | j + 1 => by
    rcases Nat.lt_or_ge j u.length with h | h
    · rw [insP_succ h]; have := insP_len (u := u) (x := x) j
      unfold insStep; split
      · split <;> simp <;> omega
      · simp; omega
    · have e : insP u x (j + 1) = insP u x j := by unfold insP; rw [List.take_of_length_le (by omega), List.take_of_length_le h]
      rw [e]; have := insP_len (u := u) (x := x) j; omega
theorem insP_a {u : List Int} {x : Int} {j : Nat} (h : j < u.length) (h1 : (insP u x j).2 = false) (h2 : u[j] > x) : insP u x (j + 1) = ((insP u x j).1 ++ [x] ++ [u[j]], true) := by rw [insP_succ h]; unfold insStep; rw [if_pos ⟨h1, by omega⟩, if_pos h2]
theorem insP_b {u : List Int} {x : Int} {j : Nat} (h : j < u.length) (h1 : (insP u x j).2 = false) (h2 : u[j] ≥ x) (h3 : ¬ u[j] > x) : insP u x (j + 1) = ((insP u x j).1 ++ [u[j]], true) := by rw [insP_succ h]; unfold insStep; rw [if_pos ⟨h1, h2⟩, if_neg h3]
theorem insP_c {u : List Int} {x : Int} {j : Nat} (h : j < u.length) (h1 : ¬ ((insP u x j).2 = false ∧ u[j] ≥ x)) : insP u x (j + 1) = ((insP u x j).1 ++ [u[j]], (insP u x j).2) := by rw [insP_succ h]; unfold insStep; rw [if_neg h1]

theorem months_o (l : List Po) (hlm : l.length ≤ 100000) : CtO Try.prog 18 [.tv (rSlice rPosting) l] (rInt .i64) (uniqS (mon l)) := by
  refine ctO_intro Try.func18 rfl rfl Try.ntmps18 rfl rfl ?_
  intro w0 ok0
  refine j_len 0 rfl (fun hl0 => ?_)
  refine j_seq ?_
  refine j_region ?_
  refine jg_adr _ rfl _ rfl rfl (op_assign (.base rfl)) ?_
  refine jg_nil ?_
  refine jn_keep [0] [] (.cons rfl .nil) .nil ?_
  refine jn_seq (j_seq ?_)
  refine j_region ?_
  refine jg_adr _ rfl _ rfl rfl (op_assign (.base rfl)) ?_
  refine jg_nil ?_
  refine jn_keep [0, 3] [] (.cons rfl (.cons rfl .nil)) .nil ?_
  refine jn_seq (j_seq (j_seq ?_))
  refine j_region ?_
  refine jg_adr _ rfl _ rfl rfl (op_move (.base rfl)) ?_
  refine jg_adr _ rfl _ rfl rfl (op_len Try.underlying22 (.base rfl)) ?_
  refine jg_adr _ rfl _ rfl rfl (op_move (.base rfl)) ?_
  refine jg_nil ?_
  refine jn_keep [3, 6, 7, 8] [] (.cons rfl (.cons rfl (.cons rfl (.cons rfl .nil)))) .nil ?_
  refine jn_seq (j_block ?_)
  refine j_vac 70 3 (rInt .i64) rfl rfl rfl ?_
  refine j_loopp (ι := Nat) (fun k => ⟨[(3, .own 70 (rInt .i64).n 0 (mon (l.take k)).length), (6, .tv (rSlice rPosting) l), (7, .raw (.int .i64 (l.length))), (8, .raw (.int .i64 ((k : Nat))))], [(70, ⟨rInt .i64, (mon (l.take k))⟩)]⟩) (fun k => k ≤ l.length) (fun k => l.length - k) 0 (Nat.zero_le _) (fun a w hi => (Sub.inv ⟨(by repeat (first | exact SubS_nil | refine SubS_cons rfl (by first | rfl | (simp; done) | assumption) ?_)), (by repeat (first | exact SubH_nil | refine SubH_cons rfl (by first | rfl | (simp; done) | assumption) ?_))⟩ hi)) ?_
  rintro k hk
  have hbl := mon_len (l.take k)
  have htl : (l.take k).length ≤ l.length := by simp; omega
  refine j_seq ?_
  refine j_region ?_
  refine jg_adr _ rfl _ rfl rfl (op_lss (.base rfl) (.base rfl)) ?_
  refine jg_nil ?_
  refine jn_keep [3, 6, 7, 8, 9] [70] (.cons rfl (.cons rfl (.cons rfl (.cons rfl (.cons rfl .nil))))) (.cons rfl .nil) ?_
  refine jn_seq (j_seq ?_)
  refine j_cond rfl (fun h3 => ?_) (fun h3 => ?_)
  · try simp at h3
    refine j_skip (jn_seq (j_seq (j_block (j_seq ?_))))
    have hs := mon_succ (l := l) (k := k) (by omega)
    refine j_region ?_
    refine jg_adr _ rfl _ rfl rfl (op_index Try.underlying22 ty37 (.base rfl) (.base rfl) rfl (List.getElem?_eq_getElem (by first | omega | (simp; done) | (simp; omega) | (simp at hg; omega)))) ?_
    refine jg_adr _ rfl _ rfl rfl (op_load ty37 (.base rfl)) ?_
    refine jg_os _ rfl (op_alloc _ z37 rfl rfl rfl) ?_
    refine jg_os _ rfl (op_ostore ty37 (.base rfl) rfl rfl (Lens.id _) (.tv (.base rfl))) ?_
    refine jg_nil ?_
    refine jn_keep [3, 5, 6, 7, 8] [5, 70] (.cons rfl (.cons rfl (.cons rfl (.cons rfl (.cons rfl .nil))))) (.cons rfl (.cons rfl .nil)) ?_
    refine jn_seq ?_
    refine j_region ?_
    refine jg_adr _ rfl _ rfl rfl (op_move (.base rfl)) ?_
    refine jg_adr _ rfl _ rfl rfl (op_ofield fld37_1 (.base rfl)) ?_
    refine jg_adr _ rfl _ rfl rfl (op_oload ty3 (.base rfl) rfl rfl ln37_1) ?_
    refine jg_adr _ rfl _ rfl rfl (op_bslice (rt := (rInt .i64)) Try.underlying34 ty3 z3 rfl (.cons (.raw (.base rfl) rfl) .nil) rfl rfl) ?_
    refine jg_os _ rfl (op_append [6, 7, 8] Try.underlying34 ty3 z3 rfl by3 (.base rfl) rfl (by (try simp); try omega) (.tv (.base rfl)) (by unfold maxLen; (try simp); try omega) (by (try simp); try omega) rfl (.cons rfl (.cons rfl (.cons rfl .nil))) rfl) ?_
    refine jg_adr _ rfl _ rfl rfl (op_assign (.base rfl)) ?_
    refine jg_nil ?_
    refine jn_keep [3, 6, 7, 8] [70] (.cons rfl (.cons rfl (.cons rfl (.cons rfl .nil)))) (.cons rfl .nil) ?_
    refine jn_blk (jn_seq ?_)
    refine j_region ?_
    refine jg_adr _ rfl _ rfl rfl (op_add (.base rfl) (.base rfl) (w64 (by omega))) ?_
    refine jg_adr _ rfl _ rfl rfl (op_move (.base rfl)) ?_
    refine jg_nil ?_
    refine jn_keep [3, 6, 7, 8] [70] (.cons rfl (.cons rfl (.cons rfl (.cons rfl .nil)))) (.cons rfl .nil) ?_
    exact jn_loop (fun a w hi => ⟨k + 1, (by omega), (by omega), Sub.inv ⟨(by repeat (first | exact SubS_nil | refine SubS_cons rfl (by first | rfl | exact congrArg (SV.own 70 (rInt .i64).n 0) (by rw [hs]; try simp; try omega)) ?_)), (by repeat (first | exact SubH_nil | refine SubH_cons rfl (by first | rfl | (refine congrArg (HB.mk (rInt .i64)) ?_; rw [hs]; try (simp only [List.drop_zero, List.take_length, List.append_nil]); first | done | rfl | (rw [List.take_of_length_le (by simp)]; done) | (simp; done))) ?_))⟩ hi⟩)
  · try simp at h3
    refine j_exit (je_seq (je_loop (je_blk (jn_seq (j_seq ?_)))))
    have hkk : k = l.length := by omega
    subst hkk
    refine j_region ?_
    refine jg_adr _ rfl _ rfl rfl (op_move (.base rfl)) ?_
    refine jg_os _ rfl (op_turn0d turn_sort (.base rfl) rfl (by rfl) (by omega) (fun _ => rfl) rfl) ?_
    refine jg_nil ?_
    refine jn_keep [3] [70] (.cons rfl .nil) (.cons rfl .nil) ?_
    refine jn_seq (j_seq ?_)
    refine j_region ?_
    refine jg_adr _ rfl _ rfl rfl (op_move (.base rfl)) ?_
    refine jg_os _ rfl (op_turn1 turn_compact (.base rfl) rfl (by rw [List.length_mergeSort]) (by rw [List.length_mergeSort]; omega) rfl) ?_
    refine jg_adr _ rfl _ rfl rfl (op_assign (.base rfl)) ?_
    refine jg_nil ?_
    refine jn_keep [2] [70] (.cons rfl .nil) (.cons rfl .nil) ?_
    refine jn_seq (j_ret ?_)
    exact jr_finO Try.results18 rfl rfl (by rw [cptZ_len, Nat.zero_add]; exact Lib.compact_length_le _) (by simp only [List.drop_zero, cpt_take, List.take_length]; rfl)

theorem rmonths_ok (l : List Po) (hlm : l.length ≤ 100000) : Ct Try.prog 19 [.tv (rSlice rPosting) l] (.tv (rSlice (rInt .i64)) (uniqS (mon l))) := by
  refine ct_intro Try.func19 rfl rfl Try.ntmps19 rfl rfl ?_
  intro w0 ok0
  refine j_len 0 rfl (fun hl0 => ?_)
  refine j_seq ?_
  refine j_region ?_
  refine jg_adr _ rfl _ rfl rfl (op_assign (.base rfl)) ?_
  refine jg_nil ?_
  refine jn_keep [0] [] (.cons rfl .nil) .nil ?_
  refine jn_seq (j_seq ?_)
  refine j_region ?_
  refine jg_adr _ rfl _ rfl rfl (op_assign (.base rfl)) ?_
  refine jg_nil ?_
  refine jn_keep [0, 3] [] (.cons rfl (.cons rfl .nil)) .nil ?_
  refine jn_seq (j_seq (j_seq ?_))
  refine j_region ?_
  refine jg_adr _ rfl _ rfl rfl (op_assign (.base rfl)) ?_
  refine jg_nil ?_
  refine jn_keep [0, 3, 4] [] (.cons rfl (.cons rfl (.cons rfl .nil))) .nil ?_
  refine jn_seq (j_block ?_)
  refine j_nil 3 (rInt .i64) rfl ?_
  refine j_loopp (ι := Nat) (fun k => ⟨[(0, .tv (rSlice rPosting) l), (3, .tv (rSlice (rInt .i64)) (uniqS (mon (l.take k)))), (4, .raw (.int .i64 ((k : Nat))))], []⟩) (fun k => k ≤ l.length) (fun k => l.length - k) 0 (Nat.zero_le _) (fun a w hi => (Sub.inv ⟨(by repeat (first | exact SubS_nil | refine SubS_cons rfl (by first | rfl | exact congrArg (SV.tv (rSlice (rInt .i64))) uniqS_nil.symm | (refine congrArg (SV.tv (rSlice (rInt .i64))) ?_; simp only [List.drop_zero, List.take_length]; rw [hs0, ← insU_uniqS, ← hfin]; first | rw [if_pos h15'] | (rw [if_neg h15', List.take_of_length_le (by simp)]; done))) ?_)), (by repeat (first | exact SubH_nil | refine SubH_cons rfl (by first | rfl | (simp; done) | assumption) ?_))⟩ hi)) ?_
  rintro k hk
  refine j_seq (j_seq ?_)
  refine j_region ?_
  refine jg_adr _ rfl _ rfl rfl (op_move (.base rfl)) ?_
  refine jg_adr _ rfl _ rfl rfl (op_move (.base rfl)) ?_
  refine jg_adr _ rfl _ rfl rfl (op_len Try.underlying22 (.base rfl)) ?_
  refine jg_adr _ rfl _ rfl rfl (op_lss (.base rfl) (.base rfl)) ?_
  refine jg_nil ?_
  refine jn_keep [0, 3, 4, 11] [] (.cons rfl (.cons rfl (.cons rfl (.cons rfl .nil)))) .nil ?_
  refine jn_seq ?_
  refine j_cond rfl (fun h3 => ?_) (fun h3 => ?_)
  · try simp at h3
    refine j_skip (jn_seq (j_seq (j_block (j_seq ?_))))
    have hk' : k < l.length := by omega
    have hs0 := mon_succ hk'
    have hul := uniqS_len (mon (l.take k))
    have hml := mon_len (l.take k)
    have htl : (l.take k).length ≤ l.length := by simp; omega
    refine j_region ?_
    refine jg_adr _ rfl _ rfl rfl (op_assign (.base rfl)) ?_
    refine jg_nil ?_
    refine jn_keep [0, 3, 4, 5] [] (.cons rfl (.cons rfl (.cons rfl (.cons rfl .nil)))) .nil ?_
    refine jn_seq (j_seq ?_)
    refine j_region ?_
    refine jg_adr _ rfl _ rfl rfl (op_assign (.base rfl)) ?_
    refine jg_nil ?_
    refine jn_keep [0, 3, 4, 5, 6] [] (.cons rfl (.cons rfl (.cons rfl (.cons rfl (.cons rfl .nil))))) .nil ?_
    refine jn_seq (j_seq (j_seq ?_))
    refine j_region ?_
    refine jg_adr _ rfl _ rfl rfl (op_assign (.base rfl)) ?_
    refine jg_nil ?_
    refine jn_keep [0, 3, 4, 5, 6, 7] [] (.cons rfl (.cons rfl (.cons rfl (.cons rfl (.cons rfl (.cons rfl .nil)))))) .nil ?_
    refine jn_seq (j_block ?_)
    refine j_vac 71 5 (rInt .i64) rfl rfl rfl ?_
    refine j_loopp (ι := Nat) (fun j => ⟨[(0, .tv (rSlice rPosting) l), (3, .tv (rSlice (rInt .i64)) (uniqS (mon (l.take k)))), (4, .raw (.int .i64 ((k : Nat)))), (5, .own 71 (rInt .i64).n 0 (insP (uniqS (mon (l.take k))) (l[k]'hk').2.1 j).1.length), (6, .raw (.bool (insP (uniqS (mon (l.take k))) (l[k]'hk').2.1 j).2)), (7, .raw (.int .i64 ((j : Nat))))], [(71, ⟨rInt .i64, (insP (uniqS (mon (l.take k))) (l[k]'hk').2.1 j).1⟩)]⟩) (fun j => j ≤ (uniqS (mon (l.take k))).length) (fun j => (uniqS (mon (l.take k))).length - j) 0 (Nat.zero_le _) (fun a w hi => (Sub.inv ⟨(by repeat (first | exact SubS_nil | refine SubS_cons rfl (by first | rfl | (simp; done) | assumption) ?_)), (by repeat (first | exact SubH_nil | refine SubH_cons rfl (by first | rfl | (simp; done) | assumption) ?_))⟩ hi)) ?_
    rintro j hj
    have hil := insP_len (u := (uniqS (mon (l.take k)))) (x := (l[k]'hk').2.1) j
    refine j_seq (j_seq ?_)
    refine j_region ?_
    refine jg_adr _ rfl _ rfl rfl (op_move (.base rfl)) ?_
    refine jg_adr _ rfl _ rfl rfl (op_move (.base rfl)) ?_
    refine jg_adr _ rfl _ rfl rfl (op_len Try.underlying34 (.base rfl)) ?_
    refine jg_adr _ rfl _ rfl rfl (op_lss (.base rfl) (.base rfl)) ?_
    refine jg_nil ?_
    refine jn_keep [0, 3, 4, 5, 6, 7, 17] [71] (.cons rfl (.cons rfl (.cons rfl (.cons rfl (.cons rfl (.cons rfl (.cons rfl .nil))))))) (.cons rfl .nil) ?_
    refine jn_seq ?_
    refine j_cond rfl (fun h8 => ?_) (fun h8 => ?_)
    · try simp at h8
      refine j_skip (jn_seq (j_seq (j_block (j_seq (j_seq ?_)))))
      have hj' : j < (uniqS (mon (l.take k))).length := by omega
      refine j_draw mo (by kernel_rfl) (
        AS.cons _ _ rfl (ga_adr rfl rfl rfl (op_move (.base rfl))) (
          AS.cons _ _ rfl (ga_adr rfl rfl rfl (op_not (.base rfl))) (
          AS.cons _ _ rfl (ga_adr rfl rfl rfl (op_move (.base rfl))) (
          AS.cons _ _ rfl (ga_gd _ _ _ _ rfl rfl rfl rfl rfl (fun hg => op_move (.base rfl))) (
          AS.cons _ _ rfl (ga_gd _ _ _ _ rfl rfl rfl rfl rfl (fun hg => op_move (.base rfl))) (
          AS.cons _ _ rfl (ga_gd _ _ _ _ rfl rfl rfl rfl rfl (fun hg => op_index Try.underlying34 ty3 (.gd rfl hg) (.gd rfl hg) rfl (getD_some (z := (0 : Int)) (by first | omega | (simp; done) | (simp; omega) | (simp at hg; omega) | (simp at hg; simp; omega))))) (
          AS.cons _ _ rfl (ga_gd _ _ _ _ rfl rfl rfl rfl rfl (fun hg => op_load ty3 (.gd rfl hg))) (
          AS.cons _ _ rfl (ga_gd _ _ _ _ rfl rfl rfl rfl rfl (fun hg => op_move (.base rfl))) (
          AS.cons _ _ rfl (ga_gd _ _ _ _ rfl rfl rfl rfl rfl (fun hg => op_move (.base rfl))) (
          AS.cons _ _ rfl (ga_gd _ _ _ _ rfl rfl rfl rfl rfl (fun hg => op_index Try.underlying22 ty37 (.gd rfl hg) (.gd rfl hg) rfl (getD_some (z := ((0, (0, (0, 0))) : TPosting)) (by first | omega | (simp; done) | (simp; omega) | (simp at hg; omega) | (simp at hg; simp; omega))))) (
          AS.cons _ _ rfl (ga_gd _ _ _ _ rfl rfl rfl rfl rfl (fun hg => op_field fld37_1 ln37_1 (.gd rfl hg))) (
          AS.cons _ _ rfl (ga_gd _ _ _ _ rfl rfl rfl rfl rfl (fun hg => op_load ty3 (.gd rfl hg))) (
          AS.cons _ _ rfl (ga_gd _ _ _ _ rfl rfl rfl rfl rfl (fun hg => op_geq (.gd rfl hg) (.gd rfl hg))) (
          AS.cons _ _ rfl (ga_adr rfl rfl rfl (op_pick_and (.base rfl) (.base rfl) rfl (by intro h; first | (rw [h]; rfl) | (rw [hg, h]; rfl) | (rw [h, hg]; rfl) | simp_all))) (
          AS.nil))))))))))))))) ?_
      refine jn_keep [0, 3, 4, 5, 6, 7, 33] [71] (.cons rfl (.cons rfl (.cons rfl (.cons rfl (.cons rfl (.cons rfl (.cons rfl .nil))))))) (.cons rfl .nil) ?_
      refine jn_seq ?_
      refine j_cond rfl (fun h10 => ?_) (fun h10 => ?_)
      · simp [List.getElem?_eq_getElem hj', List.getElem?_eq_getElem hk'] at h10
        refine j_seq (j_seq ?_)
        refine j_draw mo (by kernel_rfl) (
          AS.cons _ _ rfl (ga_adr rfl rfl rfl (op_move (.base rfl))) (
            AS.cons _ _ rfl (ga_adr rfl rfl rfl (op_move (.base rfl))) (
            AS.cons _ _ rfl (ga_adr rfl rfl rfl (op_index Try.underlying34 ty3 (.base rfl) (.base rfl) rfl (List.getElem?_eq_getElem (by first | omega | (simp; done) | (simp; omega) | (simp at hg; omega))))) (
            AS.cons _ _ rfl (ga_adr rfl rfl rfl (op_load ty3 (.base rfl))) (
            AS.cons _ _ rfl (ga_adr rfl rfl rfl (op_move (.base rfl))) (
            AS.cons _ _ rfl (ga_adr rfl rfl rfl (op_move (.base rfl))) (
            AS.cons _ _ rfl (ga_adr rfl rfl rfl (op_index Try.underlying22 ty37 (.base rfl) (.base rfl) rfl (List.getElem?_eq_getElem (by first | omega | (simp; done) | (simp; omega) | (simp at hg; omega))))) (
            AS.cons _ _ rfl (ga_adr rfl rfl rfl (op_field fld37_1 ln37_1 (.base rfl))) (
            AS.cons _ _ rfl (ga_adr rfl rfl rfl (op_load ty3 (.base rfl))) (
            AS.cons _ _ rfl (ga_adr rfl rfl rfl (op_gtr (.base rfl) (.base rfl))) (
            AS.nil))))))))))) ?_
        refine jn_keep [0, 3, 4, 5, 7, 43] [71] (.cons rfl (.cons rfl (.cons rfl (.cons rfl (.cons rfl (.cons rfl .nil)))))) (.cons rfl .nil) ?_
        refine jn_seq ?_
        refine j_cond rfl (fun h11 => ?_) (fun h11 => ?_)
        · try simp at h11
          have hs := insP_a (x := (l[k]'hk').2.1) hj' h10.1 (by omega)
          refine j_region ?_
          refine jg_adr _ rfl _ rfl rfl (op_move (.base rfl)) ?_
          refine jg_adr _ rfl _ rfl rfl (op_move (.base rfl)) ?_
          refine jg_adr _ rfl _ rfl rfl (op_move (.base rfl)) ?_
          refine jg_adr _ rfl _ rfl rfl (op_index Try.underlying22 ty37 (.base rfl) (.base rfl) rfl (List.getElem?_eq_getElem (by first | omega | (simp; done) | (simp; omega) | (simp at hg; omega)))) ?_
          refine jg_adr _ rfl _ rfl rfl (op_field fld37_1 ln37_1 (.base rfl)) ?_
          refine jg_adr _ rfl _ rfl rfl (op_load ty3 (.base rfl)) ?_
          refine jg_adr _ rfl _ rfl rfl (op_bslice (rt := (rInt .i64)) Try.underlying34 ty3 z3 rfl (.cons (.raw (.base rfl) rfl) .nil) rfl rfl) ?_
          refine jg_os _ rfl (op_append [0, 3, 4, 7] Try.underlying34 ty3 z3 rfl by3 (.base rfl) rfl (by (try simp); try omega) (.tv (.base rfl)) (by unfold maxLen; (try simp); try omega) (by (try simp); try omega) rfl (.cons rfl (.cons rfl (.cons rfl (.cons rfl .nil)))) rfl) ?_
          refine jg_adr _ rfl _ rfl rfl (op_assign (.base rfl)) ?_
          refine jg_nil ?_
          refine jn_keep [0, 3, 4, 5, 7] [71] (.cons rfl (.cons rfl (.cons rfl (.cons rfl (.cons rfl .nil))))) (.cons rfl .nil) ?_
          refine jn_seq ?_
          refine j_region ?_
          refine jg_adr _ rfl _ rfl rfl (op_assign (.base rfl)) ?_
          refine jg_nil ?_
          refine jn_keep [0, 3, 4, 5, 6, 7] [71] (.cons rfl (.cons rfl (.cons rfl (.cons rfl (.cons rfl (.cons rfl .nil)))))) (.cons rfl .nil) ?_
          refine jn_seq ?_
          refine j_region ?_
          refine jg_adr _ rfl _ rfl rfl (op_move (.base rfl)) ?_
          refine jg_adr _ rfl _ rfl rfl (op_move (.base rfl)) ?_
          refine jg_adr _ rfl _ rfl rfl (op_move (.base rfl)) ?_
          refine jg_adr _ rfl _ rfl rfl (op_index Try.underlying34 ty3 (.base rfl) (.base rfl) rfl (List.getElem?_eq_getElem (by first | omega | (simp; done) | (simp; omega) | (simp at hg; omega)))) ?_
          refine jg_adr _ rfl _ rfl rfl (op_load ty3 (.base rfl)) ?_
          refine jg_adr _ rfl _ rfl rfl (op_bslice (rt := (rInt .i64)) Try.underlying34 ty3 z3 rfl (.cons (.raw (.base rfl) rfl) .nil) rfl rfl) ?_
          refine jg_os _ rfl (op_append [0, 3, 4, 6, 7] Try.underlying34 ty3 z3 rfl by3 (.base rfl) rfl (by (try simp); try omega) (.tv (.base rfl)) (by unfold maxLen; (try simp); try omega) (by (try simp); try omega) rfl (.cons rfl (.cons rfl (.cons rfl (.cons rfl (.cons rfl .nil))))) rfl) ?_
          refine jg_adr _ rfl _ rfl rfl (op_assign (.base rfl)) ?_
          refine jg_nil ?_
          refine jn_keep [0, 3, 4, 5, 6, 7] [71] (.cons rfl (.cons rfl (.cons rfl (.cons rfl (.cons rfl (.cons rfl .nil)))))) (.cons rfl .nil) ?_
          refine jn_blk (jn_seq ?_)
          refine j_region ?_
          refine jg_adr _ rfl _ rfl rfl (op_move (.base rfl)) ?_
          refine jg_adr _ rfl _ rfl rfl (op_add (.base rfl) (.base rfl) (w64 (by omega))) ?_
          refine jg_adr _ rfl _ rfl rfl (op_assign (.base rfl)) ?_
          refine jg_nil ?_
          refine jn_keep [0, 3, 4, 5, 6, 7] [71] (.cons rfl (.cons rfl (.cons rfl (.cons rfl (.cons rfl (.cons rfl .nil)))))) (.cons rfl .nil) ?_
          exact jn_loop (fun a w hi => ⟨j + 1, (by omega), (by omega), Sub.inv ⟨(by repeat (first | exact SubS_nil | refine SubS_cons rfl (by first | rfl | exact rb (by rw [hs]) | exact congrArg (SV.own 71 (rInt .i64).n 0) (by rw [hs]; try simp; try omega)) ?_)), (by repeat (first | exact SubH_nil | refine SubH_cons rfl (by first | rfl | (refine congrArg (HB.mk (rInt .i64)) ?_; rw [hs]; try (simp only [List.drop_zero, List.take_length, List.append_nil]); first | done | rfl | (rw [List.take_of_length_le (by simp)]; done) | (simp; done))) ?_))⟩ hi⟩)
        · try simp at h11
          have hs := insP_b (x := (l[k]'hk').2.1) hj' h10.1 (by omega) (by omega)
          refine j_skip (jn_seq ?_)
          refine j_region ?_
          refine jg_adr _ rfl _ rfl rfl (op_assign (.base rfl)) ?_
          refine jg_nil ?_
          refine jn_keep [0, 3, 4, 5, 6, 7] [71] (.cons rfl (.cons rfl (.cons rfl (.cons rfl (.cons rfl (.cons rfl .nil)))))) (.cons rfl .nil) ?_
          refine jn_seq ?_
          refine j_region ?_
          refine jg_adr _ rfl _ rfl rfl (op_move (.base rfl)) ?_
          refine jg_adr _ rfl _ rfl rfl (op_move (.base rfl)) ?_
          refine jg_adr _ rfl _ rfl rfl (op_move (.base rfl)) ?_
          refine jg_adr _ rfl _ rfl rfl (op_index Try.underlying34 ty3 (.base rfl) (.base rfl) rfl (List.getElem?_eq_getElem (by first | omega | (simp; done) | (simp; omega) | (simp at hg; omega)))) ?_
          refine jg_adr _ rfl _ rfl rfl (op_load ty3 (.base rfl)) ?_
          refine jg_adr _ rfl _ rfl rfl (op_bslice (rt := (rInt .i64)) Try.underlying34 ty3 z3 rfl (.cons (.raw (.base rfl) rfl) .nil) rfl rfl) ?_
          refine jg_os _ rfl (op_append [0, 3, 4, 6, 7] Try.underlying34 ty3 z3 rfl by3 (.base rfl) rfl (by (try simp); try omega) (.tv (.base rfl)) (by unfold maxLen; (try simp); try omega) (by (try simp); try omega) rfl (.cons rfl (.cons rfl (.cons rfl (.cons rfl (.cons rfl .nil))))) rfl) ?_
          refine jg_adr _ rfl _ rfl rfl (op_assign (.base rfl)) ?_
          refine jg_nil ?_
          refine jn_keep [0, 3, 4, 5, 6, 7] [71] (.cons rfl (.cons rfl (.cons rfl (.cons rfl (.cons rfl (.cons rfl .nil)))))) (.cons rfl .nil) ?_
          refine jn_blk (jn_seq ?_)
          refine j_region ?_
          refine jg_adr _ rfl _ rfl rfl (op_move (.base rfl)) ?_
          refine jg_adr _ rfl _ rfl rfl (op_add (.base rfl) (.base rfl) (w64 (by omega))) ?_
          refine jg_adr _ rfl _ rfl rfl (op_assign (.base rfl)) ?_
          refine jg_nil ?_
          refine jn_keep [0, 3, 4, 5, 6, 7] [71] (.cons rfl (.cons rfl (.cons rfl (.cons rfl (.cons rfl (.cons rfl .nil)))))) (.cons rfl .nil) ?_
          exact jn_loop (fun a w hi => ⟨j + 1, (by omega), (by omega), Sub.inv ⟨(by repeat (first | exact SubS_nil | refine SubS_cons rfl (by first | rfl | exact rb (by rw [hs]) | exact congrArg (SV.own 71 (rInt .i64).n 0) (by rw [hs]; try simp; try omega)) ?_)), (by repeat (first | exact SubH_nil | refine SubH_cons rfl (by first | rfl | (refine congrArg (HB.mk (rInt .i64)) ?_; rw [hs]; try (simp only [List.drop_zero, List.take_length, List.append_nil]); first | done | rfl | (rw [List.take_of_length_le (by simp)]; done) | (simp; done))) ?_))⟩ hi⟩)
      · have hs := insP_c (x := (l[k]'hk').2.1) hj' (by rintro ⟨a1, a2⟩; simp [a1, List.getElem?_eq_getElem hj', List.getElem?_eq_getElem hk'] at h10; omega)
        refine j_skip (jn_seq ?_)
        refine j_region ?_
        refine jg_adr _ rfl _ rfl rfl (op_move (.base rfl)) ?_
        refine jg_adr _ rfl _ rfl rfl (op_move (.base rfl)) ?_
        refine jg_adr _ rfl _ rfl rfl (op_move (.base rfl)) ?_
        refine jg_adr _ rfl _ rfl rfl (op_index Try.underlying34 ty3 (.base rfl) (.base rfl) rfl (List.getElem?_eq_getElem (by first | omega | (simp; done) | (simp; omega) | (simp at hg; omega)))) ?_
        refine jg_adr _ rfl _ rfl rfl (op_load ty3 (.base rfl)) ?_
        refine jg_adr _ rfl _ rfl rfl (op_bslice (rt := (rInt .i64)) Try.underlying34 ty3 z3 rfl (.cons (.raw (.base rfl) rfl) .nil) rfl rfl) ?_
        refine jg_os _ rfl (op_append [0, 3, 4, 6, 7] Try.underlying34 ty3 z3 rfl by3 (.base rfl) rfl (by (try simp); try omega) (.tv (.base rfl)) (by unfold maxLen; (try simp); try omega) (by (try simp); try omega) rfl (.cons rfl (.cons rfl (.cons rfl (.cons rfl (.cons rfl .nil))))) rfl) ?_
        refine jg_adr _ rfl _ rfl rfl (op_assign (.base rfl)) ?_
        refine jg_nil ?_
        refine jn_keep [0, 3, 4, 5, 6, 7] [71] (.cons rfl (.cons rfl (.cons rfl (.cons rfl (.cons rfl (.cons rfl .nil)))))) (.cons rfl .nil) ?_
        refine jn_blk (jn_seq ?_)
        refine j_region ?_
        refine jg_adr _ rfl _ rfl rfl (op_move (.base rfl)) ?_
        refine jg_adr _ rfl _ rfl rfl (op_add (.base rfl) (.base rfl) (w64 (by omega))) ?_
        refine jg_adr _ rfl _ rfl rfl (op_assign (.base rfl)) ?_
        refine jg_nil ?_
        refine jn_keep [0, 3, 4, 5, 6, 7] [71] (.cons rfl (.cons rfl (.cons rfl (.cons rfl (.cons rfl (.cons rfl .nil)))))) (.cons rfl .nil) ?_
        exact jn_loop (fun a w hi => ⟨j + 1, (by omega), (by omega), Sub.inv ⟨(by repeat (first | exact SubS_nil | refine SubS_cons rfl (by first | rfl | exact rb (by rw [hs]) | exact congrArg (SV.own 71 (rInt .i64).n 0) (by rw [hs]; try simp; try omega)) ?_)), (by repeat (first | exact SubH_nil | refine SubH_cons rfl (by first | rfl | (refine congrArg (HB.mk (rInt .i64)) ?_; rw [hs]; try (simp only [List.drop_zero, List.take_length, List.append_nil]); first | done | rfl | (rw [List.take_of_length_le (by simp)]; done) | (simp; done))) ?_))⟩ hi⟩)
    · try simp at h8
      refine j_exit (je_seq (je_loop (je_blk (jn_seq (j_seq (j_seq ?_))))))
      have hfin := insP_full (u := (uniqS (mon (l.take k)))) (x := (l[k]'hk').2.1) (j := j) (by omega)
      refine j_region ?_
      refine jg_adr _ rfl _ rfl rfl (op_move (.base rfl)) ?_
      refine jg_adr _ rfl _ rfl rfl (op_not (.base rfl)) ?_
      refine jg_nil ?_
      refine jn_keep [0, 4, 5, 60] [71] (.cons rfl (.cons rfl (.cons rfl (.cons rfl .nil)))) (.cons rfl .nil) ?_
      refine jn_seq ?_
      refine j_cond rfl (fun h15 => ?_) (fun h15 => ?_)
      · have h15' : ¬ (insP (uniqS (mon (l.take k))) (l[k]'hk').2.1 j).2 = true := by simp at h15; simp [h15]
        refine j_region ?_
        refine jg_adr _ rfl _ rfl rfl (op_move (.base rfl)) ?_
        refine jg_adr _ rfl _ rfl rfl (op_move (.base rfl)) ?_
        refine jg_adr _ rfl _ rfl rfl (op_move (.base rfl)) ?_
        refine jg_adr _ rfl _ rfl rfl (op_index Try.underlying22 ty37 (.base rfl) (.base rfl) rfl (List.getElem?_eq_getElem (by first | omega | (simp; done) | (simp; omega) | (simp at hg; omega)))) ?_
        refine jg_adr _ rfl _ rfl rfl (op_field fld37_1 ln37_1 (.base rfl)) ?_
        refine jg_adr _ rfl _ rfl rfl (op_load ty3 (.base rfl)) ?_
        refine jg_adr _ rfl _ rfl rfl (op_bslice (rt := (rInt .i64)) Try.underlying34 ty3 z3 rfl (.cons (.raw (.base rfl) rfl) .nil) rfl rfl) ?_
        refine jg_os _ rfl (op_append [0, 4] Try.underlying34 ty3 z3 rfl by3 (.base rfl) rfl (by (try simp); try omega) (.tv (.base rfl)) (by unfold maxLen; (try simp); try omega) (by (try simp); try omega) rfl (.cons rfl (.cons rfl .nil)) rfl) ?_
        refine jg_adr _ rfl _ rfl rfl (op_assign (.base rfl)) ?_
        refine jg_nil ?_
        refine jn_keep [0, 4, 5] [71] (.cons rfl (.cons rfl (.cons rfl .nil))) (.cons rfl .nil) ?_
        refine jn_seq ?_
        refine j_seal (rt := rInt .i64) 71 5 (dropH 71 _) rfl rfl (by simp) (dropH_sub 71 _) (dropH_no 71 _) ?_
        
        refine j_region ?_
        refine jg_adr _ rfl _ rfl rfl (op_move (.base rfl)) ?_
        refine jg_adr _ rfl _ rfl rfl (op_assign (.base rfl)) ?_
        refine jg_nil ?_
        refine jn_keep [0, 3, 4] [] (.cons rfl (.cons rfl (.cons rfl .nil))) .nil ?_
        refine jn_blk (jn_seq ?_)
        refine j_region ?_
        refine jg_adr _ rfl _ rfl rfl (op_move (.base rfl)) ?_
        refine jg_adr _ rfl _ rfl rfl (op_add (.base rfl) (.base rfl) (w64 (by omega))) ?_
        refine jg_adr _ rfl _ rfl rfl (op_assign (.base rfl)) ?_
        refine jg_nil ?_
        refine jn_keep [0, 3, 4] [] (.cons rfl (.cons rfl (.cons rfl .nil))) .nil ?_
        exact jn_loop (fun a w hi => ⟨k + 1, (by omega), (by omega), Sub.inv ⟨(by repeat (first | exact SubS_nil | refine SubS_cons rfl (by first | rfl | exact congrArg (SV.tv (rSlice (rInt .i64))) uniqS_nil.symm | (refine congrArg (SV.tv (rSlice (rInt .i64))) ?_; simp only [List.drop_zero, List.take_length]; rw [hs0, ← insU_uniqS, ← hfin]; first | rw [if_pos h15'] | (rw [if_neg h15', List.take_of_length_le (by simp)]; done))) ?_)), (by repeat (first | exact SubH_nil | refine SubH_cons rfl (by first | rfl | (simp; done) | assumption) ?_))⟩ hi⟩)
      · have h15' : (insP (uniqS (mon (l.take k))) (l[k]'hk').2.1 j).2 = true := by simpa using h15
        refine j_skip (jn_seq ?_)
        refine j_seal (rt := rInt .i64) 71 5 (dropH 71 _) rfl rfl (by simp) (dropH_sub 71 _) (dropH_no 71 _) ?_
        
        refine j_region ?_
        refine jg_adr _ rfl _ rfl rfl (op_move (.base rfl)) ?_
        refine jg_adr _ rfl _ rfl rfl (op_assign (.base rfl)) ?_
        refine jg_nil ?_
        refine jn_keep [0, 3, 4] [] (.cons rfl (.cons rfl (.cons rfl .nil))) .nil ?_
        refine jn_blk (jn_seq ?_)
        refine j_region ?_
        refine jg_adr _ rfl _ rfl rfl (op_move (.base rfl)) ?_
        refine jg_adr _ rfl _ rfl rfl (op_add (.base rfl) (.base rfl) (w64 (by omega))) ?_
        refine jg_adr _ rfl _ rfl rfl (op_assign (.base rfl)) ?_
        refine jg_nil ?_
        refine jn_keep [0, 3, 4] [] (.cons rfl (.cons rfl (.cons rfl .nil))) .nil ?_
        exact jn_loop (fun a w hi => ⟨k + 1, (by omega), (by omega), Sub.inv ⟨(by repeat (first | exact SubS_nil | refine SubS_cons rfl (by first | rfl | exact congrArg (SV.tv (rSlice (rInt .i64))) uniqS_nil.symm | (refine congrArg (SV.tv (rSlice (rInt .i64))) ?_; simp only [List.drop_zero, List.take_length]; rw [hs0, ← insU_uniqS, ← hfin]; first | rw [if_pos h15'] | (rw [if_neg h15', List.take_of_length_le (by simp)]; done))) ?_)), (by repeat (first | exact SubH_nil | refine SubH_cons rfl (by first | rfl | (simp; done) | assumption) ?_))⟩ hi⟩)
  · try simp at h3
    refine j_exit (je_seq (je_loop (je_blk (jn_seq (j_seq ?_)))))
    have hkk : k = l.length := by omega
    subst hkk
    refine j_region ?_
    refine jg_adr _ rfl _ rfl rfl (op_move (.base rfl)) ?_
    refine jg_adr _ rfl _ rfl rfl (op_assign (.base rfl)) ?_
    refine jg_nil ?_
    refine jn_keep [2] [] (.cons rfl .nil) .nil ?_
    refine jn_seq (j_ret ?_)
    exact jr_fin1 Try.results19 (res_tmp rfl) rfl (congrArg (SV.tv (rSlice (rInt .i64))) (by rw [List.take_of_length_le (Nat.le_refl _)]))

end Go.Proofs.Ytmpgmhcbhkhakaa
