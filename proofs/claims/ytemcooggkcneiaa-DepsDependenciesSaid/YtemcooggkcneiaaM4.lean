import Derived.Test.YtemcooggkcneiaaM3
import Derived.Test.YtemcooggkcneiaaEngY
import Derived.Test.YtemcooggkcneiaaM1
namespace Go.Proofs.Ytemcooggkcneiaa
open Go.Eng
set_option maxRecDepth 100000
set_option maxHeartbeats 4000000
set_option linter.unusedVariables false
set_option linter.unusedSimpArgs false

theorem tyH28 : Ty Try.prog 28 rHd := by obtain ⟨⟨de, hu, hd⟩, i0, hi0, hs⟩ := ty28; exact ⟨⟨de, hu, hd⟩, i0, hi0, hs⟩
theorem zr_hd : ZR rHd [.slice none 0 0] (none, 0, 0) := fun _ _ => rfl
theorem zH28 : TyZero Try.prog 28 rHd (none, 0, 0) := zr_ty (by kernel_rfl) zr_hd
/-- the direct dependencies of every definition -/
def allD (s : TScope) : List (List Int) := (List.range (scN s)).map (fun (d : Nat) => dirs s (d : Int))
def rowA (s : TScope) (k : Nat) : List (List Int) := (List.range (scN s)).map (fun (d : Nat) => accD (scN s) ((scR s).take k) (d : Int))
def rowB (s : TScope) (k : Nat) : List (List Int) := (List.range (scN s)).map (fun (d : Nat) => if d < k then dirs s (d : Int) else accD (scN s) (scR s) (d : Int))
theorem rowA_zero (s : TScope) : rowA s 0 = List.replicate (scN s) [] := by
  apply List.ext_getElem?; intro y; unfold rowA
  rw [List.getElem?_replicate]
  by_cases hy : y < scN s
  · simp [hy, accD]
  · simp [hy]
theorem rowA_len (s : TScope) (k : Nat) : (rowA s k).length = scN s := by simp [rowA]
theorem rowB_len (s : TScope) (k : Nat) : (rowB s k).length = scN s := by simp [rowB]
theorem rowA_at {s : TScope} {k x : Nat} (h : x < scN s) : (rowA s k)[x]? = some (accD (scN s) ((scR s).take k) (x : Int)) := by simp [rowA, h]
theorem rowB_at {s : TScope} {k x : Nat} (h : x < scN s) (hk : k ≤ x) : (rowB s k)[x]? = some (accD (scN s) (scR s) (x : Int)) := by
  have : ¬ x < k := by omega
  simp [rowB, h, this]
theorem rowA_t {s : TScope} {k x : Nat} (hk : k < (scR s).length) (hx : x < scN s) (hd : rlD (scR s)[k] = (x : Int)) : rowA s (k + 1) = (rowA s k).set x (accD (scN s) ((scR s).take k) (x : Int) ++ rdf (scN s) (scR s)[k]) := by
  unfold rowA
  rw [map_range_set (f := fun (d : Nat) => accD (scN s) ((scR s).take k) (d : Int)) hx (fun y _ hy => accD_f hk (by rw [hd]; intro e; exact hy (by omega))), accD_t hk hd]
theorem rowA_f {s : TScope} {k : Nat} (hk : k < (scR s).length) (hd : inN (scN s) (rlD (scR s)[k]) = false) : rowA s (k + 1) = rowA s k := by
  unfold rowA
  refine List.map_congr_left fun d hm => ?_
  rw [List.mem_range] at hm
  exact accD_f hk (by intro e; rw [e] at hd; simp [inN] at hd; omega)
theorem rowB_zero (s : TScope) : rowB s 0 = rowA s (scR s).length := by unfold rowA rowB; rw [List.take_length]; simp
theorem rowB_end (s : TScope) : rowB s (scN s) = allD s := by
  unfold rowB allD
  refine List.map_congr_left fun d hm => ?_
  rw [List.mem_range] at hm
  rw [if_pos hm]
theorem rowB_t {s : TScope} {k : Nat} (hk : k < scN s) : rowB s (k + 1) = (rowB s k).set k (uniqS (accD (scN s) (scR s) (k : Int))) := by
  unfold rowB
  rw [map_range_set (f := fun (d : Nat) => if d < k then dirs s (d : Int) else accD (scN s) (scR s) (d : Int)) hk (fun y _ hy => ?_)]
  · rw [if_pos (by omega), dirs_in (by simp [inN]; omega)]
  · by_cases e : y < k
    · rw [if_pos e, if_pos (by omega)]
    · rw [if_neg e, if_neg (by omega)]

theorem allDirect_ok (s : TScope) (hL : Lim s) : Ct Try.prog 22 [.tv rScope s] (.tv (rSlice (rSlice (rInt .i64))) (allD s)) := by
  refine ct_intro Try.func22 rfl rfl Try.ntmps22 rfl rfl ?_
  intro w0 ok0
  have hN : scN s = s.2.2.2.1.length := rfl
  have hN2 := hL.1
  refine j_seq ?_
  refine j_region ?_
  refine jg_os _ rfl (op_box (.tv (.base rfl)) rfl rfl rfl) ?_
  refine jg_adr _ rfl _ rfl rfl (op_assign (.base rfl)) ?_
  refine jg_nil ?_
  refine jn_keep [1] [1] (.cons rfl .nil) (.cons rfl .nil) ?_
  refine jn_seq (j_seq ?_)
  refine j_region ?_
  refine jg_adr _ rfl _ rfl rfl (op_ofield fld25_3 (.base rfl)) ?_
  refine jg_adr _ rfl _ rfl rfl (op_oload ty22 (.base rfl) rfl rfl ln25_3) ?_
  refine jg_adr _ rfl _ rfl rfl (op_len Try.underlying22 (.base rfl)) ?_
  refine jg_os _ rfl (op_make (rt := rHd) Try.underlying43 tyH28 zH28 rfl by28 (.base rfl) (.base rfl) (by omega) (by unfold maxLen; omega) rfl rfl rfl) ?_
  refine jg_adr _ rfl _ rfl rfl (op_assign (.base rfl)) ?_
  refine jg_nil ?_
  refine jn_vacF 3 1000 (scN s) [1] [1, 11] (rInt .i64) rfl rfl (.cons rfl .nil) rfl (.cons rfl (.cons rfl .nil)) rfl ?_
  refine jn_seq (j_seq (j_seq ?_))
  refine j_region ?_
  refine jg_adr _ rfl _ rfl rfl (op_ofield fld25_4 (.base rfl)) ?_
  refine jg_adr _ rfl _ rfl rfl (op_oload ty23 (.base rfl) rfl rfl ln25_4) ?_
  refine jg_adr _ rfl _ rfl rfl (op_len Try.underlying23 (.base rfl)) ?_
  refine jg_adr _ rfl _ rfl rfl (op_move (.base rfl)) ?_
  refine jg_nil ?_
  refine jn_keepF (b := 1000) [3, 13, 14, 15] [11] (.cons rfl (.cons rfl (.cons rfl (.cons rfl .nil)))) (by repeat (first | exact .nil | refine .cons rfl ?_)) (.cons rfl .nil) ?_
  refine jn_seq (j_block ?_)
  refine j_loopp (ι := (Nat × List (Option Addr × Nat × Nat))) (fun (k, hs) => ⟨[(3, .fam (.own 11 1 0 (scN s)) 1000 1 (hs.map some)), (13, .tv (rSlice rRule) (scR s)), (14, .raw (.int .i64 ((scR s).length))), (15, .raw (.int .i64 ((k : Nat))))], (11, ⟨rHd, hs⟩) :: famH (rInt .i64) 1000 (rowA s k)⟩) (fun (k, hs) => k ≤ (scR s).length ∧ HdOK hs (rowA s k)) (fun (k, hs) => (scR s).length - k) (0, List.replicate (scN s) (none, 0, 0)) (⟨Nat.zero_le _, by rw [rowA_zero]; exact HdOK.zero _⟩) (fun a w hi => (Sub.inv ⟨(by repeat (first | exact SubS_nil | refine SubS_cons rfl (by first | rfl | (simp; done) | assumption | (refine congrArg (SV.fam (SV.own 11 1 0 (scN s)) 1000 1) ?_; rw [List.map_replicate]; done)) ?_)), (by repeat (first | refine SubH_cons rfl (by first | rfl | (simp; done) | assumption | (refine congrArg (HB.mk rHd) ?_; simp; done)) ?_ | exact SubH_tail (by repeat (first | exact .nil | refine .cons rfl ?_)) (by rw [rowA_zero])))⟩ hi)) ?_
  rintro ⟨k, hs⟩ ⟨hk, hq⟩
  have hN : scN s = s.2.2.2.1.length := rfl
  have hN2 := hL.1
  have hR2 := hL.2.1
  refine j_seq ?_
  refine j_region ?_
  refine jg_adr _ rfl _ rfl rfl (op_lss (.base rfl) (.base rfl)) ?_
  refine jg_nil ?_
  refine jn_keepF (b := 1000) [3, 13, 14, 15, 16] [11] (.cons rfl (.cons rfl (.cons rfl (.cons rfl (.cons rfl .nil))))) (by repeat (first | exact .nil | refine .cons rfl ?_)) (.cons rfl .nil) ?_
  refine jn_seq (j_seq ?_)
  refine j_cond rfl (fun h3 => ?_) (fun h3 => ?_)
  · have h3 : k < (scR s).length := by simp at h3; omega
    have hrl := lim_rule hL h3
    refine j_skip (jn_seq (j_seq (j_block (j_seq ?_))))
    refine j_region ?_
    refine jg_adr _ rfl _ rfl rfl (op_index Try.underlying23 ty41 (.base rfl) (.base rfl) rfl (List.getElem?_eq_getElem (by first | omega | (simp; done) | (simp; omega) | (simp at hg; omega)))) ?_
    refine jg_adr _ rfl _ rfl rfl (op_load ty41 (.base rfl)) ?_
    refine jg_os _ rfl (op_alloc _ z41 rfl rfl (famH_no rfl)) ?_
    refine jg_os _ rfl (op_ostore ty41 (.base rfl) rfl rfl (Lens.id _) (.tv (.base rfl))) ?_
    refine jg_nil ?_
    refine jn_keepF (b := 1000) [3, 5, 13, 14, 15] [5, 11] (.cons rfl (.cons rfl (.cons rfl (.cons rfl (.cons rfl .nil))))) (by repeat (first | exact .nil | refine .cons rfl ?_)) (.cons rfl (.cons rfl .nil)) ?_
    refine jn_seq (j_seq ?_)
    refine j_region ?_
    refine jg_adr _ rfl _ rfl rfl (op_ofield fld41_1 (.base rfl)) ?_
    refine jg_adr _ rfl _ rfl rfl (op_oload ty3 (.base rfl) rfl rfl ln41_1) ?_
    refine jg_adr _ rfl _ rfl rfl (op_geq (.base rfl) (.base rfl)) ?_
    refine jg_adr _ rfl _ rfl rfl (op_move (.base rfl)) ?_
    refine jg_gd _ _ _ _ _ _ rfl rfl rfl rfl rfl (fun hg => op_ofield fld41_1 (.base rfl)) ?_
    refine jg_gd _ _ _ _ _ _ rfl rfl rfl rfl rfl (fun hg => op_oload ty3 (.gd rfl hg) rfl rfl ln41_1) ?_
    refine jg_gd _ _ _ _ _ _ rfl rfl rfl rfl rfl (fun hg => op_move (.f1 rfl)) ?_
    refine jg_gd _ _ _ _ _ _ rfl rfl rfl rfl rfl (fun hg => op_len_own Try.underlying43 (.gd rfl hg)) ?_
    refine jg_gd _ _ _ _ _ _ rfl rfl rfl rfl rfl (fun hg => op_lss (.gd rfl hg) (.gd rfl hg)) ?_
    refine jg_adr _ rfl _ rfl rfl (op_pick_and (.base rfl) (.base rfl) rfl (by intro h; first | (rw [h]; rfl) | (rw [hg, h]; rfl) | (rw [h, hg]; rfl) | simp_all)) ?_
    refine jg_nil ?_
    refine jn_keepF (b := 1000) [3, 5, 13, 14, 15, 28] [5, 11] (.cons rfl (.cons rfl (.cons rfl (.cons rfl (.cons rfl (.cons rfl .nil)))))) (by repeat (first | exact .nil | refine .cons rfl ?_)) (.cons rfl (.cons rfl .nil)) ?_
    refine jn_seq ?_
    refine j_cond rfl (fun h5 => ?_) (fun h5 => ?_)
    · have h5 : 0 ≤ rlD (scR s)[k] ∧ rlD (scR s)[k] < scN s := by
        by_cases e : 0 ≤ rlD (scR s)[k]
        · simp [e] at h5; exact ⟨e, h5⟩
        · simp [e] at h5
      obtain ⟨x, hxe⟩ : ∃ x : Nat, rlD (scR s)[k] = (x : Int) := ⟨(rlD (scR s)[k]).toNat, by omega⟩
      have hxn : x < scN s := by omega
      have hst := rowA_t h3 hxn hxe
      have hx0 := hq.at (rowA_at (k := k) hxn)
      obtain ⟨A, cap, hget⟩ := hx0
      have hx1 : (hs.map some)[x]? = some (some (A, (accD (scN s) ((scR s).take k) (x : Int)).length, cap)) := by rw [List.getElem?_map, hget]; rfl
      have hx2 := (rowA_at (k := k) hxn)
      have hxl : x < hs.length := (List.getElem?_eq_some_iff.1 hget).1
      have hx3 : ((hs.map some).set x none)[x]? = some none := by rw [List.getElem?_set_self (by simpa using hxl)]
      have hx4 : ((rowA s k).set x [])[x]? = some [] := by rw [List.getElem?_set_self (by rw [rowA_len]; exact hxn)]
      have hal := accD_len (n := scN s) (d := (x : Int)) hL.2.2 k (by omega)
      have hrl2 := rdf_len (n := scN s) hrl
      refine j_draw_lateN (stB := ⟨[(41, .own 60 1 0 ((accD (scN s) ((scR s).take k) (x : Int)).length + (rdf (scN s) (scR s)[k]).length)), (3, .fam (.own 11 1 0 (scN s)) 1000 1 ((hs.map some).set x none)), (5, .optr 5 rRule.n 0 0), (13, .tv (rSlice rRule) (scR s)), (14, .raw (.int .i64 ((scR s).length : Nat))), (15, .raw (.int .i64 (k : Nat)))], (60, ⟨rInt .i64, ((accD (scN s) ((scR s).take k) (x : Int)).drop 0).take (accD (scN s) ((scR s).take k) (x : Int)).length ++ rdf (scN s) (scR s)[k]⟩) :: (11, ⟨rHd, hs⟩) :: (5, ⟨rRule, [(scR s)[k]]⟩) :: famH (rInt .i64) 1000 ((rowA s k).set x [])⟩) 3 12 mo (by kernel_rfl) (by kernel_rfl) (by decide) (by decide) rfl rfl (
        AS.cons _ _ rfl (ga_adr rfl rfl rfl (op_move (.f1 rfl))) (
        AS.cons _ _ rfl (ga_adr rfl rfl rfl (op_ofield fld41_1 (.base rfl))) (
        AS.cons _ _ rfl (ga_adr rfl rfl rfl (op_oload ty3 (.base rfl) rfl rfl ln41_1)) (
        AS.cons _ _ rfl (ga_adr rfl rfl rfl (op_move (.f1 rfl))) (
        AS.cons _ _ rfl (ga_adr rfl rfl rfl (op_ofield fld41_1 (.base rfl))) (
        AS.cons _ _ rfl (ga_adr rfl rfl rfl (op_oload ty3 (.base rfl) rfl rfl ln41_1)) (
        AS.cons _ _ rfl (ga_adr rfl rfl rfl (op_oindex Try.underlying43 tyH28 (.base rfl) (.base rfl) hxe hxn)) (
        AS.cons _ _ rfl (ga_adr rfl rfl rfl (op_oload tyH28 (.base rfl) rfl (by rw [Nat.zero_add]; exact hget) (Lens.id _))) (
        AS.cons _ _ rfl (ga_adr rfl rfl rfl (op_oload ty41 (.base rfl) rfl rfl (Lens.id _))) (
        AS.cons _ _ rfl (ga_adr rfl rfl rfl (op_move (.f1 rfl))) (
        AS.cons _ _ rfl (ga_adr rfl rfl rfl (op_len_own Try.underlying43 (.base rfl))) (
        AS.cons _ _ rfl (ga_adr rfl rfl rfl (op_call (defsOf_ok (scR s)[k] (scN s) hrl (by omega)) (.cons (.base rfl) (.cons (.base rfl) .nil)) rfl rfl)) (
        AS.nil))))))))))))) ?_ (
        AS.cons _ _ rfl (ga_adr rfl rfl rfl (op_move (.f1 rfl))) (
        AS.cons _ _ rfl (ga_adr rfl rfl rfl (op_ofield fld41_1 (.base rfl))) (
        AS.cons _ _ rfl (ga_adr rfl rfl rfl (op_oload ty3 (.base rfl) rfl rfl ln41_1)) (
        AS.nil)))) ?_
      · intro bs hbs a w hi Q
        rcases bs with _ | ⟨b0, _ | ⟨b1, _ | ⟨b2, _ | ⟨b3, br⟩⟩⟩⟩
        · simp at hbs
        · simp at hbs
        · simp at hbs
        · cases b0 <;> cases b1 <;> cases b2
          · exact late_bar (fun a w hi => inv_takeF (rt := rInt .i64) (xs := (accD (scN s) ((scR s).take k) (x : Int))) (i := 3) (j := 36) (c := 60) (x := x) (m := (accD (scN s) ((scR s).take k) (x : Int)).length) (A := A) (cap := cap) (ks := [5, 13, 14, 15, 40]) (hs := [5, 11]) rfl rfl hx1 hx2 rfl rfl (.cons rfl (.cons rfl (.cons rfl (.cons rfl (.cons rfl .nil))))) rfl rfl rfl (by repeat (first | exact .nil | refine .cons rfl ?_)) (.cons rfl (.cons rfl .nil)) rfl rfl hi) (op_append [3, 5, 13, 14, 15] Try.underlying28 ty3 z3 rfl by3 (.base rfl) rfl (by omega) (.tv (.base rfl)) (by unfold maxLen; omega) (by omega) rfl (.cons rfl (.cons rfl (.cons rfl (.cons rfl (.cons rfl .nil))))) rfl) ⟨(by repeat (first | exact SubS_nil | refine SubS_cons rfl (by first | rfl | (simp; done) | assumption) ?_)), (by repeat (first | refine SubH_cons rfl rfl ?_ | exact SubH_tail (by repeat (first | exact .nil | refine .cons rfl ?_)) rfl))⟩ a w hi Q
          · exact late_bar (fun a w hi => inv_takeF (rt := rInt .i64) (xs := (accD (scN s) ((scR s).take k) (x : Int))) (i := 3) (j := 36) (c := 60) (x := x) (m := (accD (scN s) ((scR s).take k) (x : Int)).length) (A := A) (cap := cap) (ks := [5, 13, 14, 15, 31, 40]) (hs := [5, 11]) rfl rfl hx1 hx2 rfl rfl (.cons rfl (.cons rfl (.cons rfl (.cons rfl (.cons rfl (.cons rfl .nil)))))) rfl rfl rfl (by repeat (first | exact .nil | refine .cons rfl ?_)) (.cons rfl (.cons rfl .nil)) rfl rfl hi) (op_append [3, 5, 13, 14, 15, 31] Try.underlying28 ty3 z3 rfl by3 (.base rfl) rfl (by omega) (.tv (.base rfl)) (by unfold maxLen; omega) (by omega) rfl (.cons rfl (.cons rfl (.cons rfl (.cons rfl (.cons rfl (.cons rfl .nil)))))) rfl) ⟨(by repeat (first | exact SubS_nil | refine SubS_cons rfl (by first | rfl | (simp; done) | assumption) ?_)), (by repeat (first | refine SubH_cons rfl rfl ?_ | exact SubH_tail (by repeat (first | exact .nil | refine .cons rfl ?_)) rfl))⟩ a w hi Q
          · exact late_bar (fun a w hi => inv_takeF (rt := rInt .i64) (xs := (accD (scN s) ((scR s).take k) (x : Int))) (i := 3) (j := 36) (c := 60) (x := x) (m := (accD (scN s) ((scR s).take k) (x : Int)).length) (A := A) (cap := cap) (ks := [5, 13, 14, 15, 30, 40]) (hs := [5, 11]) rfl rfl hx1 hx2 rfl rfl (.cons rfl (.cons rfl (.cons rfl (.cons rfl (.cons rfl (.cons rfl .nil)))))) rfl rfl rfl (by repeat (first | exact .nil | refine .cons rfl ?_)) (.cons rfl (.cons rfl .nil)) rfl rfl hi) (op_append [3, 5, 13, 14, 15, 30] Try.underlying28 ty3 z3 rfl by3 (.base rfl) rfl (by omega) (.tv (.base rfl)) (by unfold maxLen; omega) (by omega) rfl (.cons rfl (.cons rfl (.cons rfl (.cons rfl (.cons rfl (.cons rfl .nil)))))) rfl) ⟨(by repeat (first | exact SubS_nil | refine SubS_cons rfl (by first | rfl | (simp; done) | assumption) ?_)), (by repeat (first | refine SubH_cons rfl rfl ?_ | exact SubH_tail (by repeat (first | exact .nil | refine .cons rfl ?_)) rfl))⟩ a w hi Q
          · exact late_bar (fun a w hi => inv_takeF (rt := rInt .i64) (xs := (accD (scN s) ((scR s).take k) (x : Int))) (i := 3) (j := 36) (c := 60) (x := x) (m := (accD (scN s) ((scR s).take k) (x : Int)).length) (A := A) (cap := cap) (ks := [5, 13, 14, 15, 30, 31, 40]) (hs := [5, 11]) rfl rfl hx1 hx2 rfl rfl (.cons rfl (.cons rfl (.cons rfl (.cons rfl (.cons rfl (.cons rfl (.cons rfl .nil))))))) rfl rfl rfl (by repeat (first | exact .nil | refine .cons rfl ?_)) (.cons rfl (.cons rfl .nil)) rfl rfl hi) (op_append [3, 5, 13, 14, 15, 30, 31] Try.underlying28 ty3 z3 rfl by3 (.base rfl) rfl (by omega) (.tv (.base rfl)) (by unfold maxLen; omega) (by omega) rfl (.cons rfl (.cons rfl (.cons rfl (.cons rfl (.cons rfl (.cons rfl (.cons rfl .nil))))))) rfl) ⟨(by repeat (first | exact SubS_nil | refine SubS_cons rfl (by first | rfl | (simp; done) | assumption) ?_)), (by repeat (first | refine SubH_cons rfl rfl ?_ | exact SubH_tail (by repeat (first | exact .nil | refine .cons rfl ?_)) rfl))⟩ a w hi Q
          · exact late_bar (fun a w hi => inv_takeF (rt := rInt .i64) (xs := (accD (scN s) ((scR s).take k) (x : Int))) (i := 3) (j := 36) (c := 60) (x := x) (m := (accD (scN s) ((scR s).take k) (x : Int)).length) (A := A) (cap := cap) (ks := [5, 13, 14, 15, 29, 40]) (hs := [5, 11]) rfl rfl hx1 hx2 rfl rfl (.cons rfl (.cons rfl (.cons rfl (.cons rfl (.cons rfl (.cons rfl .nil)))))) rfl rfl rfl (by repeat (first | exact .nil | refine .cons rfl ?_)) (.cons rfl (.cons rfl .nil)) rfl rfl hi) (op_append [3, 5, 13, 14, 15, 29] Try.underlying28 ty3 z3 rfl by3 (.base rfl) rfl (by omega) (.tv (.base rfl)) (by unfold maxLen; omega) (by omega) rfl (.cons rfl (.cons rfl (.cons rfl (.cons rfl (.cons rfl (.cons rfl .nil)))))) rfl) ⟨(by repeat (first | exact SubS_nil | refine SubS_cons rfl (by first | rfl | (simp; done) | assumption) ?_)), (by repeat (first | refine SubH_cons rfl rfl ?_ | exact SubH_tail (by repeat (first | exact .nil | refine .cons rfl ?_)) rfl))⟩ a w hi Q
          · exact late_bar (fun a w hi => inv_takeF (rt := rInt .i64) (xs := (accD (scN s) ((scR s).take k) (x : Int))) (i := 3) (j := 36) (c := 60) (x := x) (m := (accD (scN s) ((scR s).take k) (x : Int)).length) (A := A) (cap := cap) (ks := [5, 13, 14, 15, 29, 31, 40]) (hs := [5, 11]) rfl rfl hx1 hx2 rfl rfl (.cons rfl (.cons rfl (.cons rfl (.cons rfl (.cons rfl (.cons rfl (.cons rfl .nil))))))) rfl rfl rfl (by repeat (first | exact .nil | refine .cons rfl ?_)) (.cons rfl (.cons rfl .nil)) rfl rfl hi) (op_append [3, 5, 13, 14, 15, 29, 31] Try.underlying28 ty3 z3 rfl by3 (.base rfl) rfl (by omega) (.tv (.base rfl)) (by unfold maxLen; omega) (by omega) rfl (.cons rfl (.cons rfl (.cons rfl (.cons rfl (.cons rfl (.cons rfl (.cons rfl .nil))))))) rfl) ⟨(by repeat (first | exact SubS_nil | refine SubS_cons rfl (by first | rfl | (simp; done) | assumption) ?_)), (by repeat (first | refine SubH_cons rfl rfl ?_ | exact SubH_tail (by repeat (first | exact .nil | refine .cons rfl ?_)) rfl))⟩ a w hi Q
          · exact late_bar (fun a w hi => inv_takeF (rt := rInt .i64) (xs := (accD (scN s) ((scR s).take k) (x : Int))) (i := 3) (j := 36) (c := 60) (x := x) (m := (accD (scN s) ((scR s).take k) (x : Int)).length) (A := A) (cap := cap) (ks := [5, 13, 14, 15, 29, 30, 40]) (hs := [5, 11]) rfl rfl hx1 hx2 rfl rfl (.cons rfl (.cons rfl (.cons rfl (.cons rfl (.cons rfl (.cons rfl (.cons rfl .nil))))))) rfl rfl rfl (by repeat (first | exact .nil | refine .cons rfl ?_)) (.cons rfl (.cons rfl .nil)) rfl rfl hi) (op_append [3, 5, 13, 14, 15, 29, 30] Try.underlying28 ty3 z3 rfl by3 (.base rfl) rfl (by omega) (.tv (.base rfl)) (by unfold maxLen; omega) (by omega) rfl (.cons rfl (.cons rfl (.cons rfl (.cons rfl (.cons rfl (.cons rfl (.cons rfl .nil))))))) rfl) ⟨(by repeat (first | exact SubS_nil | refine SubS_cons rfl (by first | rfl | (simp; done) | assumption) ?_)), (by repeat (first | refine SubH_cons rfl rfl ?_ | exact SubH_tail (by repeat (first | exact .nil | refine .cons rfl ?_)) rfl))⟩ a w hi Q
          · exact late_bar (fun a w hi => inv_takeF (rt := rInt .i64) (xs := (accD (scN s) ((scR s).take k) (x : Int))) (i := 3) (j := 36) (c := 60) (x := x) (m := (accD (scN s) ((scR s).take k) (x : Int)).length) (A := A) (cap := cap) (ks := [5, 13, 14, 15, 29, 30, 31, 40]) (hs := [5, 11]) rfl rfl hx1 hx2 rfl rfl (.cons rfl (.cons rfl (.cons rfl (.cons rfl (.cons rfl (.cons rfl (.cons rfl (.cons rfl .nil)))))))) rfl rfl rfl (by repeat (first | exact .nil | refine .cons rfl ?_)) (.cons rfl (.cons rfl .nil)) rfl rfl hi) (op_append [3, 5, 13, 14, 15, 29, 30, 31] Try.underlying28 ty3 z3 rfl by3 (.base rfl) rfl (by omega) (.tv (.base rfl)) (by unfold maxLen; omega) (by omega) rfl (.cons rfl (.cons rfl (.cons rfl (.cons rfl (.cons rfl (.cons rfl (.cons rfl (.cons rfl .nil)))))))) rfl) ⟨(by repeat (first | exact SubS_nil | refine SubS_cons rfl (by first | rfl | (simp; done) | assumption) ?_)), (by repeat (first | refine SubH_cons rfl rfl ?_ | exact SubH_tail (by repeat (first | exact .nil | refine .cons rfl ?_)) rfl))⟩ a w hi Q
        · simp at hbs
      refine jt_adr _ _ rfl rfl rfl rfl (by kernel_rfl) (op_oindex Try.underlying43 tyH28 (.base rfl) (.base rfl) hxe hxn) ?_
      refine jt_giveF (rt := rInt .i64) 3 41 60 x [13, 14, 15, 42] [5, 11] rfl rfl hx3 hx4 rfl (by simp) rfl rfl (.cons rfl (.cons rfl (.cons rfl (.cons rfl .nil)))) rfl rfl rfl (by repeat (first | exact .nil | refine .cons rfl ?_)) (.cons rfl (.cons rfl .nil)) rfl rfl (fun A2 cap2 => ?_)
      refine jt_os _ rfl rfl (by kernel_rfl) (op_ostore (d := (A2, (accD (scN s) ((scR s).take k) (x : Int)).length + (rdf (scN s) (scR s)[k]).length, cap2)) tyH28 (.base rfl) rfl (by rw [Nat.zero_add]; exact hget) (Lens.id _) (.raw (.base rfl) rfl)) ?_
      refine jt_nil rfl ?_
      refine jn_keepF (b := 1000) [3, 13, 14, 15] [11] (.cons rfl (.cons rfl (.cons rfl (.cons rfl .nil)))) (by repeat (first | exact .nil | refine .cons rfl ?_)) (.cons rfl .nil) ?_
      refine jn_blk (jn_seq ?_)
      refine j_region ?_
      refine jg_adr _ rfl _ rfl rfl (op_add (.base rfl) (.base rfl) (w64 (by omega))) ?_
      refine jg_adr _ rfl _ rfl rfl (op_move (.base rfl)) ?_
      refine jg_nil ?_
      refine jn_keepF (b := 1000) [3, 13, 14, 15] [11] (.cons rfl (.cons rfl (.cons rfl (.cons rfl .nil)))) (by repeat (first | exact .nil | refine .cons rfl ?_)) (.cons rfl .nil) ?_
      first | exact jn_loop (fun a w hi => ⟨(k + 1, hs), (by first | omega | (simp; omega)), (⟨by omega, by rw [hs0]; exact hq⟩), Sub.inv ⟨(by repeat (first | exact SubS_nil | refine SubS_cons rfl (by first | rfl | (simp; done) | assumption | (refine congrArg (SV.fam (SV.own 11 1 0 (scN s)) 1000 1) ?_; rfl; done)) ?_)), (by repeat (first | refine SubH_cons rfl (by first | rfl | (simp; done) | assumption | (refine congrArg (HB.mk rHd) ?_; simp; done)) ?_ | exact SubH_tail (by repeat (first | exact .nil | refine .cons rfl ?_)) (hs0.symm)))⟩ hi⟩) | exact jn_loop (fun a w hi => ⟨(k + 1, hs.set x (A2, (accD (scN s) ((scR s).take k) (x : Int)).length + (rdf (scN s) (scR s)[k]).length, cap2)), (by first | omega | (simp; omega)), (⟨by omega, by rw [hst]; exact hq.set (by rw [rowA_len]; exact hxn) (by simp)⟩), Sub.inv ⟨(by repeat (first | exact SubS_nil | refine SubS_cons rfl (by first | rfl | (simp; done) | assumption | (refine congrArg (SV.fam (SV.own 11 1 0 (scN s)) 1000 1) ?_; simp [List.map_set]; done)) ?_)), (by repeat (first | refine SubH_cons rfl (by first | rfl | (simp; done) | assumption | (refine congrArg (HB.mk rHd) ?_; simp; done)) ?_ | exact SubH_tail (by repeat (first | exact .nil | refine .cons rfl ?_)) (by rw [hst]; simp; rw [List.take_of_length_le (by simp)])))⟩ hi⟩)
    · have e2 : rlD (scR s)[k] = (scR s)[k].2.1 := rfl
      have h5 : inN (scN s) (rlD (scR s)[k]) = false := by
        by_cases e : 0 ≤ rlD (scR s)[k]
        · simp [e] at h5; simp [inN]; omega
        · simp [inN]; omega
      have hs0 := rowA_f h3 h5
      refine j_skip (jn_blk (jn_seq ?_))
      refine j_region ?_
      refine jg_adr _ rfl _ rfl rfl (op_add (.base rfl) (.base rfl) (w64 (by omega))) ?_
      refine jg_adr _ rfl _ rfl rfl (op_move (.base rfl)) ?_
      refine jg_nil ?_
      refine jn_keepF (b := 1000) [3, 13, 14, 15] [11] (.cons rfl (.cons rfl (.cons rfl (.cons rfl .nil)))) (by repeat (first | exact .nil | refine .cons rfl ?_)) (.cons rfl .nil) ?_
      first | exact jn_loop (fun a w hi => ⟨(k + 1, hs), (by first | omega | (simp; omega)), (⟨by omega, by rw [hs0]; exact hq⟩), Sub.inv ⟨(by repeat (first | exact SubS_nil | refine SubS_cons rfl (by first | rfl | (simp; done) | assumption | (refine congrArg (SV.fam (SV.own 11 1 0 (scN s)) 1000 1) ?_; rfl; done)) ?_)), (by repeat (first | refine SubH_cons rfl (by first | rfl | (simp; done) | assumption | (refine congrArg (HB.mk rHd) ?_; simp; done)) ?_ | exact SubH_tail (by repeat (first | exact .nil | refine .cons rfl ?_)) (hs0.symm)))⟩ hi⟩) | exact jn_loop (fun a w hi => ⟨(k + 1, hs.set x (A2, (accD (scN s) ((scR s).take k) (x : Int)).length + (rdf (scN s) (scR s)[k]).length, cap2)), (by first | omega | (simp; omega)), (⟨by omega, by rw [hst]; exact hq.set (by rw [rowA_len]; exact hxn) (by simp)⟩), Sub.inv ⟨(by repeat (first | exact SubS_nil | refine SubS_cons rfl (by first | rfl | (simp; done) | assumption | (refine congrArg (SV.fam (SV.own 11 1 0 (scN s)) 1000 1) ?_; simp [List.map_set]; done)) ?_)), (by repeat (first | refine SubH_cons rfl (by first | rfl | (simp; done) | assumption | (refine congrArg (HB.mk rHd) ?_; simp; done)) ?_ | exact SubH_tail (by repeat (first | exact .nil | refine .cons rfl ?_)) (by rw [hst]; simp; rw [List.take_of_length_le (by simp)])))⟩ hi⟩)
  · have hke : k = (scR s).length := by simp at h3; omega
    subst hke
    refine j_exit (je_seq (je_loop (je_blk (jn_seq (j_seq (j_seq ?_))))))
    refine j_region ?_
    refine jg_adr _ rfl _ rfl rfl (op_move (.f1 rfl)) ?_
    refine jg_adr _ rfl _ rfl rfl (op_len_own Try.underlying43 (.base rfl)) ?_
    refine jg_adr _ rfl _ rfl rfl (op_move (.base rfl)) ?_
    refine jg_nil ?_
    refine jn_keepF (b := 1000) [3, 44, 45, 46] [11] (.cons rfl (.cons rfl (.cons rfl (.cons rfl .nil)))) (by repeat (first | exact .nil | refine .cons rfl ?_)) (.cons rfl .nil) ?_
    refine jn_seq (j_block ?_)
    refine j_loopp (ι := (Nat × List (Option Addr × Nat × Nat))) (fun (k, hs) => ⟨[(3, .fam (.own 11 1 0 (scN s)) 1000 1 (hs.map some)), (44, .own 11 1 0 (scN s)), (45, .raw (.int .i64 ((scN s : Nat)))), (46, .raw (.int .i64 ((k : Nat))))], (11, ⟨rHd, hs⟩) :: famH (rInt .i64) 1000 (rowB s k)⟩) (fun (k, hs) => k ≤ scN s ∧ HdOK hs (rowB s k)) (fun (k, hs) => scN s - k) (0, hs) (⟨Nat.zero_le _, by rw [rowB_zero]; exact hq⟩) (fun a w hi => (Sub.inv ⟨(by repeat (first | exact SubS_nil | refine SubS_cons rfl (by first | rfl | (simp; done) | assumption | (refine congrArg (SV.fam (SV.own 11 1 0 (scN s)) 1000 1) ?_; rfl; done)) ?_)), (by repeat (first | refine SubH_cons rfl (by first | rfl | (simp; done) | assumption | (refine congrArg (HB.mk rHd) ?_; simp; done)) ?_ | exact SubH_tail (by repeat (first | exact .nil | refine .cons rfl ?_)) (by rw [rowB_zero])))⟩ hi)) ?_
    rintro ⟨k, hs⟩ ⟨hk, hq⟩
    have hN : scN s = s.2.2.2.1.length := rfl
    have hN2 := hL.1
    have hR2 := hL.2.1
    refine j_seq ?_
    refine j_region ?_
    refine jg_adr _ rfl _ rfl rfl (op_lss (.base rfl) (.base rfl)) ?_
    refine jg_nil ?_
    refine jn_keepF (b := 1000) [3, 44, 45, 46, 47] [11] (.cons rfl (.cons rfl (.cons rfl (.cons rfl (.cons rfl .nil))))) (by repeat (first | exact .nil | refine .cons rfl ?_)) (.cons rfl .nil) ?_
    refine jn_seq (j_seq ?_)
    refine j_cond rfl (fun h9 => ?_) (fun h9 => ?_)
    · have hxn : k < scN s := by simp at h9; omega
      have hst := rowB_t hxn
      have hx0 := hq.at (rowB_at (k := k) hxn (Nat.le_refl _))
      obtain ⟨A, cap, hget⟩ := hx0
      have hx1 : (hs.map some)[k]? = some (some (A, (accD (scN s) (scR s) (k : Int)).length, cap)) := by rw [List.getElem?_map, hget]; rfl
      have hx2 := (rowB_at (k := k) hxn (Nat.le_refl _))
      have hxl : k < hs.length := (List.getElem?_eq_some_iff.1 hget).1
      have hx3 : ((hs.map some).set k none)[k]? = some none := by rw [List.getElem?_set_self (by simpa using hxl)]
      have hx4 : ((rowB s k).set k [])[k]? = some [] := by rw [List.getElem?_set_self (by rw [rowB_len]; exact hxn)]
      have hal := accD_len (n := scN s) (d := (k : Int)) hL.2.2 (scR s).length (Nat.le_refl _)
      rw [List.take_length] at hal
      refine j_skip (jn_seq (j_seq (j_block (j_seq ?_))))
      refine j_region ?_
      refine jg_adr _ rfl _ rfl rfl (op_move (.base rfl)) ?_
      refine jg_adr _ rfl _ rfl rfl (op_oindex Try.underlying43 tyH28 (.base rfl) (.base rfl) rfl hxn) ?_
      refine jg_adr _ rfl _ rfl rfl (op_oload tyH28 (.base rfl) rfl (by rw [Nat.zero_add]; exact hget) (Lens.id _)) ?_
      refine jg_adr _ rfl _ rfl rfl (op_assign (.base rfl)) ?_
      refine jg_adr _ rfl _ rfl rfl (op_assign (.base rfl)) ?_
      refine jg_nil ?_
      refine jn_keepF (b := 1000) [3, 6, 7, 44, 45, 46] [11] (.cons rfl (.cons rfl (.cons rfl (.cons rfl (.cons rfl (.cons rfl .nil)))))) (by repeat (first | exact .nil | refine .cons rfl ?_)) (.cons rfl .nil) ?_
      refine jn_seq ?_
      refine j_region ?_
      refine jg_adr _ rfl _ rfl rfl (op_move (.f1 rfl)) ?_
      refine jg_adr _ rfl _ rfl rfl (op_move (.base rfl)) ?_
      refine jg_adr _ rfl _ rfl rfl (op_move (.base rfl)) ?_
      refine jg_takeF (rt := rInt .i64) (xs := (accD (scN s) (scR s) (k : Int))) (m := (accD (scN s) (scR s) (k : Int)).length) (A := A) (cap := cap) 3 53 60 k [44, 45, 46, 51, 52] [11] rfl rfl hx1 hx2 rfl rfl (.cons rfl (.cons rfl (.cons rfl (.cons rfl (.cons rfl .nil))))) rfl rfl rfl (by repeat (first | exact .nil | refine .cons rfl ?_)) (.cons rfl .nil) rfl rfl ?_
      refine jg_os _ rfl (op_turn1 turn_sortedSet (.base rfl) rfl (by rfl) (by omega) rfl) ?_
      refine jg_adr _ rfl _ rfl rfl (op_oindex Try.underlying43 tyH28 (.base rfl) (.base rfl) rfl hxn) ?_
      refine jg_giveF (rt := rInt .i64) 3 54 60 k [44, 45, 46, 55] [11] rfl rfl hx3 hx4 rfl (by rw [dst_len16]; exact uniqS_len _) rfl rfl (.cons rfl (.cons rfl (.cons rfl (.cons rfl .nil)))) rfl rfl rfl (by repeat (first | exact .nil | refine .cons rfl ?_)) (.cons rfl .nil) rfl rfl (fun A2 cap2 => ?_)
      refine jg_os _ rfl (op_ostore (d := (A2, (uniqS (accD (scN s) (scR s) (k : Int))).length, cap2)) tyH28 (.base rfl) rfl (by rw [Nat.zero_add]; exact hget) (Lens.id _) (.raw (.base rfl) rfl)) ?_
      refine jg_nil ?_
      refine jn_keepF (b := 1000) [3, 44, 45, 46] [11] (.cons rfl (.cons rfl (.cons rfl (.cons rfl .nil)))) (by repeat (first | exact .nil | refine .cons rfl ?_)) (.cons rfl .nil) ?_
      refine jn_blk (jn_seq ?_)
      refine j_region ?_
      refine jg_adr _ rfl _ rfl rfl (op_add (.base rfl) (.base rfl) (w64 (by omega))) ?_
      refine jg_adr _ rfl _ rfl rfl (op_move (.base rfl)) ?_
      refine jg_nil ?_
      refine jn_keepF (b := 1000) [3, 44, 45, 46] [11] (.cons rfl (.cons rfl (.cons rfl (.cons rfl .nil)))) (by repeat (first | exact .nil | refine .cons rfl ?_)) (.cons rfl .nil) ?_
      exact jn_loop (fun a w hi => ⟨(k + 1, hs.set k (A2, (uniqS (accD (scN s) (scR s) (k : Int))).length, cap2)), (by first | omega | (simp; omega)), (⟨by omega, by rw [hst]; exact hq.set (by rw [rowB_len]; exact hxn) rfl⟩), Sub.inv ⟨(by repeat (first | exact SubS_nil | refine SubS_cons rfl (by first | rfl | (simp; done) | assumption | (refine congrArg (SV.fam (SV.own 11 1 0 (scN s)) 1000 1) ?_; simp [List.map_set]; done)) ?_)), (by repeat (first | refine SubH_cons rfl (by first | rfl | (simp; done) | assumption | (refine congrArg (HB.mk rHd) ?_; simp; done)) ?_ | exact SubH_tail (by repeat (first | exact .nil | refine .cons rfl ?_)) (by rw [hst, dst_take]; simp)))⟩ hi⟩)
    · have hke : k = scN s := by simp at h9; omega
      subst hke
      refine j_exit (je_seq (je_loop (je_blk (jn_seq (j_seq ?_)))))
      refine j_foldF (b := 1000) (rt := rInt .i64) 3 11 [] [] rfl hq.1 hq.2 rfl rfl rfl .nil rfl (by repeat (first | exact .nil | refine .cons rfl ?_)) .nil rfl rfl ?_
      rw [rowB_end]
      refine j_region ?_
      refine jg_adr _ rfl _ rfl rfl (op_move (.base rfl)) ?_
      refine jg_adr _ rfl _ rfl rfl (op_assign (.base rfl)) ?_
      refine jg_nil ?_
      refine jn_keep [2] [11] (.cons rfl .nil) (.cons rfl .nil) ?_
      refine jn_seq (j_ret ?_)
      refine jr_seal (rt := rSlice (rInt .i64)) 11 2 (dropH 11 _) rfl rfl (by simp [allD]) (dropH_sub 11 _) (dropH_no 11 _) ?_
      exact jr_fin1 Try.results22 (res_tmp rfl) rfl (congrArg (SV.tv (rSlice (rSlice (rInt .i64)))) (by rw [List.drop_zero, List.take_of_length_le (by simp [allD])]))

end Go.Proofs.Ytemcooggkcneiaa
namespace Go.Proofs.Ytemcooggkcneiaa
open Go.Eng
set_option maxRecDepth 100000
set_option maxHeartbeats 4000000
set_option linter.unusedVariables false
set_option linter.unusedSimpArgs false

theorem reached_ok (n : Nat) (dd : List (List Int)) (d : Int) (w : WFd n dd) (hn14 : n ≤ 14) (h0 : 0 ≤ d) (hd : d < n) : Ct Try.prog 32 [.tv (rSlice (rSlice (rInt .i64))) dd, .raw (.int .i64 d)] (.tv (rSlice (rInt .i64)) (reachL n dd d)) := by
  refine ct_intro Try.func32 rfl rfl Try.ntmps32 rfl rfl ?_
  intro w0 ok0
  have hn := hn14
  refine j_seq ?_
  refine j_region ?_
  refine jg_adr _ rfl _ rfl rfl (op_assign (.base rfl)) ?_
  refine jg_nil ?_
  refine jn_keep [0, 1] [] (.cons rfl (.cons rfl .nil)) .nil ?_
  refine jn_seq (j_seq ?_)
  rw [← w.len] at hn
  have hdl := w.len
  refine j_region ?_
  refine jg_adr _ rfl _ rfl rfl (op_move (.base rfl)) ?_
  refine jg_adr _ rfl _ rfl rfl (op_len Try.underlying43 (.base rfl)) ?_
  refine jg_os _ rfl (op_make Try.underlying61 ty4 z4 rfl by4 (.base rfl) (.base rfl) (by omega) (by unfold maxLen; omega) rfl rfl rfl) ?_
  refine jg_adr _ rfl _ rfl rfl (op_assign (.base rfl)) ?_
  refine jg_nil ?_
  refine jn_keep [0, 1, 5] [15] (.cons rfl (.cons rfl (.cons rfl .nil))) (.cons rfl .nil) ?_
  refine jn_seq (j_seq ?_)
  refine j_region ?_
  refine jg_adr _ rfl _ rfl rfl (op_move (.base rfl)) ?_
  refine jg_os _ rfl (op_obslice (rt := rInt .i64) Try.underlying28 ty3 z3 rfl (.cons (.raw (.base rfl) rfl) .nil) rfl rfl rfl rfl rfl) ?_
  refine jg_adr _ rfl _ rfl rfl (op_assign (.base rfl)) ?_
  refine jg_nil ?_
  refine jn_keep [0, 5, 6] [15, 17] (.cons rfl (.cons rfl (.cons rfl .nil))) (.cons rfl (.cons rfl .nil)) ?_
  refine jn_seq (j_seq (j_block ?_))
  refine j_loopp (ι := (List Bool × List Int × Nat)) (fun (seen, xs, off) => ⟨[(0, .tv (rSlice (rSlice (rInt .i64))) dd), (5, .own 15 rBool.n 0 n), (6, .own 17 (rInt .i64).n off (xs.length - off))], [(15, ⟨rBool, seen⟩), (17, ⟨rInt .i64, xs⟩)]⟩) (fun (seen, xs, off) => RI n dd d seen (xs.drop off) [] ∧ off ≤ xs.length) (fun (seen, xs, off) => 2 * unseen seen + (xs.length - off)) (List.replicate n false, [d], 0) (⟨by exact RI.start h0 hd, Nat.zero_le _⟩) (fun a w hi => Sub.inv ⟨(by repeat (first | exact SubS_nil | refine SubS_cons rfl (by first | rfl | (simp; done) | assumption | (refine congrArg (SV.own 15 rBool.n 0) ?_; exact hdl; done)) ?_)), (by repeat (first | exact SubH_nil | refine SubH_cons rfl (by first | rfl | (simp; done) | assumption | (refine congrArg (HB.mk rBool) ?_; rw [hdl]; done)) ?_))⟩ hi) ?_
  rintro ⟨seen, xs, off⟩ ⟨hi, hoff⟩
  refine j_seq (j_seq ?_)
  refine j_region ?_
  refine jg_adr _ rfl _ rfl rfl (op_move (.base rfl)) ?_
  refine jg_adr _ rfl _ rfl rfl (op_len_own Try.underlying28 (.base rfl)) ?_
  refine jg_adr _ rfl _ rfl rfl (op_gtr (.base rfl) (.base rfl)) ?_
  refine jg_nil ?_
  refine jn_keep [0, 5, 6, 20] [15, 17] (.cons rfl (.cons rfl (.cons rfl (.cons rfl .nil)))) (.cons rfl (.cons rfl .nil)) ?_
  refine jn_seq ?_
  refine j_cond rfl (fun h3 => ?_) (fun h3 => ?_)
  · have h3 : off < xs.length := by simp at h3; omega
    have hml := hi.len
    have hms := hi.mes
    refine j_skip (jn_seq (j_block (j_seq ?_)))
    refine j_region ?_
    refine jg_adr _ rfl _ rfl rfl (op_move (.base rfl)) ?_
    refine jg_adr _ rfl _ rfl rfl (op_oindex Try.underlying28 ty3 (.base rfl) (.base rfl) (show (0 : Int) = ((0 : Nat) : Int) from rfl) (by first | omega | (simp; done) | (simp; omega))) ?_
    refine jg_adr _ rfl _ rfl rfl (op_oload ty3 (.base rfl) rfl (List.getElem?_eq_getElem (by first | omega | (simp; done) | (simp; omega))) (Lens.id _)) ?_
    refine jg_adr _ rfl _ rfl rfl (op_assign (.base rfl)) ?_
    obtain ⟨y, hy⟩ : ∃ y, y = xs[off + 0] := ⟨_, rfl⟩
    rw [← hy]
    have hQ : xs.drop off = y :: xs.drop (off + 1) := by rw [hy]; exact List.drop_eq_getElem_cons h3
    have hi1 : RI n dd d seen (y :: xs.drop (off + 1)) [] := by rw [← hQ]; exact hi
    obtain ⟨hy0, hyn⟩ := hi1.rng y (by simp)
    have hys := hi1.src y (by simp)
    have hi2 := hi1.pop
    have hyl : y.toNat < dd.length := by rw [w.len]; omega
    have hyc : y = ((y.toNat : Nat) : Int) := by omega
    have hrl := w.rlen y
    obtain ⟨mu0, hmu0⟩ : ∃ mu0, mu0 = 2 * unseen seen + (xs.length - off) := ⟨_, rfl⟩
    refine jg_nil ?_
    refine jn_keep [0, 5, 6, 7] [15, 17] (.cons rfl (.cons rfl (.cons rfl (.cons rfl .nil)))) (.cons rfl (.cons rfl .nil)) ?_
    refine jn_seq (j_seq ?_)
    refine j_region ?_
    refine jg_adr _ rfl _ rfl rfl (op_move (.base rfl)) ?_
    refine jg_adr _ rfl _ rfl rfl (op_oslice Try.underlying28 ty3 (.base rfl) ⟨_, _, (.base rfl), (show (1 : Int) = ((1 : Nat) : Int) from rfl)⟩ rfl (by omega) (by omega)) ?_
    refine jg_adr _ rfl _ rfl rfl (op_assign (.base rfl)) ?_
    refine jg_nil ?_
    refine jn_keep [0, 5, 6, 7] [15, 17] (.cons rfl (.cons rfl (.cons rfl (.cons rfl .nil)))) (.cons rfl (.cons rfl .nil)) ?_
    refine jn_seq (j_seq ?_)
    refine j_region ?_
    refine jg_adr _ rfl _ rfl rfl (op_move (.base rfl)) ?_
    refine jg_adr _ rfl _ rfl rfl (op_move (.base rfl)) ?_
    refine jg_adr _ rfl _ rfl rfl (op_index Try.underlying43 ty28 (.base rfl) (.base rfl) hyc (List.getElem?_eq_getElem (by first | omega | (simp; done) | (simp; omega) | (simp at hg; omega)))) ?_
    refine jg_adr _ rfl _ rfl rfl (op_load ty28 (.base rfl)) ?_
    refine jg_adr _ rfl _ rfl rfl (op_len Try.underlying28 (.base rfl)) ?_
    refine jg_adr _ rfl _ rfl rfl (op_move (.base rfl)) ?_
    rw [rw_at hyl]
    refine jg_nil ?_
    refine jn_keep [0, 5, 6, 29, 30, 31] [15, 17] (.cons rfl (.cons rfl (.cons rfl (.cons rfl (.cons rfl (.cons rfl .nil)))))) (.cons rfl (.cons rfl .nil)) ?_
    refine jn_seq (j_block ?_)
    refine j_loopp (ι := (List Bool × List Int × Nat × Nat)) (fun (seen, xs, off, j) => ⟨[(0, .tv (rSlice (rSlice (rInt .i64))) dd), (5, .own 15 rBool.n 0 n), (6, .own 17 (rInt .i64).n off (xs.length - off)), (29, .tv (rSlice (rInt .i64)) (rw dd y)), (30, .raw (.int .i64 ((rw dd y).length))), (31, .raw (.int .i64 ((j : Nat))))], [(15, ⟨rBool, seen⟩), (17, ⟨rInt .i64, xs⟩)]⟩) (fun (seen, xs, off, j) => j ≤ (rw dd y).length ∧ RI n dd d seen (xs.drop off) [y] ∧ (y = d ∨ sn seen y = true) ∧ off ≤ xs.length ∧ (∀ i, (hi : i < j) → (hj : i < (rw dd y).length) → sn seen (rw dd y)[i] = true) ∧ 2 * unseen seen + (xs.length - off) < mu0) (fun (seen, xs, off, j) => (rw dd y).length - j) (seen, xs, off + 1, 0) (⟨Nat.zero_le _, hi2, hys, by omega, fun i hi => by omega, by omega⟩) (fun a w hi => Sub.inv ⟨(by repeat (first | exact SubS_nil | refine SubS_cons rfl (by first | rfl | (simp; done) | assumption | (refine congrArg (SV.own 17 (rInt .i64).n (off + 1)) ?_; omega; done)) ?_)), (by repeat (first | exact SubH_nil | refine SubH_cons rfl (by first | rfl | (simp; done) | assumption) ?_))⟩ hi) ?_
    rintro ⟨seen, xs, off, j⟩ ⟨hj, hi', hys, hoff, hcl', hmes⟩
    have hml := hi'.len
    have hms := hi'.mes
    have hdrl : (xs.drop off).length = xs.length - off := by simp
    refine j_seq ?_
    refine j_region ?_
    refine jg_adr _ rfl _ rfl rfl (op_lss (.base rfl) (.base rfl)) ?_
    refine jg_nil ?_
    refine jn_keep [0, 5, 6, 29, 30, 31, 32] [15, 17] (.cons rfl (.cons rfl (.cons rfl (.cons rfl (.cons rfl (.cons rfl (.cons rfl .nil))))))) (.cons rfl (.cons rfl .nil)) ?_
    refine jn_seq (j_seq ?_)
    refine j_cond rfl (fun h7 => ?_) (fun h7 => ?_)
    · have h7 : j < (rw dd y).length := by simp at h7; omega
      refine j_skip (jn_seq (j_seq (j_block (j_seq ?_))))
      refine j_region ?_
      refine jg_adr _ rfl _ rfl rfl (op_index Try.underlying28 ty3 (.base rfl) (.base rfl) rfl (List.getElem?_eq_getElem (by first | omega | (simp; done) | (simp; omega) | (simp at hg; omega)))) ?_
      refine jg_adr _ rfl _ rfl rfl (op_load ty3 (.base rfl)) ?_
      refine jg_adr _ rfl _ rfl rfl (op_assign (.base rfl)) ?_
      obtain ⟨e, hee⟩ : ∃ e, e = (rw dd y)[j] := ⟨_, rfl⟩
      rw [← hee]
      have hem : e ∈ rw dd y := by rw [hee]; exact List.getElem_mem h7
      obtain ⟨he0, hen⟩ := w.ent y e hem
      have hel : e.toNat < seen.length := by omega
      have hec : e = ((e.toNat : Nat) : Int) := by omega
      refine jg_nil ?_
      refine jn_keep [0, 5, 6, 9, 29, 30, 31] [15, 17] (.cons rfl (.cons rfl (.cons rfl (.cons rfl (.cons rfl (.cons rfl (.cons rfl .nil))))))) (.cons rfl (.cons rfl .nil)) ?_
      refine jn_seq (j_seq ?_)
      refine j_region ?_
      refine jg_adr _ rfl _ rfl rfl (op_move (.base rfl)) ?_
      refine jg_adr _ rfl _ rfl rfl (op_move (.base rfl)) ?_
      refine jg_adr _ rfl _ rfl rfl (op_oindex Try.underlying61 ty4 (.base rfl) (.base rfl) hec (by first | omega | (simp; done) | (simp; omega))) ?_
      refine jg_adr _ rfl _ rfl rfl (op_oload ty4 (.base rfl) rfl (sn_get hel) (Lens.id _)) ?_
      refine jg_adr _ rfl _ rfl rfl (op_not (.base rfl)) ?_
      refine jg_nil ?_
      refine jn_keep [0, 5, 6, 9, 29, 30, 31, 39] [15, 17] (.cons rfl (.cons rfl (.cons rfl (.cons rfl (.cons rfl (.cons rfl (.cons rfl (.cons rfl .nil)))))))) (.cons rfl (.cons rfl .nil)) ?_
      refine jn_seq ?_
      refine j_cond rfl (fun h9 => ?_) (fun h9 => ?_)
      · have h9 : sn seen e = false := by simpa using h9
        have hpush0 := hi'.push w hys hy0 hem h9
        have hpush : RI n dd d (seen.set e.toNat true) (((xs.drop off).take (xs.length - off) ++ [e]).drop 0) [y] := by rw [List.drop_zero, List.take_of_length_le (by simp)]; exact hpush0
        have hss : ∀ z, 0 ≤ z → sn (seen.set e.toNat true) z = if z = e then true else sn seen z := fun z hz => sn_set he0 hz hel
        have hpys : y = d ∨ sn (seen.set e.toNat true) y = true := by
          rcases hys with q | q
          · exact .inl q
          · exact .inr (by rw [hss y hy0]; split <;> simp [q])
        have hpcl : ∀ i, (hi : i < j + 1) → (hj : i < (rw dd y).length) → sn (seen.set e.toNat true) (rw dd y)[i] = true := fun i hi hj => by
          rw [hss _ (w.ent y _ (List.getElem_mem hj)).1]
          by_cases q : i = j
          · subst q; rw [if_pos hee.symm]
          · rw [hcl' i (by omega) hj]; split <;> rfl
        have hpu := unseen_set hel h9
        have hpm : 2 * unseen (seen.set e.toNat true) + (((xs.drop off).take (xs.length - off) ++ [e]).length - 0) < mu0 := by simp; omega
        refine j_seq ?_
        refine j_region ?_
        refine jg_adr _ rfl _ rfl rfl (op_move (.base rfl)) ?_
        refine jg_adr _ rfl _ rfl rfl (op_move (.base rfl)) ?_
        refine jg_adr _ rfl _ rfl rfl (op_oindex Try.underlying61 ty4 (.base rfl) (.base rfl) hec (by first | omega | (simp; done) | (simp; omega))) ?_
        refine jg_os _ rfl (op_ostore ty4 (.base rfl) rfl (List.getElem?_eq_getElem (by first | omega | (simp; done) | (simp; omega))) (Lens.id _) (.raw (.base rfl) rfl)) ?_
        refine jg_nil ?_
        refine jn_keep [0, 5, 6, 9, 29, 30, 31] [15, 17] (.cons rfl (.cons rfl (.cons rfl (.cons rfl (.cons rfl (.cons rfl (.cons rfl .nil))))))) (.cons rfl (.cons rfl .nil)) ?_
        refine jn_seq ?_
        refine j_region ?_
        refine jg_adr _ rfl _ rfl rfl (op_move (.base rfl)) ?_
        refine jg_adr _ rfl _ rfl rfl (op_move (.base rfl)) ?_
        refine jg_adr _ rfl _ rfl rfl (op_bslice (rt := (rInt .i64)) Try.underlying28 ty3 z3 rfl (.cons (.raw (.base rfl) rfl) .nil) rfl rfl) ?_
        refine jg_os _ rfl (op_append [0, 5, 29, 30, 31] Try.underlying28 ty3 z3 rfl by3 (.base rfl) rfl (by (try simp); try omega) (.tv (.base rfl)) (by unfold maxLen; (try simp); try omega) (by (try simp); try omega) rfl (.cons rfl (.cons rfl (.cons rfl (.cons rfl (.cons rfl .nil))))) rfl) ?_
        refine jg_adr _ rfl _ rfl rfl (op_assign (.base rfl)) ?_
        refine jg_nil ?_
        refine jn_keep [0, 5, 6, 29, 30, 31] [15, 17] (.cons rfl (.cons rfl (.cons rfl (.cons rfl (.cons rfl (.cons rfl .nil)))))) (.cons rfl (.cons rfl .nil)) ?_
        refine jn_blk (jn_seq ?_)
        refine j_region ?_
        refine jg_adr _ rfl _ rfl rfl (op_add (.base rfl) (.base rfl) (w64 (by omega))) ?_
        refine jg_adr _ rfl _ rfl rfl (op_move (.base rfl)) ?_
        refine jg_nil ?_
        refine jn_keep [0, 5, 6, 29, 30, 31] [15, 17] (.cons rfl (.cons rfl (.cons rfl (.cons rfl (.cons rfl (.cons rfl .nil)))))) (.cons rfl (.cons rfl .nil)) ?_
        first | exact jn_loop (fun a w hi => ⟨(seen, xs, off, j + 1), (by show (rw dd y).length - (j + 1) < (rw dd y).length - j; omega), ⟨by omega, hi', hys, hoff, hsame, hmes⟩, Sub.inv ⟨(by repeat (first | exact SubS_nil | refine SubS_cons rfl (by first | rfl | (simp; done) | assumption) ?_)), (by repeat (first | exact SubH_nil | refine SubH_cons rfl (by first | rfl | (simp; done) | assumption) ?_))⟩ hi⟩) | exact jn_loop (fun a w hi => ⟨(seen.set e.toNat true, (xs.drop off).take (xs.length - off) ++ [e], 0, j + 1), (by show (rw dd y).length - (j + 1) < (rw dd y).length - j; omega), ⟨by omega, hpush, hpys, Nat.zero_le _, hpcl, hpm⟩, Sub.inv ⟨(by repeat (first | exact SubS_nil | refine SubS_cons rfl (by first | rfl | (simp; done) | assumption | (refine congrArg (SV.own 17 (rInt .i64).n 0) ?_; simp; done)) ?_)), (by repeat (first | exact SubH_nil | refine SubH_cons rfl (by first | rfl | (simp; done) | assumption | (refine congrArg (HB.mk rBool) ?_; rw [Nat.zero_add]; done)) ?_))⟩ hi⟩)
      · have h9 : sn seen e = true := by simpa using h9
        have hsame : ∀ i, (hi : i < j + 1) → (hj : i < (rw dd y).length) → sn seen (rw dd y)[i] = true := fun i hi hj => by
          by_cases q : i = j
          · subst q; rw [← hee]; exact h9
          · exact hcl' i (by omega) hj
        refine j_skip (jn_blk (jn_seq ?_))
        refine j_region ?_
        refine jg_adr _ rfl _ rfl rfl (op_add (.base rfl) (.base rfl) (w64 (by omega))) ?_
        refine jg_adr _ rfl _ rfl rfl (op_move (.base rfl)) ?_
        refine jg_nil ?_
        refine jn_keep [0, 5, 6, 29, 30, 31] [15, 17] (.cons rfl (.cons rfl (.cons rfl (.cons rfl (.cons rfl (.cons rfl .nil)))))) (.cons rfl (.cons rfl .nil)) ?_
        first | exact jn_loop (fun a w hi => ⟨(seen, xs, off, j + 1), (by show (rw dd y).length - (j + 1) < (rw dd y).length - j; omega), ⟨by omega, hi', hys, hoff, hsame, hmes⟩, Sub.inv ⟨(by repeat (first | exact SubS_nil | refine SubS_cons rfl (by first | rfl | (simp; done) | assumption) ?_)), (by repeat (first | exact SubH_nil | refine SubH_cons rfl (by first | rfl | (simp; done) | assumption) ?_))⟩ hi⟩) | exact jn_loop (fun a w hi => ⟨(seen.set e.toNat true, (xs.drop off).take (xs.length - off) ++ [e], 0, j + 1), (by show (rw dd y).length - (j + 1) < (rw dd y).length - j; omega), ⟨by omega, hpush, hpys, Nat.zero_le _, hpcl, hpm⟩, Sub.inv ⟨(by repeat (first | exact SubS_nil | refine SubS_cons rfl (by first | rfl | (simp; done) | assumption | (refine congrArg (SV.own 17 (rInt .i64).n 0) ?_; simp; done)) ?_)), (by repeat (first | exact SubH_nil | refine SubH_cons rfl (by first | rfl | (simp; done) | assumption | (refine congrArg (HB.mk rBool) ?_; rw [Nat.zero_add]; done)) ?_))⟩ hi⟩)
    · have h7 : j = (rw dd y).length := by simp at h7; omega
      have hcl : ∀ e ∈ rw dd y, sn seen e = true := fun e he => by
        obtain ⟨i, hi, rfl⟩ := List.mem_iff_getElem.1 he
        exact hcl' i (by omega) hi
      refine j_exit (je_seq (je_loop (je_blk (jn_blk ?_))))
      exact jn_loop (fun a w hi => ⟨(seen, xs, off), (by rw [hmu0] at hmes; exact hmes), ⟨hi'.close hcl, hoff⟩, Sub.inv ⟨(by repeat (first | exact SubS_nil | refine SubS_cons rfl (by first | rfl | (simp; done) | assumption) ?_)), (by repeat (first | exact SubH_nil | refine SubH_cons rfl (by first | rfl | (simp; done) | assumption) ?_))⟩ hi⟩)
  · have h3 : off = xs.length := by simp at h3; omega
    have hend : RI n dd d seen [] [] := by rw [h3, List.drop_length] at hi; exact hi
    refine j_exit (je_seq (je_loop (je_blk (jn_seq (j_seq ?_)))))
    refine j_region ?_
    refine jg_adr _ rfl _ rfl rfl (op_assign (.base rfl)) ?_
    refine jg_nil ?_
    refine jn_keep [5, 10] [15] (.cons rfl (.cons rfl .nil)) (.cons rfl .nil) ?_
    refine jn_seq (j_seq (j_seq ?_))
    refine j_region ?_
    refine jg_adr _ rfl _ rfl rfl (op_move (.base rfl)) ?_
    refine jg_adr _ rfl _ rfl rfl (op_len_own Try.underlying61 (.base rfl)) ?_
    refine jg_adr _ rfl _ rfl rfl (op_move (.base rfl)) ?_
    refine jg_nil ?_
    refine jn_keep [10, 48, 49, 50] [15] (.cons rfl (.cons rfl (.cons rfl (.cons rfl .nil)))) (.cons rfl .nil) ?_
    refine jn_seq (j_block ?_)
    refine j_vac 70 10 (rInt .i64) rfl rfl rfl ?_
    refine j_loopp (ι := Nat) (fun k => ⟨[(10, .own 70 (rInt .i64).n 0 (seenL seen k).length), (48, .own 15 rBool.n 0 n), (49, .raw (.int .i64 ((n : Nat)))), (50, .raw (.int .i64 ((k : Nat))))], [(15, ⟨rBool, seen⟩), (70, ⟨rInt .i64, seenL seen k⟩)]⟩) (fun k => k ≤ n) (fun k => n - k) 0 (Nat.zero_le _) (fun a w hi => (Sub.inv ⟨(by repeat (first | exact SubS_nil | refine SubS_cons rfl (by first | rfl | (simp; done) | assumption) ?_)), (by repeat (first | exact SubH_nil | refine SubH_cons rfl (by first | rfl | (simp; done) | assumption) ?_))⟩ hi)) ?_
    rintro k hk
    have hsl := seenL_len seen k
    have hml := hend.len
    refine j_seq ?_
    refine j_region ?_
    refine jg_adr _ rfl _ rfl rfl (op_lss (.base rfl) (.base rfl)) ?_
    refine jg_nil ?_
    refine jn_keep [10, 48, 49, 50, 51] [15, 70] (.cons rfl (.cons rfl (.cons rfl (.cons rfl (.cons rfl .nil))))) (.cons rfl (.cons rfl .nil)) ?_
    refine jn_seq (j_seq ?_)
    refine j_cond rfl (fun h15 => ?_) (fun h15 => ?_)
    · have h15 : k < n := by simp at h15; omega
      refine j_skip (jn_seq (j_seq (j_block (j_seq ?_))))
      refine j_region ?_
      refine jg_adr _ rfl _ rfl rfl (op_move (.base rfl)) ?_
      refine jg_adr _ rfl _ rfl rfl (op_oindex Try.underlying61 ty4 (.base rfl) (.base rfl) rfl (by first | omega | (simp; done) | (simp; omega))) ?_
      refine jg_adr _ rfl _ rfl rfl (op_oload ty4 (.base rfl) rfl (sn_get (e := ((k : Nat) : Int)) (by simp; omega)) (Lens.id _)) ?_
      refine jg_adr _ rfl _ rfl rfl (op_assign (.base rfl)) ?_
      refine jg_adr _ rfl _ rfl rfl (op_assign (.base rfl)) ?_
      refine jg_nil ?_
      refine jn_keep [10, 11, 12, 48, 49, 50] [15, 70] (.cons rfl (.cons rfl (.cons rfl (.cons rfl (.cons rfl (.cons rfl .nil)))))) (.cons rfl (.cons rfl .nil)) ?_
      refine jn_seq (j_seq ?_)
      refine j_region ?_
      refine jg_adr _ rfl _ rfl rfl (op_move (.base rfl)) ?_
      refine jg_nil ?_
      refine jn_keep [10, 11, 48, 49, 50, 55] [15, 70] (.cons rfl (.cons rfl (.cons rfl (.cons rfl (.cons rfl (.cons rfl .nil)))))) (.cons rfl (.cons rfl .nil)) ?_
      refine jn_seq ?_
      refine j_cond rfl (fun h17 => ?_) (fun h17 => ?_)
      · have hs := seenL_t h17
        refine j_region ?_
        refine jg_adr _ rfl _ rfl rfl (op_move (.base rfl)) ?_
        refine jg_adr _ rfl _ rfl rfl (op_move (.base rfl)) ?_
        refine jg_adr _ rfl _ rfl rfl (op_bslice (rt := (rInt .i64)) Try.underlying28 ty3 z3 rfl (.cons (.raw (.base rfl) rfl) .nil) rfl rfl) ?_
        refine jg_os _ rfl (op_append [48, 49, 50] Try.underlying28 ty3 z3 rfl by3 (.base rfl) rfl (by (try simp); try omega) (.tv (.base rfl)) (by unfold maxLen; (try simp); try omega) (by (try simp); try omega) rfl (.cons rfl (.cons rfl (.cons rfl .nil))) rfl) ?_
        refine jg_adr _ rfl _ rfl rfl (op_assign (.base rfl)) ?_
        refine jg_nil ?_
        refine jn_keep [10, 48, 49, 50] [15, 70] (.cons rfl (.cons rfl (.cons rfl (.cons rfl .nil)))) (.cons rfl (.cons rfl .nil)) ?_
        refine jn_blk (jn_seq ?_)
        refine j_region ?_
        refine jg_adr _ rfl _ rfl rfl (op_add (.base rfl) (.base rfl) (w64 (by omega))) ?_
        refine jg_adr _ rfl _ rfl rfl (op_move (.base rfl)) ?_
        refine jg_nil ?_
        refine jn_keep [10, 48, 49, 50] [15, 70] (.cons rfl (.cons rfl (.cons rfl (.cons rfl .nil)))) (.cons rfl (.cons rfl .nil)) ?_
        exact jn_loop (fun a w hi => ⟨k + 1, (by first | omega | (simp; omega)), (by omega), Sub.inv ⟨(by repeat (first | exact SubS_nil | refine SubS_cons rfl (by first | rfl | (simp; done) | assumption | (refine congrArg (SV.own 70 (rInt .i64).n 0) ?_; first | rfl | (rw [hs]; simp; done) | (rw [hs]; done))) ?_)), (by repeat (first | exact SubH_nil | refine SubH_cons rfl (by first | rfl | (simp; done) | assumption | (refine congrArg (HB.mk (rInt .i64)) ?_; first | rfl | (rw [hs]; (try simp only [List.drop_zero, List.take_length]); first | done | rfl | (simp; done); done) | (rw [hs]; done))) ?_))⟩ hi⟩)
      · have hs := seenL_f (by simpa using h17)
        refine j_skip (jn_blk (jn_seq ?_))
        refine j_region ?_
        refine jg_adr _ rfl _ rfl rfl (op_add (.base rfl) (.base rfl) (w64 (by omega))) ?_
        refine jg_adr _ rfl _ rfl rfl (op_move (.base rfl)) ?_
        refine jg_nil ?_
        refine jn_keep [10, 48, 49, 50] [15, 70] (.cons rfl (.cons rfl (.cons rfl (.cons rfl .nil)))) (.cons rfl (.cons rfl .nil)) ?_
        exact jn_loop (fun a w hi => ⟨k + 1, (by first | omega | (simp; omega)), (by omega), Sub.inv ⟨(by repeat (first | exact SubS_nil | refine SubS_cons rfl (by first | rfl | (simp; done) | assumption | (refine congrArg (SV.own 70 (rInt .i64).n 0) ?_; first | rfl | (rw [hs]; simp; done) | (rw [hs]; done))) ?_)), (by repeat (first | exact SubH_nil | refine SubH_cons rfl (by first | rfl | (simp; done) | assumption | (refine congrArg (HB.mk (rInt .i64)) ?_; first | rfl | (rw [hs]; (try simp only [List.drop_zero, List.take_length]); first | done | rfl | (simp; done); done) | (rw [hs]; done))) ?_))⟩ hi⟩)
    · have h15 : k = n := by simp at h15; omega
      subst h15
      refine j_exit (je_seq (je_loop (je_blk (jn_seq (j_seq ?_)))))
      refine j_region ?_
      refine jg_adr _ rfl _ rfl rfl (op_move (.base rfl)) ?_
      refine jg_adr _ rfl _ rfl rfl (op_assign (.base rfl)) ?_
      refine jg_nil ?_
      refine jn_keep [4] [70] (.cons rfl .nil) (.cons rfl .nil) ?_
      refine jn_seq (j_ret ?_)
      refine jr_seal (rt := rInt .i64) 70 4 (dropH 70 _) rfl rfl (by simp) (dropH_sub 70 _) (dropH_no 70 _) ?_
      exact jr_fin1 Try.results32 (res_tmp rfl) rfl (congrArg (SV.tv (rSlice (rInt .i64))) (by rw [List.drop_zero, List.take_length]; exact hend.list w h0))

end Go.Proofs.Ytemcooggkcneiaa
namespace Go.Proofs.Ytemcooggkcneiaa
open Go.Eng
set_option maxRecDepth 100000
set_option maxHeartbeats 4000000
set_option linter.unusedVariables false
set_option linter.unusedSimpArgs false

theorem fill_end {n : Nat} {steps : List Int} (hl : steps.length = n) (h : ∀ i, i < n → steps[i]? = some (-1)) : steps = List.replicate n (-1) := by
  apply List.ext_getElem?
  intro i
  rw [List.getElem?_replicate]
  by_cases e : i < n
  · rw [if_pos e]; exact h i e
  · rw [if_neg e, List.getElem?_eq_none (by omega)]

theorem dist_ok (n : Nat) (rr : List (List Int)) (t : Int) (w : WFd n rr) (hn14 : n ≤ 14) (h0 : 0 ≤ t) (ht : t < n) : Ct Try.prog 28 [.tv (rSlice (rSlice (rInt .i64))) rr, .raw (.int .i64 t)] (.tv (rSlice (rInt .i64)) (distL n rr t)) := by
  refine ct_intro Try.func28 rfl rfl Try.ntmps28 rfl rfl ?_
  intro w0 ok0
  have hn := hn14
  refine j_seq ?_
  refine j_region ?_
  refine jg_adr _ rfl _ rfl rfl (op_assign (.base rfl)) ?_
  refine jg_nil ?_
  refine jn_keep [0, 1] [] (.cons rfl (.cons rfl .nil)) .nil ?_
  refine jn_seq (j_seq ?_)
  have hdl := w.len
  rw [← hdl] at hn
  refine j_region ?_
  refine jg_adr _ rfl _ rfl rfl (op_move (.base rfl)) ?_
  refine jg_adr _ rfl _ rfl rfl (op_len Try.underlying43 (.base rfl)) ?_
  refine jg_os _ rfl (op_make Try.underlying28 ty3 z3 rfl by3 (.base rfl) (.base rfl) (by omega) (by unfold maxLen; omega) rfl rfl rfl) ?_
  refine jg_adr _ rfl _ rfl rfl (op_assign (.base rfl)) ?_
  refine jg_nil ?_
  refine jn_keep [0, 1, 5] [13] (.cons rfl (.cons rfl (.cons rfl .nil))) (.cons rfl .nil) ?_
  refine jn_seq (j_seq (j_seq ?_))
  refine j_region ?_
  refine jg_adr _ rfl _ rfl rfl (op_move (.base rfl)) ?_
  refine jg_adr _ rfl _ rfl rfl (op_len_own Try.underlying28 (.base rfl)) ?_
  refine jg_adr _ rfl _ rfl rfl (op_move (.base rfl)) ?_
  refine jg_nil ?_
  refine jn_keep [0, 1, 5, 15, 16] [13] (.cons rfl (.cons rfl (.cons rfl (.cons rfl (.cons rfl .nil))))) (.cons rfl .nil) ?_
  refine jn_seq (j_block ?_)
  refine j_loopp (ι := (Nat × List Int)) (fun (k, steps) => ⟨[(0, .tv (rSlice (rSlice (rInt .i64))) rr), (1, .raw (.int .i64 (t))), (5, .own 13 (rInt .i64).n 0 n), (15, .raw (.int .i64 ((n : Nat)))), (16, .raw (.int .i64 ((k : Nat))))], [(13, ⟨rInt .i64, steps⟩)]⟩) (fun (k, steps) => k ≤ n ∧ steps.length = n ∧ ∀ i, i < k → steps[i]? = some (-1)) (fun (k, steps) => n - k) (0, List.replicate n 0) (⟨Nat.zero_le _, by simp, fun i hi => by omega⟩) (fun a w hi => Sub.inv ⟨(by repeat (first | exact SubS_nil | refine SubS_cons rfl (by first | rfl | (simp; done) | assumption | (refine congrArg (SV.own 13 (rInt .i64).n 0) ?_; exact hdl; done) | (refine congrArg (fun (q : Nat) => SV.raw (.int .i64 (q : Int))) ?_; exact hdl; done)) ?_)), (by repeat (first | exact SubH_nil | refine SubH_cons rfl (by first | rfl | (simp; done) | assumption | (refine congrArg (HB.mk (rInt .i64)) ?_; rw [hdl]; done)) ?_))⟩ hi) ?_
  rintro ⟨k, steps⟩ ⟨hk, hsl, hsk⟩
  refine j_seq ?_
  refine j_region ?_
  refine jg_adr _ rfl _ rfl rfl (op_lss (.base rfl) (.base rfl)) ?_
  refine jg_nil ?_
  refine jn_keep [0, 1, 5, 15, 16, 17] [13] (.cons rfl (.cons rfl (.cons rfl (.cons rfl (.cons rfl (.cons rfl .nil)))))) (.cons rfl .nil) ?_
  refine jn_seq (j_seq ?_)
  refine j_cond rfl (fun h3 => ?_) (fun h3 => ?_)
  · have h3 : k < n := by simp at h3; omega
    refine j_skip (jn_seq (j_seq (j_block (j_seq ?_))))
    refine j_region ?_
    refine jg_adr _ rfl _ rfl rfl (op_move (.base rfl)) ?_
    refine jg_adr _ rfl _ rfl rfl (op_assign (.base rfl)) ?_
    refine jg_nil ?_
    refine jn_keep [0, 1, 5, 6, 15, 16] [13] (.cons rfl (.cons rfl (.cons rfl (.cons rfl (.cons rfl (.cons rfl .nil)))))) (.cons rfl .nil) ?_
    refine jn_seq ?_
    refine j_region ?_
    refine jg_adr _ rfl _ rfl rfl (op_move (.base rfl)) ?_
    refine jg_adr _ rfl _ rfl rfl (op_move (.base rfl)) ?_
    refine jg_adr _ rfl _ rfl rfl (op_oindex Try.underlying28 ty3 (.base rfl) (.base rfl) rfl (by first | omega | (simp; done) | (simp; omega))) ?_
    refine jg_os _ rfl (op_ostore ty3 (.base rfl) rfl (List.getElem?_eq_getElem (by first | omega | (simp; done) | (simp; omega))) (Lens.id _) (.raw (.base rfl) rfl)) ?_
    refine jg_nil ?_
    refine jn_keep [0, 1, 5, 15, 16] [13] (.cons rfl (.cons rfl (.cons rfl (.cons rfl (.cons rfl .nil))))) (.cons rfl .nil) ?_
    refine jn_blk (jn_seq ?_)
    refine j_region ?_
    refine jg_adr _ rfl _ rfl rfl (op_add (.base rfl) (.base rfl) (w64 (by omega))) ?_
    refine jg_adr _ rfl _ rfl rfl (op_move (.base rfl)) ?_
    refine jg_nil ?_
    refine jn_keep [0, 1, 5, 15, 16] [13] (.cons rfl (.cons rfl (.cons rfl (.cons rfl (.cons rfl .nil))))) (.cons rfl .nil) ?_
    exact jn_loop (fun a w hi => ⟨(k + 1, steps.set (0 + k) (-1)), (by show n - (k + 1) < n - k; omega), ⟨by omega, by simp [hsl], fun i hi => by rw [Nat.zero_add]; by_cases e : k = i; (subst e; rw [List.getElem?_set_self (by omega)]); (rw [List.getElem?_set_ne e]; exact hsk i (by omega))⟩, Sub.inv ⟨(by repeat (first | exact SubS_nil | refine SubS_cons rfl (by first | rfl | (simp; done) | assumption) ?_)), (by repeat (first | exact SubH_nil | refine SubH_cons rfl (by first | rfl | (simp; done) | assumption) ?_))⟩ hi⟩)
  · have h3 : k = n := by simp at h3; omega
    have hfe := fill_end hsl (by rw [← h3]; exact hsk)
    refine j_exit (je_seq (je_loop (je_blk (jn_seq (j_seq ?_)))))
    refine j_region ?_
    refine jg_adr _ rfl _ rfl rfl (op_move (.base rfl)) ?_
    refine jg_adr _ rfl _ rfl rfl (op_move (.base rfl)) ?_
    refine jg_adr _ rfl _ rfl rfl (op_oindex Try.underlying28 ty3 (.base rfl) (.base rfl) (show t = ((t.toNat : Nat) : Int) by omega) (by first | omega | (simp; done) | (simp; omega))) ?_
    refine jg_os _ rfl (op_ostore ty3 (.base rfl) rfl (List.getElem?_eq_getElem (by first | omega | (simp; done) | (simp; omega))) (Lens.id _) (.raw (.base rfl) rfl)) ?_
    refine jg_nil ?_
    refine jn_keep [0, 1, 5] [13] (.cons rfl (.cons rfl (.cons rfl .nil))) (.cons rfl .nil) ?_
    refine jn_seq (j_seq ?_)
    refine j_region ?_
    refine jg_adr _ rfl _ rfl rfl (op_move (.base rfl)) ?_
    refine jg_os _ rfl (op_obslice (rt := rInt .i64) Try.underlying28 ty3 z3 rfl (.cons (.raw (.base rfl) rfl) .nil) rfl rfl rfl rfl rfl) ?_
    refine jg_adr _ rfl _ rfl rfl (op_assign (.base rfl)) ?_
    refine jg_nil ?_
    refine jn_keep [0, 5, 7] [13, 27] (.cons rfl (.cons rfl (.cons rfl .nil))) (.cons rfl (.cons rfl .nil)) ?_
    refine jn_seq (j_seq (j_block ?_))
    refine j_loopp (ι := (List Int × List Int × Nat)) (fun (steps, xs, off) => ⟨[(0, .tv (rSlice (rSlice (rInt .i64))) rr), (5, .own 13 (rInt .i64).n 0 n), (7, .own 27 (rInt .i64).n off (xs.length - off))], [(13, ⟨rInt .i64, steps⟩), (27, ⟨rInt .i64, xs⟩)]⟩) (fun (steps, xs, off) => DI n rr t steps (xs.drop off) [] ∧ off ≤ xs.length) (fun (steps, xs, off) => 2 * unf steps + (xs.length - off)) ((List.replicate n (-1)).set t.toNat 0, [t], 0) (⟨by exact DI.start h0 ht, Nat.zero_le _⟩) (fun a w hi => Sub.inv ⟨(by repeat (first | exact SubS_nil | refine SubS_cons rfl (by first | rfl | (simp; done) | assumption) ?_)), (by repeat (first | exact SubH_nil | refine SubH_cons rfl (by first | rfl | (simp; done) | assumption | (refine congrArg (HB.mk (rInt .i64)) ?_; rw [Nat.zero_add, hfe]; done)) ?_))⟩ hi) ?_
    rintro ⟨steps, xs, off⟩ ⟨hi, hoff⟩
    refine j_seq (j_seq ?_)
    refine j_region ?_
    refine jg_adr _ rfl _ rfl rfl (op_move (.base rfl)) ?_
    refine jg_adr _ rfl _ rfl rfl (op_len_own Try.underlying28 (.base rfl)) ?_
    refine jg_adr _ rfl _ rfl rfl (op_gtr (.base rfl) (.base rfl)) ?_
    refine jg_nil ?_
    refine jn_keep [0, 5, 7, 30] [13, 27] (.cons rfl (.cons rfl (.cons rfl (.cons rfl .nil)))) (.cons rfl (.cons rfl .nil)) ?_
    refine jn_seq ?_
    refine j_cond rfl (fun h9 => ?_) (fun h9 => ?_)
    · have h9 : off < xs.length := by simp at h9; omega
      have hml := hi.len
      have hms := hi.mes
      refine j_skip (jn_seq (j_block (j_seq ?_)))
      refine j_region ?_
      refine jg_adr _ rfl _ rfl rfl (op_move (.base rfl)) ?_
      refine jg_adr _ rfl _ rfl rfl (op_oindex Try.underlying28 ty3 (.base rfl) (.base rfl) (show (0 : Int) = ((0 : Nat) : Int) from rfl) (by first | omega | (simp; done) | (simp; omega))) ?_
      refine jg_adr _ rfl _ rfl rfl (op_oload ty3 (.base rfl) rfl (List.getElem?_eq_getElem (by first | omega | (simp; done) | (simp; omega))) (Lens.id _)) ?_
      refine jg_adr _ rfl _ rfl rfl (op_assign (.base rfl)) ?_
      obtain ⟨y, hy⟩ : ∃ y, y = xs[off + 0] := ⟨_, rfl⟩
      rw [← hy]
      have hQ : xs.drop off = y :: xs.drop (off + 1) := by rw [hy]; exact List.drop_eq_getElem_cons h9
      have hi1 : DI n rr t steps (y :: xs.drop (off + 1)) [] := by rw [← hQ]; exact hi
      obtain ⟨hy0, hyn, _⟩ := hi1.rng y (by simp)
      have hi2 := hi1.pop
      have hyl : y.toNat < rr.length := by rw [w.len]; omega
      have hyc : y = ((y.toNat : Nat) : Int) := by omega
      have hrl := w.rlen y
      obtain ⟨mu0, hmu0⟩ : ∃ mu0, mu0 = 2 * unf steps + (xs.length - off) := ⟨_, rfl⟩
      refine jg_nil ?_
      refine jn_keep [0, 5, 7, 8] [13, 27] (.cons rfl (.cons rfl (.cons rfl (.cons rfl .nil)))) (.cons rfl (.cons rfl .nil)) ?_
      refine jn_seq (j_seq ?_)
      refine j_region ?_
      refine jg_adr _ rfl _ rfl rfl (op_move (.base rfl)) ?_
      refine jg_adr _ rfl _ rfl rfl (op_oslice Try.underlying28 ty3 (.base rfl) ⟨_, _, (.base rfl), (show (1 : Int) = ((1 : Nat) : Int) from rfl)⟩ rfl (by omega) (by omega)) ?_
      refine jg_adr _ rfl _ rfl rfl (op_assign (.base rfl)) ?_
      refine jg_nil ?_
      refine jn_keep [0, 5, 7, 8] [13, 27] (.cons rfl (.cons rfl (.cons rfl (.cons rfl .nil)))) (.cons rfl (.cons rfl .nil)) ?_
      refine jn_seq (j_seq ?_)
      refine j_region ?_
      refine jg_adr _ rfl _ rfl rfl (op_move (.base rfl)) ?_
      refine jg_adr _ rfl _ rfl rfl (op_move (.base rfl)) ?_
      refine jg_adr _ rfl _ rfl rfl (op_index Try.underlying43 ty28 (.base rfl) (.base rfl) hyc (List.getElem?_eq_getElem (by first | omega | (simp; done) | (simp; omega) | (simp at hg; omega)))) ?_
      refine jg_adr _ rfl _ rfl rfl (op_load ty28 (.base rfl)) ?_
      refine jg_adr _ rfl _ rfl rfl (op_len Try.underlying28 (.base rfl)) ?_
      refine jg_adr _ rfl _ rfl rfl (op_move (.base rfl)) ?_
      rw [rw_at hyl]
      refine jg_nil ?_
      refine jn_keep [0, 5, 7, 8, 39, 40, 41] [13, 27] (.cons rfl (.cons rfl (.cons rfl (.cons rfl (.cons rfl (.cons rfl (.cons rfl .nil))))))) (.cons rfl (.cons rfl .nil)) ?_
      refine jn_seq (j_block ?_)
      refine j_loopp (ι := (List Int × List Int × Nat × Nat)) (fun (steps, xs, off, j) => ⟨[(0, .tv (rSlice (rSlice (rInt .i64))) rr), (5, .own 13 (rInt .i64).n 0 n), (7, .own 27 (rInt .i64).n off (xs.length - off)), (8, .raw (.int .i64 (y))), (39, .tv (rSlice (rInt .i64)) (rw rr y)), (40, .raw (.int .i64 ((rw rr y).length))), (41, .raw (.int .i64 ((j : Nat))))], [(13, ⟨rInt .i64, steps⟩), (27, ⟨rInt .i64, xs⟩)]⟩) (fun (steps, xs, off, j) => j ≤ (rw rr y).length ∧ DI n rr t steps (xs.drop off) [y] ∧ off ≤ xs.length ∧ (∀ i, (hi : i < j) → (hj : i < (rw rr y).length) → 0 ≤ st steps (rw rr y)[i]) ∧ 2 * unf steps + (xs.length - off) < mu0) (fun (steps, xs, off, j) => (rw rr y).length - j) (steps, xs, off + 1, 0) (⟨Nat.zero_le _, hi2, by omega, fun i hi => by omega, by omega⟩) (fun a w hi => Sub.inv ⟨(by repeat (first | exact SubS_nil | refine SubS_cons rfl (by first | rfl | (simp; done) | assumption | (refine congrArg (SV.own 27 (rInt .i64).n (off + 1)) ?_; omega; done)) ?_)), (by repeat (first | exact SubH_nil | refine SubH_cons rfl (by first | rfl | (simp; done) | assumption) ?_))⟩ hi) ?_
      rintro ⟨steps, xs, off, j⟩ ⟨hj, hi', hoff, hcl', hmes⟩
      have hml := hi'.len
      have hms := hi'.mes
      have hdrl : (xs.drop off).length = xs.length - off := by simp
      have hyb := hi'.bnd y hy0
      obtain ⟨_, _, hys⟩ := hi'.rng y (by simp)
      refine j_seq ?_
      refine j_region ?_
      refine jg_adr _ rfl _ rfl rfl (op_lss (.base rfl) (.base rfl)) ?_
      refine jg_nil ?_
      refine jn_keep [0, 5, 7, 8, 39, 40, 41, 42] [13, 27] (.cons rfl (.cons rfl (.cons rfl (.cons rfl (.cons rfl (.cons rfl (.cons rfl (.cons rfl .nil)))))))) (.cons rfl (.cons rfl .nil)) ?_
      refine jn_seq (j_seq ?_)
      refine j_cond rfl (fun h13 => ?_) (fun h13 => ?_)
      · have h13 : j < (rw rr y).length := by simp at h13; omega
        refine j_skip (jn_seq (j_seq (j_block (j_seq ?_))))
        refine j_region ?_
        refine jg_adr _ rfl _ rfl rfl (op_index Try.underlying28 ty3 (.base rfl) (.base rfl) rfl (List.getElem?_eq_getElem (by first | omega | (simp; done) | (simp; omega) | (simp at hg; omega)))) ?_
        refine jg_adr _ rfl _ rfl rfl (op_load ty3 (.base rfl)) ?_
        refine jg_adr _ rfl _ rfl rfl (op_assign (.base rfl)) ?_
        obtain ⟨e, hee⟩ : ∃ e, e = (rw rr y)[j] := ⟨_, rfl⟩
        rw [← hee]
        have hem : e ∈ rw rr y := by rw [hee]; exact List.getElem_mem h13
        obtain ⟨he0, hen⟩ := w.ent y e hem
        have hel : e.toNat < steps.length := by omega
        have hyl2 : y.toNat < steps.length := by omega
        have hec : e = ((e.toNat : Nat) : Int) := by omega
        refine jg_nil ?_
        refine jn_keep [0, 5, 7, 8, 10, 39, 40, 41] [13, 27] (.cons rfl (.cons rfl (.cons rfl (.cons rfl (.cons rfl (.cons rfl (.cons rfl (.cons rfl .nil)))))))) (.cons rfl (.cons rfl .nil)) ?_
        refine jn_seq (j_seq ?_)
        refine j_region ?_
        refine jg_adr _ rfl _ rfl rfl (op_move (.base rfl)) ?_
        refine jg_adr _ rfl _ rfl rfl (op_move (.base rfl)) ?_
        refine jg_adr _ rfl _ rfl rfl (op_oindex Try.underlying28 ty3 (.base rfl) (.base rfl) hec (by first | omega | (simp; done) | (simp; omega))) ?_
        refine jg_adr _ rfl _ rfl rfl (op_oload ty3 (.base rfl) rfl (st_get hel) (Lens.id _)) ?_
        refine jg_adr _ rfl _ rfl rfl (op_lss (.base rfl) (.base rfl)) ?_
        refine jg_nil ?_
        refine jn_keep [0, 5, 7, 8, 10, 39, 40, 41, 49] [13, 27] (.cons rfl (.cons rfl (.cons rfl (.cons rfl (.cons rfl (.cons rfl (.cons rfl (.cons rfl (.cons rfl .nil))))))))) (.cons rfl (.cons rfl .nil)) ?_
        refine jn_seq ?_
        refine j_cond rfl (fun h15 => ?_) (fun h15 => ?_)
        · have h15 : st steps e < 0 := by simpa using h15
          have hpush0 := hi'.push w hem h15 h0
          have hpush : DI n rr t (steps.set e.toNat (st steps y + 1)) (((xs.drop off).take (xs.length - off) ++ [e]).drop 0) [y] := by rw [List.drop_zero, List.take_of_length_le (by simp)]; exact hpush0
          have hss : ∀ z, 0 ≤ z → st (steps.set e.toNat (st steps y + 1)) z = if z = e then st steps y + 1 else st steps z := fun z hz => st_set he0 hz hel
          have hpcl : ∀ i, (hi : i < j + 1) → (hj : i < (rw rr y).length) → 0 ≤ st (steps.set e.toNat (st steps y + 1)) (rw rr y)[i] := fun i hi hj => by
            rw [hss _ (w.ent y _ (List.getElem_mem hj)).1]
            by_cases q : i = j
            · subst q; rw [if_pos hee.symm]; omega
            · have := hcl' i (by omega) hj
              split <;> omega
          have hpu := unf_set (v := st steps y + 1) hel h15 (by omega)
          have hpm : 2 * unf (steps.set e.toNat (st steps y + 1)) + (((xs.drop off).take (xs.length - off) ++ [e]).length - 0) < mu0 := by simp; omega
          refine j_seq ?_
          refine j_region ?_
          refine jg_adr _ rfl _ rfl rfl (op_move (.base rfl)) ?_
          refine jg_adr _ rfl _ rfl rfl (op_move (.base rfl)) ?_
          refine jg_adr _ rfl _ rfl rfl (op_move (.base rfl)) ?_
          refine jg_adr _ rfl _ rfl rfl (op_move (.base rfl)) ?_
          refine jg_adr _ rfl _ rfl rfl (op_oindex Try.underlying28 ty3 (.base rfl) (.base rfl) hyc (by first | omega | (simp; done) | (simp; omega))) ?_
          refine jg_adr _ rfl _ rfl rfl (op_oload ty3 (.base rfl) rfl (st_get hyl2) (Lens.id _)) ?_
          refine jg_adr _ rfl _ rfl rfl (op_add (.base rfl) (.base rfl) (w64 (by omega))) ?_
          refine jg_adr _ rfl _ rfl rfl (op_oindex Try.underlying28 ty3 (.base rfl) (.base rfl) hec (by first | omega | (simp; done) | (simp; omega))) ?_
          refine jg_os _ rfl (op_ostore ty3 (.base rfl) rfl (List.getElem?_eq_getElem (by first | omega | (simp; done) | (simp; omega))) (Lens.id _) (.raw (.base rfl) rfl)) ?_
          refine jg_nil ?_
          refine jn_keep [0, 5, 7, 8, 10, 39, 40, 41] [13, 27] (.cons rfl (.cons rfl (.cons rfl (.cons rfl (.cons rfl (.cons rfl (.cons rfl (.cons rfl .nil)))))))) (.cons rfl (.cons rfl .nil)) ?_
          refine jn_seq ?_
          refine j_region ?_
          refine jg_adr _ rfl _ rfl rfl (op_move (.base rfl)) ?_
          refine jg_adr _ rfl _ rfl rfl (op_move (.base rfl)) ?_
          refine jg_adr _ rfl _ rfl rfl (op_bslice (rt := (rInt .i64)) Try.underlying28 ty3 z3 rfl (.cons (.raw (.base rfl) rfl) .nil) rfl rfl) ?_
          refine jg_os _ rfl (op_append [0, 5, 8, 39, 40, 41] Try.underlying28 ty3 z3 rfl by3 (.base rfl) rfl (by (try simp); try omega) (.tv (.base rfl)) (by unfold maxLen; (try simp); try omega) (by (try simp); try omega) rfl (.cons rfl (.cons rfl (.cons rfl (.cons rfl (.cons rfl (.cons rfl .nil)))))) rfl) ?_
          refine jg_adr _ rfl _ rfl rfl (op_assign (.base rfl)) ?_
          refine jg_nil ?_
          refine jn_keep [0, 5, 7, 8, 39, 40, 41] [13, 27] (.cons rfl (.cons rfl (.cons rfl (.cons rfl (.cons rfl (.cons rfl (.cons rfl .nil))))))) (.cons rfl (.cons rfl .nil)) ?_
          refine jn_blk (jn_seq ?_)
          refine j_region ?_
          refine jg_adr _ rfl _ rfl rfl (op_add (.base rfl) (.base rfl) (w64 (by omega))) ?_
          refine jg_adr _ rfl _ rfl rfl (op_move (.base rfl)) ?_
          refine jg_nil ?_
          refine jn_keep [0, 5, 7, 8, 39, 40, 41] [13, 27] (.cons rfl (.cons rfl (.cons rfl (.cons rfl (.cons rfl (.cons rfl (.cons rfl .nil))))))) (.cons rfl (.cons rfl .nil)) ?_
          first | exact jn_loop (fun a w hi => ⟨(steps, xs, off, j + 1), (by show (rw rr y).length - (j + 1) < (rw rr y).length - j; omega), ⟨by omega, hi', hoff, hsame, hmes⟩, Sub.inv ⟨(by repeat (first | exact SubS_nil | refine SubS_cons rfl (by first | rfl | (simp; done) | assumption) ?_)), (by repeat (first | exact SubH_nil | refine SubH_cons rfl (by first | rfl | (simp; done) | assumption) ?_))⟩ hi⟩) | exact jn_loop (fun a w hi => ⟨(steps.set e.toNat (st steps y + 1), (xs.drop off).take (xs.length - off) ++ [e], 0, j + 1), (by show (rw rr y).length - (j + 1) < (rw rr y).length - j; omega), ⟨by omega, hpush, Nat.zero_le _, hpcl, hpm⟩, Sub.inv ⟨(by repeat (first | exact SubS_nil | refine SubS_cons rfl (by first | rfl | (simp; done) | assumption | (refine congrArg (SV.own 27 (rInt .i64).n 0) ?_; simp; done)) ?_)), (by repeat (first | exact SubH_nil | refine SubH_cons rfl (by first | rfl | (simp; done) | assumption | (refine congrArg (HB.mk (rInt .i64)) ?_; rw [Nat.zero_add]; done)) ?_))⟩ hi⟩)
        · have h15 : 0 ≤ st steps e := by simpa using h15
          have hsame : ∀ i, (hi : i < j + 1) → (hj : i < (rw rr y).length) → 0 ≤ st steps (rw rr y)[i] := fun i hi hj => by
            by_cases q : i = j
            · subst q; rw [← hee]; exact h15
            · exact hcl' i (by omega) hj
          refine j_skip (jn_blk (jn_seq ?_))
          refine j_region ?_
          refine jg_adr _ rfl _ rfl rfl (op_add (.base rfl) (.base rfl) (w64 (by omega))) ?_
          refine jg_adr _ rfl _ rfl rfl (op_move (.base rfl)) ?_
          refine jg_nil ?_
          refine jn_keep [0, 5, 7, 8, 39, 40, 41] [13, 27] (.cons rfl (.cons rfl (.cons rfl (.cons rfl (.cons rfl (.cons rfl (.cons rfl .nil))))))) (.cons rfl (.cons rfl .nil)) ?_
          first | exact jn_loop (fun a w hi => ⟨(steps, xs, off, j + 1), (by show (rw rr y).length - (j + 1) < (rw rr y).length - j; omega), ⟨by omega, hi', hoff, hsame, hmes⟩, Sub.inv ⟨(by repeat (first | exact SubS_nil | refine SubS_cons rfl (by first | rfl | (simp; done) | assumption) ?_)), (by repeat (first | exact SubH_nil | refine SubH_cons rfl (by first | rfl | (simp; done) | assumption) ?_))⟩ hi⟩) | exact jn_loop (fun a w hi => ⟨(steps.set e.toNat (st steps y + 1), (xs.drop off).take (xs.length - off) ++ [e], 0, j + 1), (by show (rw rr y).length - (j + 1) < (rw rr y).length - j; omega), ⟨by omega, hpush, Nat.zero_le _, hpcl, hpm⟩, Sub.inv ⟨(by repeat (first | exact SubS_nil | refine SubS_cons rfl (by first | rfl | (simp; done) | assumption | (refine congrArg (SV.own 27 (rInt .i64).n 0) ?_; simp; done)) ?_)), (by repeat (first | exact SubH_nil | refine SubH_cons rfl (by first | rfl | (simp; done) | assumption | (refine congrArg (HB.mk (rInt .i64)) ?_; rw [Nat.zero_add]; done)) ?_))⟩ hi⟩)
      · have h13 : j = (rw rr y).length := by simp at h13; omega
        have hcl : ∀ e ∈ rw rr y, 0 ≤ st steps e ∧ st steps e ≤ st steps y + 1 := fun e he => by
          have he2 := he
          obtain ⟨i, hi, rfl⟩ := List.mem_iff_getElem.1 he
          have h1 := hcl' i (by omega) hi
          exact ⟨h1, hi'.top _ (w.ent y _ he2).1 h1 y (by simp)⟩
        refine j_exit (je_seq (je_loop (je_blk (jn_blk ?_))))
        exact jn_loop (fun a w hi => ⟨(steps, xs, off), (by rw [hmu0] at hmes; exact hmes), ⟨hi'.close hcl, hoff⟩, Sub.inv ⟨(by repeat (first | exact SubS_nil | refine SubS_cons rfl (by first | rfl | (simp; done) | assumption) ?_)), (by repeat (first | exact SubH_nil | refine SubH_cons rfl (by first | rfl | (simp; done) | assumption) ?_))⟩ hi⟩)
    · have h9 : off = xs.length := by simp at h9; omega
      have hend : DI n rr t steps [] [] := by rw [h9, List.drop_length] at hi; exact hi
      have hel := hend.list w h0
      have hml := hi.len
      refine j_exit (je_seq (je_loop (je_blk (jn_seq (j_seq ?_)))))
      refine j_region ?_
      refine jg_adr _ rfl _ rfl rfl (op_move (.base rfl)) ?_
      refine jg_adr _ rfl _ rfl rfl (op_assign (.base rfl)) ?_
      refine jg_nil ?_
      refine jn_keep [4] [13] (.cons rfl .nil) (.cons rfl .nil) ?_
      refine jn_seq (j_ret ?_)
      refine jr_seal (rt := rInt .i64) 13 4 (dropH 13 _) rfl rfl (by omega) (dropH_sub 13 _) (dropH_no 13 _) ?_
      exact jr_fin1 Try.results28 (res_tmp rfl) rfl (congrArg (SV.tv (rSlice (rInt .i64))) (by rw [List.drop_zero, List.take_of_length_le (by omega)]; exact hel))

theorem short_ok (l steps : List Int) (hl : l.length ≤ 1000) (hin : ∀ e ∈ l, 0 ≤ e ∧ e < steps.length) (hb : ∀ x, -1 ≤ st steps x ∧ st steps x ≤ 1000) : Ct Try.prog 29 [.tv (rSlice (rInt .i64)) l, .tv (rSlice (rInt .i64)) steps] (.raw (.int .i64 (shT steps l))) := by
  refine ct_intro Try.func29 rfl rfl Try.ntmps29 rfl rfl ?_
  intro w0 ok0
  refine j_seq ?_
  refine j_region ?_
  refine jg_adr _ rfl _ rfl rfl (op_assign (.base rfl)) ?_
  refine jg_nil ?_
  refine jn_keep [0, 1] [] (.cons rfl (.cons rfl .nil)) .nil ?_
  refine jn_seq (j_seq ?_)
  refine j_region ?_
  refine jg_adr _ rfl _ rfl rfl (op_assign (.base rfl)) ?_
  refine jg_nil ?_
  refine jn_keep [0, 1, 5] [] (.cons rfl (.cons rfl (.cons rfl .nil))) .nil ?_
  refine jn_seq (j_seq (j_seq ?_))
  refine j_region ?_
  refine jg_adr _ rfl _ rfl rfl (op_move (.base rfl)) ?_
  refine jg_adr _ rfl _ rfl rfl (op_len Try.underlying28 (.base rfl)) ?_
  refine jg_adr _ rfl _ rfl rfl (op_move (.base rfl)) ?_
  refine jg_nil ?_
  refine jn_keep [1, 5, 8, 9, 10] [] (.cons rfl (.cons rfl (.cons rfl (.cons rfl (.cons rfl .nil))))) .nil ?_
  refine jn_seq (j_block ?_)
  refine j_loopp (ι := Nat) (fun k => ⟨[(1, .tv (rSlice (rInt .i64)) steps), (5, .raw (.int .i64 ((shT steps (l.take k))))), (8, .tv (rSlice (rInt .i64)) l), (9, .raw (.int .i64 (l.length))), (10, .raw (.int .i64 ((k : Nat))))], []⟩) (fun k => k ≤ l.length) (fun k => l.length - k) 0 (Nat.zero_le _) (fun a w hi => (Sub.inv ⟨(by repeat (first | exact SubS_nil | refine SubS_cons rfl (by first | rfl | (simp; done) | assumption) ?_)), (by repeat (first | exact SubH_nil | refine SubH_cons rfl (by first | rfl | (simp; done) | assumption) ?_))⟩ hi)) ?_
  rintro k hk
  have hsb := shT_bnd (B := 1000) (by decide) (fun x => (hb x).2) (l.take k)
  refine j_seq ?_
  refine j_region ?_
  refine jg_adr _ rfl _ rfl rfl (op_lss (.base rfl) (.base rfl)) ?_
  refine jg_nil ?_
  refine jn_keep [1, 5, 8, 9, 10, 11] [] (.cons rfl (.cons rfl (.cons rfl (.cons rfl (.cons rfl (.cons rfl .nil)))))) .nil ?_
  refine jn_seq (j_seq ?_)
  refine j_cond rfl (fun h3 => ?_) (fun h3 => ?_)
  · have h3 : k < l.length := by simp at h3; omega
    refine j_skip (jn_seq (j_seq (j_block (j_seq ?_))))
    refine j_region ?_
    refine jg_adr _ rfl _ rfl rfl (op_index Try.underlying28 ty3 (.base rfl) (.base rfl) rfl (List.getElem?_eq_getElem (by first | omega | (simp; done) | (simp; omega) | (simp at hg; omega)))) ?_
    refine jg_adr _ rfl _ rfl rfl (op_load ty3 (.base rfl)) ?_
    refine jg_adr _ rfl _ rfl rfl (op_assign (.base rfl)) ?_
    obtain ⟨e, hee⟩ : ∃ e, e = l[k] := ⟨_, rfl⟩
    rw [← hee]
    obtain ⟨he0, hen⟩ := hin e (by rw [hee]; exact List.getElem_mem h3)
    have hel : e.toNat < steps.length := by omega
    have hec : e = ((e.toNat : Nat) : Int) := by omega
    obtain ⟨hst0, hst⟩ := hb e
    refine jg_nil ?_
    refine jn_keep [1, 5, 7, 8, 9, 10] [] (.cons rfl (.cons rfl (.cons rfl (.cons rfl (.cons rfl (.cons rfl .nil)))))) .nil ?_
    refine jn_seq (j_seq ?_)
    refine j_region ?_
    refine jg_adr _ rfl _ rfl rfl (op_move (.base rfl)) ?_
    refine jg_adr _ rfl _ rfl rfl (op_move (.base rfl)) ?_
    refine jg_adr _ rfl _ rfl rfl (op_index Try.underlying28 ty3 (.base rfl) (.base rfl) hec (st_get' hel)) ?_
    refine jg_adr _ rfl _ rfl rfl (op_load ty3 (.base rfl)) ?_
    refine jg_adr _ rfl _ rfl rfl (op_geq (.base rfl) (.base rfl)) ?_
    refine jg_adr _ rfl _ rfl rfl (op_move (.base rfl)) ?_
    refine jg_gd _ _ _ _ _ _ rfl rfl rfl rfl rfl (fun hg => op_move (.base rfl)) ?_
    refine jg_gd _ _ _ _ _ _ rfl rfl rfl rfl rfl (fun hg => op_eql (.gd rfl hg) (.base rfl)) ?_
    refine jg_gd _ _ _ _ _ _ rfl rfl rfl rfl rfl (fun hg => op_move (.gd rfl hg)) ?_
    refine jg_gd2 _ _ _ _ _ _ _ rfl rfl rfl rfl rfl (fun hg => op_move (.base rfl)) ?_
    refine jg_gd2 _ _ _ _ _ _ _ rfl rfl rfl rfl rfl (fun hg => op_move (.base rfl)) ?_
    refine jg_gd2 _ _ _ _ _ _ _ rfl rfl rfl rfl rfl (fun hg => op_index Try.underlying28 ty3 (.gd rfl hg) (.gd rfl hg) hec (st_get' hel)) ?_
    refine jg_gd2 _ _ _ _ _ _ _ rfl rfl rfl rfl rfl (fun hg => op_load ty3 (.gd rfl hg)) ?_
    refine jg_gd2 _ _ _ _ _ _ _ rfl rfl rfl rfl rfl (fun hg => op_add (.gd rfl hg) (.base rfl) (w64 (by omega))) ?_
    refine jg_gd2 _ _ _ _ _ _ _ rfl rfl rfl rfl rfl (fun hg => op_move (.base rfl)) ?_
    refine jg_gd2 _ _ _ _ _ _ _ rfl rfl rfl rfl rfl (fun hg => op_lss (.gd rfl hg) (.gd rfl hg)) ?_
    refine jg_gd _ _ _ _ _ _ rfl rfl rfl rfl rfl (fun hg => op_pick_or (.gd rfl hg) (.base rfl) rfl (by intro h; first | (rw [h]; rfl) | (rw [hg, h]; rfl) | (rw [h, hg]; rfl) | simp_all)) ?_
    refine jg_adr _ rfl _ rfl rfl (op_pick_and (.base rfl) (.base rfl) rfl (by intro h; first | (rw [h]; rfl) | (rw [hg, h]; rfl) | (rw [h, hg]; rfl) | simp_all)) ?_
    refine jg_nil ?_
    refine jn_keep [1, 5, 7, 8, 9, 10, 31] [] (.cons rfl (.cons rfl (.cons rfl (.cons rfl (.cons rfl (.cons rfl (.cons rfl .nil))))))) .nil ?_
    refine jn_seq ?_
    refine j_cond rfl (fun h5 => ?_) (fun h5 => ?_)
    · have hc : 0 ≤ st steps e ∧ (shT steps (l.take k) = 0 ∨ st steps e + 1 < shT steps (l.take k)) := by
        by_cases q1 : 0 ≤ st steps e
        · by_cases q2 : shT steps (l.take k) = 0
          · exact ⟨q1, .inl q2⟩
          · simp [q1, q2] at h5; exact ⟨q1, .inr h5⟩
        · simp [q1] at h5
      have hs : shT steps (l.take (k + 1)) = st steps e + 1 := by rw [shT_succ h3, ← hee]; unfold shS; rw [if_pos hc]
      refine j_region ?_
      refine jg_adr _ rfl _ rfl rfl (op_move (.base rfl)) ?_
      refine jg_adr _ rfl _ rfl rfl (op_move (.base rfl)) ?_
      refine jg_adr _ rfl _ rfl rfl (op_index Try.underlying28 ty3 (.base rfl) (.base rfl) hec (st_get' hel)) ?_
      refine jg_adr _ rfl _ rfl rfl (op_load ty3 (.base rfl)) ?_
      refine jg_adr _ rfl _ rfl rfl (op_add (.base rfl) (.base rfl) (w64 (by omega))) ?_
      refine jg_adr _ rfl _ rfl rfl (op_assign (.base rfl)) ?_
      refine jg_nil ?_
      refine jn_keep [1, 5, 8, 9, 10] [] (.cons rfl (.cons rfl (.cons rfl (.cons rfl (.cons rfl .nil))))) .nil ?_
      refine jn_blk (jn_seq ?_)
      refine j_region ?_
      refine jg_adr _ rfl _ rfl rfl (op_add (.base rfl) (.base rfl) (w64 (by omega))) ?_
      refine jg_adr _ rfl _ rfl rfl (op_move (.base rfl)) ?_
      refine jg_nil ?_
      refine jn_keep [1, 5, 8, 9, 10] [] (.cons rfl (.cons rfl (.cons rfl (.cons rfl (.cons rfl .nil))))) .nil ?_
      first | exact jn_loop (fun a w hi => ⟨k + 1, (by first | omega | (simp; omega)), (by omega), Sub.inv ⟨(by repeat (first | exact SubS_nil | refine SubS_cons rfl (by first | rfl | (simp; done) | assumption | (rw [hs]; done) | (rw [← hs]; done)) ?_)), (by repeat (first | exact SubH_nil | refine SubH_cons rfl (by first | rfl | (simp; done) | assumption) ?_))⟩ hi⟩)
    · have hc : ¬ (0 ≤ st steps e ∧ (shT steps (l.take k) = 0 ∨ st steps e + 1 < shT steps (l.take k))) := by
        rintro ⟨q1, q2⟩
        by_cases q3 : shT steps (l.take k) = 0
        · simp [q1, q3] at h5
        · simp [q1, q3] at h5
          omega
      have hs : shT steps (l.take (k + 1)) = shT steps (l.take k) := by rw [shT_succ h3, ← hee]; unfold shS; rw [if_neg hc]
      refine j_skip (jn_blk (jn_seq ?_))
      refine j_region ?_
      refine jg_adr _ rfl _ rfl rfl (op_add (.base rfl) (.base rfl) (w64 (by omega))) ?_
      refine jg_adr _ rfl _ rfl rfl (op_move (.base rfl)) ?_
      refine jg_nil ?_
      refine jn_keep [1, 5, 8, 9, 10] [] (.cons rfl (.cons rfl (.cons rfl (.cons rfl (.cons rfl .nil))))) .nil ?_
      first | exact jn_loop (fun a w hi => ⟨k + 1, (by first | omega | (simp; omega)), (by omega), Sub.inv ⟨(by repeat (first | exact SubS_nil | refine SubS_cons rfl (by first | rfl | (simp; done) | assumption | (rw [hs]; done) | (rw [← hs]; done)) ?_)), (by repeat (first | exact SubH_nil | refine SubH_cons rfl (by first | rfl | (simp; done) | assumption) ?_))⟩ hi⟩)
  · have h3 : k = l.length := by simp at h3; omega
    subst h3
    rw [List.take_length]
    refine j_exit (je_seq (je_loop (je_blk (jn_seq (j_seq ?_)))))
    refine j_region ?_
    refine jg_adr _ rfl _ rfl rfl (op_move (.base rfl)) ?_
    refine jg_adr _ rfl _ rfl rfl (op_assign (.base rfl)) ?_
    refine jg_nil ?_
    refine jn_keep [4] [] (.cons rfl .nil) .nil ?_
    refine jn_seq (j_ret ?_)
    exact jr_fin1 Try.results29 (res_tmp rfl) rfl (rfl)

end Go.Proofs.Ytemcooggkcneiaa
