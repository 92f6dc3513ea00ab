import Derived.Test.YtmdhmgngomlheaaP30g
import Derived.Test.YtmdhmgngomlheaaShelf
import Derived.Test.YtmdhmgngomlheaaEngK
import Derived.Test.YtmdhmgngomlheaaEng20
import Derived.WalkKit
import Derived.Shelf.SlSortCmp.WholeK
namespace Go.Proofs.Ytmdhmgngomlheaa
open Go.Eng
set_option maxRecDepth 100000
set_option maxHeartbeats 4000000
set_option linter.unusedVariables false
set_option linter.unusedSimpArgs false

open Go.Sort Go.Shelf
theorem nan_ok (x : Int) : Ct Try.prog 42 [.raw (.int .i64 x)] (.raw (.bool false)) := by
  refine ct_intro Try.func42 rfl rfl Try.ntmps42 rfl rfl ?_
  intro w0 ok0
  refine j_seq ?_
  refine j_region ?_
  refine jg_adr _ rfl _ rfl rfl (op_assign (.base rfl)) ?_
  refine jg_nil ?_
  refine jn_keep [0] [] (.cons rfl .nil) .nil ?_
  refine jn_seq (j_seq ?_)
  refine j_region ?_
  refine jg_adr _ rfl _ rfl rfl (op_move (.base rfl)) ?_
  refine jg_adr _ rfl _ rfl rfl (op_move (.base rfl)) ?_
  refine jg_adr _ rfl _ rfl rfl (op_neq (.base rfl) (.base rfl)) ?_
  refine jg_adr _ rfl _ rfl rfl (op_assign (.base rfl)) ?_
  refine jg_nil ?_
  refine jn_keep [2] [] (.cons rfl .nil) .nil ?_
  refine jn_seq (j_ret ?_)
  exact jr_fin1 Try.results42 (res_tmp rfl) rfl (rb (by simp))

theorem cmp_ok (x y : Int) : Ct Try.prog 36 [.raw (.int .i64 x), .raw (.int .i64 y)] (.raw (.int .i64 (Lib.compareInt x y))) := by
  refine ct_intro Try.func36 rfl rfl Try.ntmps36 rfl rfl ?_
  intro w0 ok0
  refine j_seq ?_
  refine j_region ?_
  refine jg_adr _ rfl _ rfl rfl (op_assign (.base rfl)) ?_
  refine jg_nil ?_
  refine jn_keep [0, 1] [] (.cons rfl (.cons rfl .nil)) .nil ?_
  refine jn_seq (j_seq ?_)
  refine j_region ?_
  refine jg_adr _ rfl _ rfl rfl (op_move (.base rfl)) ?_
  refine jg_adr _ rfl _ rfl rfl (op_call (nan_ok _) (.cons (.base rfl) .nil) rfl rfl) ?_
  refine jg_adr _ rfl _ rfl rfl (op_assign (.base rfl)) ?_
  refine jg_nil ?_
  refine jn_keep [0, 1, 5] [] (.cons rfl (.cons rfl (.cons rfl .nil))) .nil ?_
  refine jn_seq (j_seq ?_)
  refine j_region ?_
  refine jg_adr _ rfl _ rfl rfl (op_move (.base rfl)) ?_
  refine jg_adr _ rfl _ rfl rfl (op_call (nan_ok _) (.cons (.base rfl) .nil) rfl rfl) ?_
  refine jg_adr _ rfl _ rfl rfl (op_assign (.base rfl)) ?_
  refine jg_nil ?_
  refine jn_keep [0, 1, 5, 6] [] (.cons rfl (.cons rfl (.cons rfl (.cons rfl .nil)))) .nil ?_
  refine jn_seq (j_seq (j_seq ?_))
  refine j_region ?_
  refine jg_adr _ rfl _ rfl rfl (op_move (.base rfl)) ?_
  refine jg_nil ?_
  refine jn_keep [0, 1, 6, 11] [] (.cons rfl (.cons rfl (.cons rfl (.cons rfl .nil)))) .nil ?_
  refine jn_seq ?_
  refine j_cond rfl (fun h3 => ?_) (fun h3 => ?_)
  · cases h3
  · try simp at h3
    refine j_skip (jn_seq (j_seq (j_seq ?_)))
    refine j_region ?_
    refine jg_adr _ rfl _ rfl rfl (op_move (.base rfl)) ?_
    refine jg_nil ?_
    refine jn_keep [0, 1, 13] [] (.cons rfl (.cons rfl (.cons rfl .nil))) .nil ?_
    refine jn_seq ?_
    refine j_cond rfl (fun h7 => ?_) (fun h7 => ?_)
    · cases h7
    · try simp at h7
      refine j_skip (jn_seq (j_seq (j_seq ?_)))
      refine j_region ?_
      refine jg_adr _ rfl _ rfl rfl (op_move (.base rfl)) ?_
      refine jg_adr _ rfl _ rfl rfl (op_move (.base rfl)) ?_
      refine jg_adr _ rfl _ rfl rfl (op_lss (.base rfl) (.base rfl)) ?_
      refine jg_nil ?_
      refine jn_keep [0, 1, 16] [] (.cons rfl (.cons rfl (.cons rfl .nil))) .nil ?_
      refine jn_seq ?_
      refine j_cond rfl (fun h9 => ?_) (fun h9 => ?_)
      · try simp at h9
        refine j_seq ?_
        refine j_region ?_
        refine jg_adr _ rfl _ rfl rfl (op_assign (.base rfl)) ?_
        refine jg_nil ?_
        refine jn_keep [4] [] (.cons rfl .nil) .nil ?_
        refine jn_seq (j_ret (jr_seq ?_))
        exact jr_fin1 Try.results36 (res_tmp rfl) rfl (ri (by unfold Lib.compareInt; rw [if_pos h9]))
      · try simp at h9
        refine j_skip (jn_seq (j_seq (j_seq ?_)))
        refine j_region ?_
        refine jg_adr _ rfl _ rfl rfl (op_move (.base rfl)) ?_
        refine jg_adr _ rfl _ rfl rfl (op_move (.base rfl)) ?_
        refine jg_adr _ rfl _ rfl rfl (op_gtr (.base rfl) (.base rfl)) ?_
        refine jg_nil ?_
        refine jn_keep [19] [] (.cons rfl .nil) .nil ?_
        refine jn_seq ?_
        refine j_cond rfl (fun h11 => ?_) (fun h11 => ?_)
        · try simp at h11
          refine j_seq ?_
          refine j_region ?_
          refine jg_adr _ rfl _ rfl rfl (op_assign (.base rfl)) ?_
          refine jg_nil ?_
          refine jn_keep [4] [] (.cons rfl .nil) .nil ?_
          refine jn_seq (j_ret (jr_seq ?_))
          exact jr_fin1 Try.results36 (res_tmp rfl) rfl (ri (by unfold Lib.compareInt; rw [if_neg (by omega), if_pos h11]))
        · try simp at h11
          refine j_skip (jn_seq (j_seq ?_))
          refine j_region ?_
          refine jg_adr _ rfl _ rfl rfl (op_assign (.base rfl)) ?_
          refine jg_nil ?_
          refine jn_keep [4] [] (.cons rfl .nil) .nil ?_
          refine jn_seq (j_ret ?_)
          exact jr_fin1 Try.results36 (res_tmp rfl) rfl (ri (by unfold Lib.compareInt; rw [if_neg (by omega), if_neg (by omega)]))

def orI3 (xs : List Int) : Int := (xs.find? fun x => x != 0).getD 0
theorem or_none {xs : List Int} (h : ∀ x ∈ xs, x = 0) : orI3 xs = 0 := by
  unfold orI3
  rw [List.find?_eq_none.2 (fun x hx => by simp [h x hx])]; rfl
theorem or_split {l r : List Int} {x : Int} (h : ∀ y ∈ l, y = 0) (h1 : x ≠ 0) : orI3 (l ++ x :: r) = x := by
  unfold orI3
  rw [List.find?_append, List.find?_eq_none.2 (fun y hy => by simp [h y hy])]
  simp [h1]
theorem or_hit {xs : List Int} {k : Nat} (hk : k < xs.length) (h : ∀ x ∈ xs.take k, x = 0) (h1 : xs[k] ≠ 0) : orI3 xs = xs[k] := by
  have := or_split (r := xs.drop (k + 1)) h h1
  rwa [← List.drop_eq_getElem_cons hk, List.take_append_drop] at this
theorem or3 (u v t : Int) : orI3 [u, v, t] = if u ≠ 0 then u else if v ≠ 0 then v else t := by
  unfold orI3
  by_cases hu : u = 0
  · by_cases hv : v = 0
    · by_cases ht : t = 0
      · simp [List.find?, hu, hv, ht]
      · have hb : (t != 0) = true := by simp [ht]
        simp [List.find?, hu, hv, hb]
    · have hb : (v != 0) = true := by simp [hv]
      simp [List.find?, hu, hv, hb]
  · have hb : (u != 0) = true := by simp [hu]
    simp [List.find?, hu, hb]
theorem or_ok (xs : List Int) : Ct Try.prog 35 [.tv (rSlice (rInt .i64)) xs] (.raw (.int .i64 (orI3 xs))) := by
  refine ct_intro Try.func35 rfl rfl Try.ntmps35 rfl rfl ?_
  intro w0 ok0
  refine j_len 0 rfl (fun hl0 => ?_)
  refine j_seq ?_
  refine j_region ?_
  refine jg_adr _ rfl _ rfl rfl (op_assign (.base rfl)) ?_
  refine jg_nil ?_
  refine jn_keep [0] [] (.cons rfl .nil) .nil ?_
  refine jn_seq (j_seq ?_)
  refine j_region ?_
  refine jg_adr _ rfl _ rfl rfl (op_assign (.base rfl)) ?_
  refine jg_nil ?_
  refine jn_keep [0, 3] [] (.cons rfl (.cons rfl .nil)) .nil ?_
  refine jn_seq (j_seq (j_seq ?_))
  refine j_region ?_
  refine jg_adr _ rfl _ rfl rfl (op_move (.base rfl)) ?_
  refine jg_adr _ rfl _ rfl rfl (op_len Try.underlying22 (.base rfl)) ?_
  refine jg_adr _ rfl _ rfl rfl (op_move (.base rfl)) ?_
  refine jg_nil ?_
  refine jn_keep [3, 6, 7, 8] [] (.cons rfl (.cons rfl (.cons rfl (.cons rfl .nil)))) .nil ?_
  refine jn_seq (j_block ?_)
  refine j_loopp (ι := Nat) (fun k => ⟨[(3, .raw (.int .i64 (0))), (6, .tv (rSlice (rInt .i64)) xs), (7, .raw (.int .i64 ((xs.length : Int)))), (8, .raw (.int .i64 ((k : Nat))))], []⟩) (fun k => k ≤ xs.length ∧ ∀ x ∈ xs.take k, x = 0) (fun k => xs.length - k) 0 (by simp) (fun a w hi => (Sub.inv ⟨(by repeat (first | exact SubS_nil | refine SubS_cons rfl (by first | rfl | (simp; done) | assumption) ?_)), (by repeat (first | exact SubH_nil | refine SubH_cons rfl (by first | rfl | (simp; done) | assumption) ?_))⟩ hi)) ?_
  rintro k ⟨hk, hz⟩
  refine j_seq ?_
  refine j_region ?_
  refine jg_adr _ rfl _ rfl rfl (op_lss (.base rfl) (.base rfl)) ?_
  refine jg_nil ?_
  refine jn_keep [3, 6, 7, 8, 9] [] (.cons rfl (.cons rfl (.cons rfl (.cons rfl (.cons rfl .nil))))) .nil ?_
  refine jn_seq (j_seq ?_)
  refine j_cond rfl (fun h3 => ?_) (fun h3 => ?_)
  · have h3 : k < xs.length := by simpa using h3
    refine j_skip (jn_seq (j_seq (j_block (j_seq ?_))))
    refine j_region ?_
    refine jg_adr _ rfl _ rfl rfl (op_index Try.underlying22 ty3 (.base rfl) (.base rfl) rfl (List.getElem?_eq_getElem (by first | omega | (simp; done) | (simp; omega) | (simp at hg; omega)))) ?_
    refine jg_adr _ rfl _ rfl rfl (op_load ty3 (.base rfl)) ?_
    refine jg_adr _ rfl _ rfl rfl (op_assign (.base rfl)) ?_
    refine jg_nil ?_
    refine jn_keep [3, 5, 6, 7, 8] [] (.cons rfl (.cons rfl (.cons rfl (.cons rfl (.cons rfl .nil))))) .nil ?_
    refine jn_seq (j_seq ?_)
    refine j_region ?_
    refine jg_adr _ rfl _ rfl rfl (op_move (.base rfl)) ?_
    refine jg_adr _ rfl _ rfl rfl (op_move (.base rfl)) ?_
    refine jg_adr _ rfl _ rfl rfl (op_neq (.base rfl) (.base rfl)) ?_
    refine jg_nil ?_
    refine jn_keep [3, 5, 6, 7, 8, 14] [] (.cons rfl (.cons rfl (.cons rfl (.cons rfl (.cons rfl (.cons rfl .nil)))))) .nil ?_
    refine jn_seq ?_
    refine j_cond rfl (fun h5 => ?_) (fun h5 => ?_)
    · have h5 : xs[k] ≠ 0 := by simpa using h5
      refine j_seq ?_
      refine j_region ?_
      refine jg_adr _ rfl _ rfl rfl (op_move (.base rfl)) ?_
      refine jg_adr _ rfl _ rfl rfl (op_assign (.base rfl)) ?_
      refine jg_nil ?_
      refine jn_keep [2] [] (.cons rfl .nil) .nil ?_
      refine jn_seq (j_ret (jr_blk (jr_seq (jr_loop (jr_blk (jr_seq ?_))))))
      exact jr_fin1 Try.results35 (res_tmp rfl) rfl (ri (or_hit h3 hz h5).symm)
    · have h5 : xs[k] = 0 := by simpa using h5
      refine j_skip (jn_blk (jn_seq ?_))
      refine j_region ?_
      refine jg_adr _ rfl _ rfl rfl (op_add (.base rfl) (.base rfl) (w64 (by omega))) ?_
      refine jg_adr _ rfl _ rfl rfl (op_move (.base rfl)) ?_
      refine jg_nil ?_
      refine jn_keep [3, 6, 7, 8] [] (.cons rfl (.cons rfl (.cons rfl (.cons rfl .nil)))) .nil ?_
      exact jn_loop (fun a w hi => ⟨k + 1, (by first | omega | (simp; omega)), (⟨by omega, fun x hx => by rw [List.take_succ_eq_append_getElem h3] at hx; rcases List.mem_append.1 hx with q | q; exact hz x q; rw [List.mem_singleton] at q; rw [q]; exact h5⟩), (Sub.inv ⟨(by repeat (first | exact SubS_nil | refine SubS_cons rfl (by first | rfl | (simp; done) | assumption) ?_)), (by repeat (first | exact SubH_nil | refine SubH_cons rfl (by first | rfl | (simp; done) | assumption) ?_))⟩ hi)⟩)
  · have h3 : ¬ k < xs.length := by simpa using h3
    refine j_exit (je_seq (je_loop (je_blk (jn_seq (j_seq ?_)))))
    refine j_region ?_
    refine jg_adr _ rfl _ rfl rfl (op_move (.base rfl)) ?_
    refine jg_adr _ rfl _ rfl rfl (op_assign (.base rfl)) ?_
    refine jg_nil ?_
    refine jn_keep [2] [] (.cons rfl .nil) .nil ?_
    refine jn_seq (j_ret ?_)
    exact jr_fin1 Try.results35 (res_tmp rfl) rfl (ri (or_none (fun x hx => hz x (by rw [List.take_of_length_le (by omega)]; exact hx))).symm)

def cfP (x y : TPattern) : Int := orI3 [Lib.compareInt (cntI x.1 : Nat) (cntI y.1 : Nat), Lib.compareInt x.1 y.1, Lib.compareInt x.2 y.2]
theorem closP_ok (x y : TPattern) : Ct Try.prog 34 [.tv rPattern x, .tv rPattern y] (.raw (.int .i64 (cfP x y))) := by
  refine ct_intro Try.func34 rfl rfl Try.ntmps34 rfl rfl ?_
  intro w0 ok0
  refine j_seq ?_
  refine j_region ?_
  refine jg_os _ rfl (op_box (.tv (.base rfl)) rfl rfl rfl) ?_
  refine jg_os _ rfl (op_box (.tv (.base rfl)) rfl rfl rfl) ?_
  refine jg_adr _ rfl _ rfl rfl (op_assign (.base rfl)) ?_
  refine jg_nil ?_
  refine jn_keep [2, 3] [2, 3] (.cons rfl (.cons rfl .nil)) (.cons rfl (.cons rfl .nil)) ?_
  refine jn_seq (j_seq ?_)
  refine j_draw mo (by kernel_rfl) (
    AS.cons _ _ rfl (ga_adr rfl rfl rfl (op_ofield fld29_0 (.base rfl))) (
      AS.cons _ _ rfl (ga_adr rfl rfl rfl (op_oload ty3 (.base rfl) rfl rfl ln29_0)) (
      AS.cons _ _ rfl (ga_adr rfl rfl rfl (op_conv ⟨_, Try.underlying3⟩ Try.underlying39 (.base rfl) (conv_u _))) (
      AS.cons _ _ rfl (ga_adr rfl rfl rfl (op_call (ones_ok _ (BitVec.isLt _)) (.cons (.base rfl) .nil) rfl rfl)) (
      AS.cons _ _ rfl (ga_adr rfl rfl rfl (op_ofield fld29_0 (.base rfl))) (
      AS.cons _ _ rfl (ga_adr rfl rfl rfl (op_oload ty3 (.base rfl) rfl rfl ln29_0)) (
      AS.cons _ _ rfl (ga_adr rfl rfl rfl (op_conv ⟨_, Try.underlying3⟩ Try.underlying39 (.base rfl) (conv_u _))) (
      AS.cons _ _ rfl (ga_adr rfl rfl rfl (op_call (ones_ok _ (BitVec.isLt _)) (.cons (.base rfl) .nil) rfl rfl)) (
      AS.cons _ _ rfl (ga_adr rfl rfl rfl (op_call (cmp_ok _ _) (.cons (.base rfl) (.cons (.base rfl) .nil)) rfl rfl)) (
      AS.cons _ _ rfl (ga_adr rfl rfl rfl (op_ofield fld29_0 (.base rfl))) (
      AS.cons _ _ rfl (ga_adr rfl rfl rfl (op_oload ty3 (.base rfl) rfl rfl ln29_0)) (
      AS.cons _ _ rfl (ga_adr rfl rfl rfl (op_ofield fld29_0 (.base rfl))) (
      AS.cons _ _ rfl (ga_adr rfl rfl rfl (op_oload ty3 (.base rfl) rfl rfl ln29_0)) (
      AS.cons _ _ rfl (ga_adr rfl rfl rfl (op_call (cmp_ok _ _) (.cons (.base rfl) (.cons (.base rfl) .nil)) rfl rfl)) (
      AS.cons _ _ rfl (ga_adr rfl rfl rfl (op_ofield fld29_1 (.base rfl))) (
      AS.cons _ _ rfl (ga_adr rfl rfl rfl (op_oload ty3 (.base rfl) rfl rfl ln29_1)) (
      AS.cons _ _ rfl (ga_adr rfl rfl rfl (op_ofield fld29_1 (.base rfl))) (
      AS.cons _ _ rfl (ga_adr rfl rfl rfl (op_oload ty3 (.base rfl) rfl rfl ln29_1)) (
      AS.cons _ _ rfl (ga_adr rfl rfl rfl (op_call (cmp_ok _ _) (.cons (.base rfl) (.cons (.base rfl) .nil)) rfl rfl)) (
      AS.cons _ _ rfl (ga_adr rfl rfl rfl (op_bslice (rt := (rInt .i64)) Try.underlying22 ty3 z3 rfl (.cons (.raw (.base rfl) rfl) (.cons (.raw (.base rfl) rfl) (.cons (.raw (.base rfl) rfl) .nil))) rfl rfl)) (
      AS.cons _ _ rfl (ga_adr rfl rfl rfl (op_call (or_ok _) (.cons (.base rfl) .nil) rfl rfl)) (
      AS.cons _ _ rfl (ga_adr rfl rfl rfl (op_assign (.base rfl))) (
      AS.nil))))))))))))))))))))))) ?_
  refine jn_keep [4] [] (.cons rfl .nil) .nil ?_
  refine jn_seq (j_ret ?_)
  exact jr_fin1 Try.results34 (res_tmp rfl) rfl rfl

def encK (x : TPattern) : List Value := [.int .i64 x.1, .int .i64 x.2]
theorem exactK : Exact rPattern encK := exact_pair exact_int exact_int
def ltP (x y : TPattern) : Prop := cntI x.1 < cntI y.1 ∨ (cntI x.1 = cntI y.1 ∧ (x.1 < y.1 ∨ (x.1 = y.1 ∧ x.2 < y.2)))
theorem cmp_sign (x y : Int) : (Lib.compareInt x y = 0 ↔ x = y) ∧ (Lib.compareInt x y < 0 ↔ x < y) := by
  unfold Lib.compareInt; split; · omega
  split <;> omega
theorem ltK (x y : TPattern) : ltOf cfP x y = true ↔ ltP x y := by
  have e1 := cmp_sign (cntI x.1 : Nat) (cntI y.1 : Nat)
  have e2 := cmp_sign x.1 y.1
  have e3 := cmp_sign x.2 y.2
  unfold ltOf cfP ltP
  rw [or3, decide_eq_true_eq]
  generalize Lib.compareInt (cntI x.1 : Nat) (cntI y.1 : Nat) = u at *
  generalize Lib.compareInt x.1 y.1 = v at *
  generalize Lib.compareInt x.2 y.2 = t at *
  split
  · rename_i hu
    have h1 : cntI x.1 ≠ cntI y.1 := fun e => hu (e1.1.2 (by omega))
    omega
  · rename_i hu
    have hu : u = 0 := by omega
    have h1 : cntI x.1 = cntI y.1 := by have := e1.1.1 hu; omega
    split
    · rename_i hv
      have h2 : x.1 ≠ y.1 := fun e => hv (e2.1.2 e)
      omega
    · rename_i hv
      have h2 := e2.1.1 (by omega)
      omega
theorem swoK : SWO (ltOf cfP) where
  irrefl x := by rw [Bool.eq_false_iff, Ne, ltK]; unfold ltP; omega
  trans x y z h1 h2 := by rw [ltK] at *; unfold ltP at *; omega
  ntrans x y z h1 h2 := by rw [Bool.eq_false_iff, Ne, ltK] at *; unfold ltP at *; omega
theorem closureK (x y : TPattern) (W : World) : Calls Try.prog 34 #[.agg #[.int .i64 x.1, .int .i64 x.2], .agg #[.int .i64 y.1, .int .i64 y.2]] W fun e w' => e = .returned (.int .i64 (cfP x y)) ∧ ∃ q os', w' = grow (W.drewN q) os' := by
  have hv : ∀ p : TPattern, rPattern.val W (fun _ => False) (.agg #[.int .i64 p.1, .int .i64 p.2]) p := fun p => ⟨_, ⟨[.int .i64 p.1], [.int .i64 p.2], rfl, rfl, rfl⟩, rfl⟩
  refine ((closP_ok x y).calls W (fun _ => False) [.agg #[.int .i64 x.1, .int .i64 x.2], .agg #[.int .i64 y.1, .int .i64 y.2]] (fun _ h => h.elim) ⟨_, _, rfl, hv x, _, _, rfl, hv y, rfl⟩).mono ?_
  rintro e w' ⟨v, rfl, hb, hu⟩
  have hu : v = .int .i64 (cfP x y) := hu
  subst hu
  exact ⟨rfl, (hb.plain (fun _ h => h)).grow⟩
theorem cmpLaysK (blk off size : Nat) (w : World) : CmpLays Try.prog 34 #[] encK 2 cfP blk off size w := fun _ _ _ _ x y => closureK x y _
def sortK (l : List TPattern) : List TPattern := pdqL (ltOf cfP) (Lib.bitLen l.length) l
theorem sortK_ok (l : List TPattern) : (sortK l).Perm l ∧ (sortK l).Pairwise (fun a b => ¬ ltP b a) ∧ (sortK l).length = l.length := by
  obtain ⟨h1, h2, h3⟩ := pdqL_ok swoK (Lib.bitLen l.length) l
  exact ⟨h1, h2.imp (fun h => by rw [Bool.eq_false_iff, Ne, ltK] at h; exact h), h3⟩

theorem bitsLen0 : Ct Try.prog 41 [.raw (.int .u64 0)] (.raw (.int .i64 0)) :=
  ⟨callFunc_enter Try.func41 rfl (by kernel_rfl), fun w ok0 vs hok ⟨v, vr, e, h1, h2⟩ => by
    have h1 : v = .int .u64 0 := h1
    have h2 : vr = [] := h2
    subst h1 h2 e
    refine (Go.Proofs.Try.bits_Len 0 w (by omega) (by omega)).mono ?_
    rintro e w' ⟨rfl, rfl⟩
    exact ⟨_, rfl, (Go.Eng.Below.refl _ _).toX, rfl⟩⟩

theorem ins0 (A : Option Addr) (cap : Nat) (fv : Value) : Ct Try.prog 43 [.raw (.slice A 0 cap), .raw (.int .i64 0), .raw (.int .i64 0), .raw fv] (.raw (.tuple #[])) := by
  refine ct_intro Try.func43 rfl rfl Try.ntmps43 rfl rfl ?_
  intro w0 ok0
  refine j_seq ?_
  refine j_region ?_
  refine jg_adr _ rfl _ rfl rfl (op_move (.base rfl)) ?_
  refine jg_adr _ rfl _ rfl rfl (op_add (.base rfl) (.base rfl) (w64 (by omega))) ?_
  refine jg_adr _ rfl _ rfl rfl (op_assign (.base rfl)) ?_
  refine jg_nil ?_
  refine jn_keep [0, 1, 2, 3, 8] [] (.cons rfl (.cons rfl (.cons rfl (.cons rfl (.cons rfl .nil))))) .nil ?_
  refine jn_seq (j_block ?_)
  refine j_loopp (ι := Nat) (fun k => ⟨[(2, .raw (.int .i64 (0))), (8, .raw (.int .i64 (0 + 1)))], []⟩) (fun k => True) (fun k => 0) 0 (trivial) (fun a w hi => (Sub.inv ⟨(by repeat (first | exact SubS_nil | refine SubS_cons rfl (by first | rfl | (simp; done) | assumption) ?_)), (by repeat (first | exact SubH_nil | refine SubH_cons rfl (by first | rfl | (simp; done) | assumption) ?_))⟩ hi)) ?_
  rintro k -
  refine j_seq (j_seq ?_)
  refine j_region ?_
  refine jg_adr _ rfl _ rfl rfl (op_move (.base rfl)) ?_
  refine jg_adr _ rfl _ rfl rfl (op_move (.base rfl)) ?_
  refine jg_adr _ rfl _ rfl rfl (op_lss (.base rfl) (.base rfl)) ?_
  refine jg_nil ?_
  refine jn_seq ?_
  refine j_cond rfl (fun h1 => ?_) (fun h1 => ?_)
  · exact absurd h1 (by decide)
  · try simp at h1
    refine j_exit (je_seq (je_loop (je_blk ?_)))
    exact jn_fin0 Try.results43

theorem pdq0 (A : Option Addr) (cap : Nat) (fv : Value) (m : Int) : Ct Try.prog 40 [.raw (.slice A 0 cap), .raw (.int .i64 0), .raw (.int .i64 0), .raw (.int .i64 m), .raw fv] (.raw (.tuple #[])) := by
  refine ct_intro Try.func40 rfl rfl Try.ntmps40 rfl rfl ?_
  intro w0 ok0
  refine j_seq ?_
  refine j_region ?_
  refine jg_adr _ rfl _ rfl rfl (op_assign (.base rfl)) ?_
  refine jg_nil ?_
  refine jn_keep [0, 1, 2, 3, 4, 10] [] (.cons rfl (.cons rfl (.cons rfl (.cons rfl (.cons rfl (.cons rfl .nil)))))) .nil ?_
  refine jn_seq (j_seq ?_)
  refine j_region ?_
  refine jg_adr _ rfl _ rfl rfl (op_assign (.base rfl)) ?_
  refine jg_nil ?_
  refine jn_keep [0, 1, 2, 3, 4, 10, 11] [] (.cons rfl (.cons rfl (.cons rfl (.cons rfl (.cons rfl (.cons rfl (.cons rfl .nil))))))) .nil ?_
  refine jn_seq (j_block ?_)
  refine j_loopp (ι := Nat) (fun k => ⟨[(0, .raw (.slice A 0 cap)), (1, .raw (.int .i64 (0))), (2, .raw (.int .i64 (0))), (4, .raw fv)], []⟩) (fun k => True) (fun k => 0) 0 (trivial) (fun a w hi => (Sub.inv ⟨(by repeat (first | exact SubS_nil | refine SubS_cons rfl (by first | rfl | (simp; done) | assumption) ?_)), (by repeat (first | exact SubH_nil | refine SubH_cons rfl (by first | rfl | (simp; done) | assumption) ?_))⟩ hi)) ?_
  rintro k -
  refine j_block (j_seq ?_)
  refine j_region ?_
  refine jg_adr _ rfl _ rfl rfl (op_move (.base rfl)) ?_
  refine jg_adr _ rfl _ rfl rfl (op_move (.base rfl)) ?_
  refine jg_adr _ rfl _ rfl rfl (op_sub (.base rfl) (.base rfl) (w64 (by omega))) ?_
  refine jg_adr _ rfl _ rfl rfl (op_assign (.base rfl)) ?_
  refine jg_nil ?_
  refine jn_seq (j_seq (j_seq ?_))
  refine j_region ?_
  refine jg_adr _ rfl _ rfl rfl (op_move (.base rfl)) ?_
  refine jg_adr _ rfl _ rfl rfl (op_leq (.base rfl) (.base rfl)) ?_
  refine jg_nil ?_
  refine jn_seq ?_
  refine j_cond rfl (fun h3 => ?_) (fun h3 => ?_)
  · try simp at h3
    refine j_seq ?_
    refine j_region ?_
    refine jg_adr _ rfl _ rfl rfl (op_move (.base rfl)) ?_
    refine jg_adr _ rfl _ rfl rfl (op_move (.base rfl)) ?_
    refine jg_adr _ rfl _ rfl rfl (op_move (.base rfl)) ?_
    refine jg_adr _ rfl _ rfl rfl (op_move (.base rfl)) ?_
    refine jg_adr _ rfl _ rfl rfl (op_call (ins0 _ _ _) (.cons (.base rfl) (.cons (.base rfl) (.cons (.base rfl) (.cons (.base rfl) .nil)))) rfl rfl) ?_
    refine jg_nil ?_
    refine jn_seq (j_ret (jr_seq (jr_blk (jr_loop (jr_blk ?_)))))
    exact jr_fin0 Try.results40
  · exact absurd h3 (by decide)

theorem sort0 (A : Option Addr) (cap : Nat) (fv : Value) : Ct Try.prog 33 [.raw (.slice A 0 cap), .raw fv] (.raw (.tuple #[])) := by
  refine ct_intro Try.func33 rfl rfl Try.ntmps33 rfl rfl ?_
  intro w0 ok0
  refine j_seq ?_
  refine j_region ?_
  refine jg_adr _ rfl _ rfl rfl (op_move (.base rfl)) ?_
  refine jg_adr _ rfl _ rfl rfl (op_len_raw Try.underlying25 (.base rfl)) ?_
  refine jg_adr _ rfl _ rfl rfl (op_assign (.base rfl)) ?_
  refine jg_nil ?_
  refine jn_keep [0, 1, 4] [] (.cons rfl (.cons rfl (.cons rfl .nil))) .nil ?_
  refine jn_seq ?_
  refine j_region ?_
  refine jg_adr _ rfl _ rfl rfl (op_move (.base rfl)) ?_
  refine jg_adr _ rfl _ rfl rfl (op_move (.base rfl)) ?_
  refine jg_adr _ rfl _ rfl rfl (op_move (.base rfl)) ?_
  refine jg_adr _ rfl _ rfl rfl (op_conv ⟨_, Try.underlying3⟩ Try.underlying39 (.base rfl) (wu64 (by omega))) ?_
  refine jg_adr _ rfl _ rfl rfl (op_call bitsLen0 (.cons (.base rfl) .nil) rfl rfl) ?_
  refine jg_adr _ rfl _ rfl rfl (op_move (.base rfl)) ?_
  refine jg_adr _ rfl _ rfl rfl (op_call (pdq0 _ _ _ _) (.cons (.base rfl) (.cons (.base rfl) (.cons (.base rfl) (.cons (.base rfl) (.cons (.base rfl) .nil))))) rfl rfl) ?_
  refine jg_nil ?_
  refine jn_keep [] [] .nil .nil ?_
  exact jn_fin0 Try.results33

theorem sortNone (A : Option Addr) (cap : Nat) (fv : Value) (w : World) : Calls Try.prog 33 #[.slice A 0 cap, fv] w fun e w' => e = .returned (.tuple #[]) ∧ Go.Eng.Below w.heap.size w w' := by
  refine ((sort0 A cap fv).calls w (fun _ => False) [.slice A 0 cap, fv] (fun _ h => h.elim) ⟨_, _, rfl, rfl, _, _, rfl, rfl, rfl⟩).mono ?_
  rintro e w' ⟨v, rfl, hb, hv⟩
  have hv : v = .tuple #[] := hv
  subst hv
  exact ⟨rfl, hb.plain (fun _ h => h)⟩
theorem turnKR : TurnK Try.prog 33 rPattern encK (.func (.func 34) #[] #[]) sortK where
  exact := exactK
  ent := fun w args => callFunc_enter Try.func33 rfl (by kernel_rfl) w args
  len l := (sortK_ok l).2.2
  some_ blk off cap zs w hH hb hz _ := by
    have eg : ∀ args w, (callFunc 34 args).run Try.prog w = .ok (.enter 34 args) w := enters_of Try.func34 (by kernel_rfl) rfl
    have hcon := AnyQ.slices_SortFunc_eq Go.Proofs.Try.laysSF33 2 Try.isAgg29 Try.sizeOf29 encK (fun _ => rfl) (fun x v hv => by simp [encK] at hv; rcases hv with rfl | rfl <;> rfl) cfP swoK 34 #[] blk off cap zs.toArray w eg (cmpLaysK blk off zs.toArray.size w) hH hb (by simpa using hz)
    change Calls Try.prog 33 _ _ _ at hcon
    refine hcon.mono ?_
    rintro e w' ⟨rfl, n, os, rfl⟩
    exact ⟨rfl, n, os, rfl⟩
  none_ A cap w := sortNone A cap _ w
end Go.Proofs.Ytmdhmgngomlheaa
