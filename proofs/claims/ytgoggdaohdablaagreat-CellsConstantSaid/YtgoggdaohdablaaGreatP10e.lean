import Derived.Test.YtgoggdaohdablaaGreatP10d
namespace Go.Proofs.YtgoggdaohdablaaGreat
open Go.Eng
set_option maxRecDepth 100000
set_option maxHeartbeats 4000000
set_option linter.unusedVariables false
set_option linter.unusedSimpArgs false


def svT (R : TType × Int) : SV := .tup2 (.tv rType R.1) (.raw (.int .i64 R.2))
def svB (R : TType × Bool) : SV := .tup2 (.tv rType R.1) (.raw (.bool R.2))
def sv22 (R : Int × Int) : SV := .tup2 (.raw (.int .i64 R.1)) (.raw (.int .i64 R.2))
theorem svT_eq {R : TType × Int} {a : TType} {b : Int} (h : (a, b) = R) : SV.tup2 (SV.of rType a) (.raw (.int .i64 b)) = svT R := by subst h; rfl
theorem svB_eq {R : TType × Bool} {a : TType} {b : Bool} (h : (a, b) = R) : SV.tup2 (SV.of rType a) (.raw (.bool b)) = svB R := by subst h; rfl
theorem sv22_eq {R : Int × Int} {a b : Int} (h : (a, b) = R) : SV.tup2 (.raw (.int .i64 a)) (.raw (.int .i64 b)) = sv22 R := by subst h; rfl
def memb (en : List TEnum) (k : Int) : Int := ((en[k.toNat]?.getD ([], [])).2.length : Int)
def bounds (t : TType) (en : List TEnum) : Int × Int :=
  if validType t en = false then (0, -1) else if t.1 = 1 then (0, 1) else if t.1 = 2 then (-1000000000000, 1000000000000) else if t.1 = 3 then (-1000000000000000, 1000000000000000)
  else if t.1 = 4 then (-1000000000, 1000000000) else if t.1 = 5 then (0, 109572) else (0, memb en t.2 - 1)
def literalType (n k : Int) (s : TSignature) : TType × Int := if n < (bounds (k, 0) s.1).1 ∨ (bounds (k, 0) s.1).2 < n then ((0, 0), 3) else ((k, 0), 0)
def enumType (n : Int) (s : TSignature) : TType × Int := if n < 0 then ((0, 0), 3) else if s.1.length ≤ n / 16 ∨ memb s.1 (n / 16) ≤ n % 16 then ((0, 0), 6) else ((6, n / 16), 0)
def nthT (l : List TType) (n : Int) : TType := l[n.toNat]?.getD (0, 0)
def listedType (n : Int) (l : List TType) (s : TSignature) : TType × Int := if n < 0 ∨ l.length ≤ n then ((0, 0), 6) else if validType (nthT l n) s.1 = false then ((0, 0), 8) else (nthT l n, 0)
theorem nthT_eq {l : List TType} {n : Int} (h : n.toNat < l.length) : nthT l n = l[n.toNat] := by simp [nthT, h]
theorem fitsEn : Fits (rSlice rEnum) (fun en => en.length ≤ 9223372036854775807 ∧ ∀ x ∈ en, True ∧ (x.2.length ≤ 9223372036854775807 ∧ ∀ y ∈ x.2, True)) := fits_slice (fits_pair fits_any (fits_slice fits_any))
theorem vt6 {t : TType} {en : List TEnum} (h : validType t en = true) (h1 : ¬ t.1 = 1) (h2 : ¬ t.1 = 2) (h3 : ¬ t.1 = 3) (h4 : ¬ t.1 = 4) (h5 : ¬ t.1 = 5) : t.1 = 6 ∧ 0 ≤ t.2 ∧ t.2 < en.length := by
  unfold validType at h
  rw [if_neg (by omega)] at h
  split at h
  · rename_i h6; simp at h; exact ⟨h6, h⟩
  · cases h

theorem bounds_ok (t : TType) (en : List TEnum) : Ct Tryz.prog 21 [.tv rType t, .tv (rSlice rEnum) en] (sv22 (bounds t en)) := by
  refine ct_intro Tryz.func21 rfl rfl Tryz.ntmps21 rfl rfl ?_
  intro w0 ok0
  refine j_fits 1 fitsEn rfl (fun hf => ?_)
  have hl0 := hf.1
  refine j_seq ?_
  refine j_region ?_
  refine jg_os _ rfl (op_box (.tv (.base rfl)) rfl rfl rfl) ?_
  refine jg_adr _ rfl _ rfl rfl (op_assign (.base rfl)) ?_
  refine jg_adr _ rfl _ rfl rfl (op_assign (.base rfl)) ?_
  refine jg_nil ?_
  refine jn_keep [1, 2] [2] (.cons rfl (.cons rfl .nil)) (.cons rfl .nil) ?_
  refine jn_seq (j_seq (j_seq ?_))
  refine j_region ?_
  refine jg_adr _ rfl _ rfl rfl (op_oload ty37 (.base rfl) rfl rfl (Lens.id _)) ?_
  refine jg_adr _ rfl _ rfl rfl (op_move (.base rfl)) ?_
  refine jg_adr _ rfl _ rfl rfl (op_call (validType_ok _ _) (.cons (.base rfl) (.cons (.base rfl) .nil)) rfl rfl) ?_
  refine jg_adr _ rfl _ rfl rfl (op_not (.base rfl)) ?_
  refine jg_nil ?_
  refine jn_keep [1, 2, 9] [2] (.cons rfl (.cons rfl (.cons rfl .nil))) (.cons rfl .nil) ?_
  refine jn_seq ?_
  refine j_cond rfl (fun h1 => ?_) (fun h1 => ?_)
  · try simp at h1
    refine j_seq ?_
    refine j_region ?_
    refine jg_adr _ rfl _ rfl rfl (op_assign (.base rfl)) ?_
    refine jg_adr _ rfl _ rfl rfl (op_assign (.base rfl)) ?_
    refine jg_nil ?_
    refine jn_keep [4, 5] [] (.cons rfl (.cons rfl .nil)) .nil ?_
    refine jn_seq (j_ret (jr_seq ?_))
    exact jr_fin2 Tryz.results21 (res_tmp rfl) (res_tmp rfl) ⟨rfl, rfl⟩ (sv22_eq (by subst_vars; first | rfl | (simp [bounds]; done) | (simp [bounds, *]; done) | (unfold bounds; (repeat' split) <;> first | rfl | omega | (simp_all; done) | (simp_all; omega) | (simp_all [allowedM]; done) | (simp_all [allowedM]; omega))))
  · try simp at h1
    refine j_skip (jn_seq (j_seq (j_seq ?_)))
    refine j_region ?_
    refine jg_adr _ rfl _ rfl rfl (op_ofield fld37_0 (.base rfl)) ?_
    refine jg_adr _ rfl _ rfl rfl (op_oload ty3 (.base rfl) rfl rfl ln37_0) ?_
    refine jg_nil ?_
    refine jn_keep [1, 2, 11] [2] (.cons rfl (.cons rfl (.cons rfl .nil))) (.cons rfl .nil) ?_
    refine jn_seq (j_block (j_seq ?_))
    refine j_region ?_
    refine jg_adr _ rfl _ rfl rfl (op_eql (.base rfl) (.base rfl)) ?_
    refine jg_adr _ rfl _ rfl rfl (op_assign (.base rfl)) ?_
    refine jg_nil ?_
    refine jn_keep [1, 2, 11, 12] [2] (.cons rfl (.cons rfl (.cons rfl (.cons rfl .nil)))) (.cons rfl .nil) ?_
    refine jn_seq ?_
    refine j_cond rfl (fun h4 => ?_) (fun h4 => ?_)
    · try simp at h4
      refine j_seq ?_
      refine j_region ?_
      refine jg_adr _ rfl _ rfl rfl (op_assign (.base rfl)) ?_
      refine jg_adr _ rfl _ rfl rfl (op_assign (.base rfl)) ?_
      refine jg_nil ?_
      refine jn_keep [4, 5] [] (.cons rfl (.cons rfl .nil)) .nil ?_
      refine jn_seq (j_ret (jr_blk (jr_seq ?_)))
      exact jr_fin2 Tryz.results21 (res_tmp rfl) (res_tmp rfl) ⟨rfl, rfl⟩ (sv22_eq (by subst_vars; first | rfl | (simp [bounds]; done) | (simp [bounds, *]; done) | (unfold bounds; (repeat' split) <;> first | rfl | omega | (simp_all; done) | (simp_all; omega) | (simp_all [allowedM]; done) | (simp_all [allowedM]; omega))))
    · try simp at h4
      refine j_seq ?_
      refine j_region ?_
      refine jg_adr _ rfl _ rfl rfl (op_eql (.base rfl) (.base rfl)) ?_
      refine jg_adr _ rfl _ rfl rfl (op_assign (.base rfl)) ?_
      refine jg_nil ?_
      refine jn_keep [1, 2, 11, 14] [2] (.cons rfl (.cons rfl (.cons rfl (.cons rfl .nil)))) (.cons rfl .nil) ?_
      refine jn_seq ?_
      refine j_cond rfl (fun h6 => ?_) (fun h6 => ?_)
      · try simp at h6
        refine j_seq ?_
        refine j_region ?_
        refine jg_adr _ rfl _ rfl rfl (op_assign (.base rfl)) ?_
        refine jg_adr _ rfl _ rfl rfl (op_assign (.base rfl)) ?_
        refine jg_nil ?_
        refine jn_keep [4, 5] [] (.cons rfl (.cons rfl .nil)) .nil ?_
        refine jn_seq (j_ret (jr_blk (jr_seq ?_)))
        exact jr_fin2 Tryz.results21 (res_tmp rfl) (res_tmp rfl) ⟨rfl, rfl⟩ (sv22_eq (by subst_vars; first | rfl | (simp [bounds]; done) | (simp [bounds, *]; done) | (unfold bounds; (repeat' split) <;> first | rfl | omega | (simp_all; done) | (simp_all; omega) | (simp_all [allowedM]; done) | (simp_all [allowedM]; omega))))
      · try simp at h6
        refine j_seq ?_
        refine j_region ?_
        refine jg_adr _ rfl _ rfl rfl (op_eql (.base rfl) (.base rfl)) ?_
        refine jg_adr _ rfl _ rfl rfl (op_assign (.base rfl)) ?_
        refine jg_nil ?_
        refine jn_keep [1, 2, 11, 16] [2] (.cons rfl (.cons rfl (.cons rfl (.cons rfl .nil)))) (.cons rfl .nil) ?_
        refine jn_seq ?_
        refine j_cond rfl (fun h8 => ?_) (fun h8 => ?_)
        · try simp at h8
          refine j_seq ?_
          refine j_region ?_
          refine jg_adr _ rfl _ rfl rfl (op_assign (.base rfl)) ?_
          refine jg_adr _ rfl _ rfl rfl (op_assign (.base rfl)) ?_
          refine jg_nil ?_
          refine jn_keep [4, 5] [] (.cons rfl (.cons rfl .nil)) .nil ?_
          refine jn_seq (j_ret (jr_blk (jr_seq ?_)))
          exact jr_fin2 Tryz.results21 (res_tmp rfl) (res_tmp rfl) ⟨rfl, rfl⟩ (sv22_eq (by subst_vars; first | rfl | (simp [bounds]; done) | (simp [bounds, *]; done) | (unfold bounds; (repeat' split) <;> first | rfl | omega | (simp_all; done) | (simp_all; omega) | (simp_all [allowedM]; done) | (simp_all [allowedM]; omega))))
        · try simp at h8
          refine j_seq ?_
          refine j_region ?_
          refine jg_adr _ rfl _ rfl rfl (op_eql (.base rfl) (.base rfl)) ?_
          refine jg_adr _ rfl _ rfl rfl (op_assign (.base rfl)) ?_
          refine jg_nil ?_
          refine jn_keep [1, 2, 11, 18] [2] (.cons rfl (.cons rfl (.cons rfl (.cons rfl .nil)))) (.cons rfl .nil) ?_
          refine jn_seq ?_
          refine j_cond rfl (fun h10 => ?_) (fun h10 => ?_)
          · try simp at h10
            refine j_seq ?_
            refine j_region ?_
            refine jg_adr _ rfl _ rfl rfl (op_assign (.base rfl)) ?_
            refine jg_adr _ rfl _ rfl rfl (op_assign (.base rfl)) ?_
            refine jg_nil ?_
            refine jn_keep [4, 5] [] (.cons rfl (.cons rfl .nil)) .nil ?_
            refine jn_seq (j_ret (jr_blk (jr_seq ?_)))
            exact jr_fin2 Tryz.results21 (res_tmp rfl) (res_tmp rfl) ⟨rfl, rfl⟩ (sv22_eq (by subst_vars; first | rfl | (simp [bounds]; done) | (simp [bounds, *]; done) | (unfold bounds; (repeat' split) <;> first | rfl | omega | (simp_all; done) | (simp_all; omega) | (simp_all [allowedM]; done) | (simp_all [allowedM]; omega))))
          · try simp at h10
            refine j_seq ?_
            refine j_region ?_
            refine jg_adr _ rfl _ rfl rfl (op_eql (.base rfl) (.base rfl)) ?_
            refine jg_adr _ rfl _ rfl rfl (op_assign (.base rfl)) ?_
            refine jg_nil ?_
            refine jn_keep [1, 2, 20] [2] (.cons rfl (.cons rfl (.cons rfl .nil))) (.cons rfl .nil) ?_
            refine jn_seq ?_
            refine j_cond rfl (fun h12 => ?_) (fun h12 => ?_)
            · try simp at h12
              refine j_seq ?_
              refine j_region ?_
              refine jg_adr _ rfl _ rfl rfl (op_assign (.base rfl)) ?_
              refine jg_adr _ rfl _ rfl rfl (op_assign (.base rfl)) ?_
              refine jg_nil ?_
              refine jn_keep [4, 5] [] (.cons rfl (.cons rfl .nil)) .nil ?_
              refine jn_seq (j_ret (jr_blk (jr_seq ?_)))
              exact jr_fin2 Tryz.results21 (res_tmp rfl) (res_tmp rfl) ⟨rfl, rfl⟩ (sv22_eq (by subst_vars; first | rfl | (simp [bounds]; done) | (simp [bounds, *]; done) | (unfold bounds; (repeat' split) <;> first | rfl | omega | (simp_all; done) | (simp_all; omega) | (simp_all [allowedM]; done) | (simp_all [allowedM]; omega))))
            · try simp at h12
              refine j_skip (jn_blk (jn_seq (j_seq ?_)))
              obtain ⟨v6, v7, v8⟩ := vt6 h1 h4 h6 h8 h10 h12
              have hm := (hf.2 (en[t.2.toNat]'(by omega)) (List.getElem_mem _)).2.1
              refine j_draw mo (by kernel_rfl) (
                AS.cons _ _ rfl (ga_adr rfl rfl rfl (op_move (.base rfl))) (
                  AS.cons _ _ rfl (ga_adr rfl rfl rfl (op_ofield fld37_1 (.base rfl))) (
                  AS.cons _ _ rfl (ga_adr rfl rfl rfl (op_oload ty3 (.base rfl) rfl rfl ln37_1)) (
                  AS.cons _ _ rfl (ga_adr rfl rfl rfl (op_index Tryz.underlying23 ty52 (.base rfl) (.base rfl) (Int.toNat_of_nonneg v7).symm (List.getElem?_eq_getElem (by first | omega | (simp; done) | (simp; omega) | (simp at hg; omega))))) (
                  AS.cons _ _ rfl (ga_adr rfl rfl rfl (op_field fld52_1 ln52_1 (.base rfl))) (
                  AS.cons _ _ rfl (ga_adr rfl rfl rfl (op_load ty50 (.base rfl))) (
                  AS.cons _ _ rfl (ga_adr rfl rfl rfl (op_len Tryz.underlying50 (.base rfl))) (
                  AS.cons _ _ rfl (ga_adr rfl rfl rfl (op_sub (.base rfl) (.base rfl) (w64 (by omega)))) (
                  AS.cons _ _ rfl (ga_adr rfl rfl rfl (op_assign (.base rfl))) (
                  AS.cons _ _ rfl (ga_adr rfl rfl rfl (op_assign (.base rfl))) (
                  AS.nil))))))))))) ?_
              refine jn_keep [4, 5] [] (.cons rfl (.cons rfl .nil)) .nil ?_
              refine jn_seq (j_ret ?_)
              exact jr_fin2 Tryz.results21 (res_tmp rfl) (res_tmp rfl) ⟨rfl, rfl⟩ (sv22_eq (by unfold bounds; rw [if_neg (by simp [h1]), if_neg h4, if_neg h6, if_neg h8, if_neg h10, if_neg h12]; unfold memb; rw [List.getElem?_eq_getElem (by omega)]; rfl))

theorem literalType_ok (n k : Int) (s : TSignature) : Ct Tryz.prog 41 [.raw (.int .i64 n), .raw (.int .i64 k), .tv rSignature s] (svT (literalType n k s)) := by
  refine ct_intro Tryz.func41 rfl rfl Tryz.ntmps41 rfl rfl ?_
  intro w0 ok0
  refine j_seq ?_
  refine j_region ?_
  refine jg_os _ rfl (op_box (.tv (.base rfl)) rfl rfl rfl) ?_
  refine jg_os _ rfl (op_alloc _ z37 rfl rfl rfl) ?_
  refine jg_adr _ rfl _ rfl rfl (op_assign (.base rfl)) ?_
  refine jg_nil ?_
  refine jn_keep [0, 1, 5, 6] [5, 6] (.cons rfl (.cons rfl (.cons rfl (.cons rfl .nil)))) (.cons rfl (.cons rfl .nil)) ?_
  refine jn_seq (j_seq ?_)
  refine j_region ?_
  refine jg_adr _ rfl _ rfl rfl (op_move (.base rfl)) ?_
  refine jg_adr _ rfl _ rfl rfl (op_build z37 rfl pl37 (.cons (rt' := (rInt .i64)) rfl ln37_0 (.raw (.base rfl) rfl) .nil)) ?_
  refine jg_os _ rfl (op_alloc _ z37 rfl rfl rfl) ?_
  refine jg_os _ rfl (op_ostore ty37 (.base rfl) rfl rfl (Lens.id _) (.tv (.base rfl))) ?_
  refine jg_nil ?_
  refine jn_keep [0, 5, 6, 8] [5, 6, 8] (.cons rfl (.cons rfl (.cons rfl (.cons rfl .nil)))) (.cons rfl (.cons rfl (.cons rfl .nil))) ?_
  refine jn_seq (j_seq (j_seq ?_))
  refine j_region ?_
  refine jg_adr _ rfl _ rfl rfl (op_oload ty37 (.base rfl) rfl rfl (Lens.id _)) ?_
  refine jg_adr _ rfl _ rfl rfl (op_ofield fld27_0 (.base rfl)) ?_
  refine jg_adr _ rfl _ rfl rfl (op_oload ty23 (.base rfl) rfl rfl ln27_0) ?_
  refine jg_adr _ rfl _ rfl rfl (op_call (bounds_ok _ _) (.cons (.base rfl) (.cons (.base rfl) .nil)) rfl rfl) ?_
  refine jg_adr _ rfl _ rfl rfl (op_move (.base rfl)) ?_
  refine jg_adr _ rfl _ rfl rfl (op_ext20 (.base rfl)) ?_
  refine jg_adr _ rfl _ rfl rfl (op_ext21 (.base rfl)) ?_
  refine jg_adr _ rfl _ rfl rfl (op_assign (.base rfl)) ?_
  refine jg_adr _ rfl _ rfl rfl (op_assign (.base rfl)) ?_
  refine jg_nil ?_
  refine jn_keep [0, 6, 8, 9, 10] [6, 8] (.cons rfl (.cons rfl (.cons rfl (.cons rfl (.cons rfl .nil))))) (.cons rfl (.cons rfl .nil)) ?_
  refine jn_seq (j_seq ?_)
  refine j_region ?_
  refine jg_adr _ rfl _ rfl rfl (op_move (.base rfl)) ?_
  refine jg_adr _ rfl _ rfl rfl (op_move (.base rfl)) ?_
  refine jg_adr _ rfl _ rfl rfl (op_lss (.base rfl) (.base rfl)) ?_
  refine jg_adr _ rfl _ rfl rfl (op_move (.base rfl)) ?_
  refine jg_gd _ _ _ _ _ _ rfl rfl rfl rfl rfl (fun hg => op_move (.base rfl)) ?_
  refine jg_gd _ _ _ _ _ _ rfl rfl rfl rfl rfl (fun hg => op_move (.base rfl)) ?_
  refine jg_gd _ _ _ _ _ _ rfl rfl rfl rfl rfl (fun hg => op_gtr (.gd rfl hg) (.gd rfl hg)) ?_
  refine jg_adr _ rfl _ rfl rfl (op_pick_or (.base rfl) (.base rfl) rfl (by intro h; first | (rw [h]; rfl) | (rw [hg, h]; rfl) | (rw [h, hg]; rfl) | simp_all)) ?_
  refine jg_nil ?_
  refine jn_keep [6, 8, 27] [6, 8] (.cons rfl (.cons rfl (.cons rfl .nil))) (.cons rfl (.cons rfl .nil)) ?_
  refine jn_seq ?_
  refine j_cond rfl (fun h3 => ?_) (fun h3 => ?_)
  · try simp at h3
    refine j_seq ?_
    refine j_region ?_
    refine jg_adr _ rfl _ rfl rfl (op_build z37 rfl pl37 .nil) ?_
    refine jg_os _ rfl (op_ostore ty37 (.base rfl) rfl rfl (Lens.id _) (.tv (.base rfl))) ?_
    refine jg_adr _ rfl _ rfl rfl (op_assign (.base rfl)) ?_
    refine jg_nil ?_
    refine jn_keep [6, 7] [6] (.cons rfl (.cons rfl .nil)) (.cons rfl .nil) ?_
    refine jn_seq (j_ret (jr_seq ?_))
    exact jr_fin2 Tryz.results41 (res_cell ty37 rfl rfl rfl (Lens.id rType)) (res_tmp rfl) ⟨rfl, rfl⟩ (svT_eq (by subst_vars; first | rfl | (simp [literalType]; done) | (simp [literalType, *]; done) | (unfold literalType; (repeat' split) <;> first | rfl | omega | (simp_all; done) | (simp_all; omega) | (simp_all [allowedM]; done) | (simp_all [allowedM]; omega))))
  · try simp at h3
    refine j_skip (jn_seq (j_seq ?_))
    refine j_region ?_
    refine jg_adr _ rfl _ rfl rfl (op_oload ty37 (.base rfl) rfl rfl (Lens.id _)) ?_
    refine jg_os _ rfl (op_ostore ty37 (.base rfl) rfl rfl (Lens.id _) (.tv (.base rfl))) ?_
    refine jg_adr _ rfl _ rfl rfl (op_assign (.base rfl)) ?_
    refine jg_nil ?_
    refine jn_keep [6, 7] [6] (.cons rfl (.cons rfl .nil)) (.cons rfl .nil) ?_
    refine jn_seq (j_ret ?_)
    exact jr_fin2 Tryz.results41 (res_cell ty37 rfl rfl rfl (Lens.id rType)) (res_tmp rfl) ⟨rfl, rfl⟩ (svT_eq (by subst_vars; first | rfl | (simp [literalType]; done) | (simp [literalType, *]; done) | (unfold literalType; (repeat' split) <;> first | rfl | omega | (simp_all; done) | (simp_all; omega) | (simp_all [allowedM]; done) | (simp_all [allowedM]; omega))))

theorem enumType_ok (n : Int) (s : TSignature) (hn : n ≤ 9223372036854775807) : Ct Tryz.prog 42 [.raw (.int .i64 n), .tv rSignature s] (svT (enumType n s)) := by
  refine ct_intro Tryz.func42 rfl rfl Tryz.ntmps42 rfl rfl ?_
  intro w0 ok0
  refine j_seq ?_
  refine j_region ?_
  refine jg_os _ rfl (op_box (.tv (.base rfl)) rfl rfl rfl) ?_
  refine jg_os _ rfl (op_alloc _ z37 rfl rfl rfl) ?_
  refine jg_adr _ rfl _ rfl rfl (op_assign (.base rfl)) ?_
  refine jg_nil ?_
  refine jn_keep [0, 3, 4] [3, 4] (.cons rfl (.cons rfl (.cons rfl .nil))) (.cons rfl (.cons rfl .nil)) ?_
  refine jn_seq (j_seq (j_seq ?_))
  refine j_region ?_
  refine jg_adr _ rfl _ rfl rfl (op_move (.base rfl)) ?_
  refine jg_adr _ rfl _ rfl rfl (op_lss (.base rfl) (.base rfl)) ?_
  refine jg_nil ?_
  refine jn_keep [0, 3, 4, 9] [3, 4] (.cons rfl (.cons rfl (.cons rfl (.cons rfl .nil)))) (.cons rfl (.cons rfl .nil)) ?_
  refine jn_seq ?_
  refine j_cond rfl (fun h1 => ?_) (fun h1 => ?_)
  · try simp at h1
    refine j_seq ?_
    refine j_region ?_
    refine jg_adr _ rfl _ rfl rfl (op_build z37 rfl pl37 .nil) ?_
    refine jg_os _ rfl (op_ostore ty37 (.base rfl) rfl rfl (Lens.id _) (.tv (.base rfl))) ?_
    refine jg_adr _ rfl _ rfl rfl (op_assign (.base rfl)) ?_
    refine jg_nil ?_
    refine jn_keep [4, 5] [4] (.cons rfl (.cons rfl .nil)) (.cons rfl .nil) ?_
    refine jn_seq (j_ret (jr_seq ?_))
    exact jr_fin2 Tryz.results42 (res_cell ty37 rfl rfl rfl (Lens.id rType)) (res_tmp rfl) ⟨rfl, rfl⟩ (svT_eq (by subst_vars; first | rfl | (simp [enumType]; done) | (simp [enumType, *]; done) | (unfold enumType; (repeat' split) <;> first | rfl | omega | (simp_all; done) | (simp_all; omega) | (simp_all [allowedM]; done) | (simp_all [allowedM]; omega))))
  · try simp at h1
    refine j_skip (jn_seq (j_seq ?_))
    refine j_region ?_
    refine jg_adr _ rfl _ rfl rfl (op_move (.base rfl)) ?_
    refine jg_adr _ rfl _ rfl rfl (op_quo (.base rfl) (.base rfl) (by omega) (quo64 (by omega) hn (by omega))) ?_
    refine jg_adr _ rfl _ rfl rfl (op_move (.base rfl)) ?_
    refine jg_adr _ rfl _ rfl rfl (op_rem_e (.base rfl) (.base rfl) (by omega) (rem64 (by omega))) ?_
    refine jg_adr _ rfl _ rfl rfl (op_assign (.base rfl)) ?_
    refine jg_adr _ rfl _ rfl rfl (op_assign (.base rfl)) ?_
    refine jg_nil ?_
    refine jn_keep [3, 4, 6, 7] [3, 4] (.cons rfl (.cons rfl (.cons rfl (.cons rfl .nil)))) (.cons rfl (.cons rfl .nil)) ?_
    refine jn_seq (j_seq (j_seq ?_))
    have hq0 : 0 ≤ n / 16 := (by omega)
    refine j_region ?_
    refine jg_adr _ rfl _ rfl rfl (op_move (.base rfl)) ?_
    refine jg_adr _ rfl _ rfl rfl (op_ofield fld27_0 (.base rfl)) ?_
    refine jg_adr _ rfl _ rfl rfl (op_oload ty23 (.base rfl) rfl rfl ln27_0) ?_
    refine jg_adr _ rfl _ rfl rfl (op_len Tryz.underlying23 (.base rfl)) ?_
    refine jg_adr _ rfl _ rfl rfl (op_geq (.base rfl) (.base rfl)) ?_
    refine jg_adr _ rfl _ rfl rfl (op_move (.base rfl)) ?_
    refine jg_gd _ _ _ _ _ _ rfl rfl rfl rfl rfl (fun hg => op_move (.base rfl)) ?_
    refine jg_gd _ _ _ _ _ _ rfl rfl rfl rfl rfl (fun hg => op_ofield fld27_0 (.base rfl)) ?_
    refine jg_gd _ _ _ _ _ _ rfl rfl rfl rfl rfl (fun hg => op_oload ty23 (.gd rfl hg) rfl rfl ln27_0) ?_
    refine jg_gd _ _ _ _ _ _ rfl rfl rfl rfl rfl (fun hg => op_move (.base rfl)) ?_
    refine jg_gd _ _ _ _ _ _ rfl rfl rfl rfl rfl (fun hg => op_index Tryz.underlying23 ty52 (.gd rfl hg) (.gd rfl hg) (Int.toNat_of_nonneg hq0).symm (getD_some (z := (([], []) : TEnum)) (by first | omega | (simp; done) | (simp; omega) | (simp at hg; omega) | (simp at hg; simp; omega)))) ?_
    refine jg_gd _ _ _ _ _ _ rfl rfl rfl rfl rfl (fun hg => op_field fld52_1 ln52_1 (.gd rfl hg)) ?_
    refine jg_gd _ _ _ _ _ _ rfl rfl rfl rfl rfl (fun hg => op_load ty50 (.gd rfl hg)) ?_
    refine jg_gd _ _ _ _ _ _ rfl rfl rfl rfl rfl (fun hg => op_len Tryz.underlying50 (.gd rfl hg)) ?_
    refine jg_gd _ _ _ _ _ _ rfl rfl rfl rfl rfl (fun hg => op_geq (.gd rfl hg) (.gd rfl hg)) ?_
    refine jg_adr _ rfl _ rfl rfl (op_pick_or (.base rfl) (.base rfl) rfl (by intro h; first | (rw [h]; rfl) | (rw [hg, h]; rfl) | (rw [h, hg]; rfl) | simp_all)) ?_
    refine jg_nil ?_
    refine jn_keep [4, 6, 30] [4] (.cons rfl (.cons rfl (.cons rfl .nil))) (.cons rfl .nil) ?_
    refine jn_seq ?_
    refine j_cond rfl (fun h4 => ?_) (fun h4 => ?_)
    · try simp at h4
      refine j_seq ?_
      refine j_region ?_
      refine jg_adr _ rfl _ rfl rfl (op_build z37 rfl pl37 .nil) ?_
      refine jg_os _ rfl (op_ostore ty37 (.base rfl) rfl rfl (Lens.id _) (.tv (.base rfl))) ?_
      refine jg_adr _ rfl _ rfl rfl (op_assign (.base rfl)) ?_
      refine jg_nil ?_
      refine jn_keep [4, 5] [4] (.cons rfl (.cons rfl .nil)) (.cons rfl .nil) ?_
      refine jn_seq (j_ret (jr_seq ?_))
      exact jr_fin2 Tryz.results42 (res_cell ty37 rfl rfl rfl (Lens.id rType)) (res_tmp rfl) ⟨rfl, rfl⟩ (svT_eq (by unfold enumType memb; rw [if_neg (by omega), if_pos h4]))
    · try simp at h4
      refine j_skip (jn_seq (j_seq ?_))
      refine j_region ?_
      refine jg_adr _ rfl _ rfl rfl (op_move (.base rfl)) ?_
      refine jg_adr _ rfl _ rfl rfl (op_build z37 rfl pl37 (.cons (rt' := (rInt .i64)) rfl ln37_0 (.raw (.base rfl) rfl) (.cons (rt' := (rInt .i64)) rfl ln37_1 (.raw (.base rfl) rfl) .nil))) ?_
      refine jg_os _ rfl (op_ostore ty37 (.base rfl) rfl rfl (Lens.id _) (.tv (.base rfl))) ?_
      refine jg_adr _ rfl _ rfl rfl (op_assign (.base rfl)) ?_
      refine jg_nil ?_
      refine jn_keep [4, 5] [4] (.cons rfl (.cons rfl .nil)) (.cons rfl .nil) ?_
      refine jn_seq (j_ret ?_)
      exact jr_fin2 Tryz.results42 (res_cell ty37 rfl rfl rfl (Lens.id rType)) (res_tmp rfl) ⟨rfl, rfl⟩ (svT_eq (by unfold enumType memb; rw [if_neg (by omega), if_neg (by omega)]))

theorem listedType_ok (n : Int) (l : List TType) (s : TSignature) : Ct Tryz.prog 43 [.raw (.int .i64 n), .tv (rSlice rType) l, .tv rSignature s] (svT (listedType n l s)) := by
  refine ct_intro Tryz.func43 rfl rfl Tryz.ntmps43 rfl rfl ?_
  intro w0 ok0
  refine j_seq ?_
  refine j_region ?_
  refine jg_os _ rfl (op_box (.tv (.base rfl)) rfl rfl rfl) ?_
  refine jg_os _ rfl (op_alloc _ z37 rfl rfl rfl) ?_
  refine jg_adr _ rfl _ rfl rfl (op_assign (.base rfl)) ?_
  refine jg_nil ?_
  refine jn_keep [0, 1, 5, 6] [5, 6] (.cons rfl (.cons rfl (.cons rfl (.cons rfl .nil)))) (.cons rfl (.cons rfl .nil)) ?_
  refine jn_seq (j_seq (j_seq ?_))
  refine j_region ?_
  refine jg_adr _ rfl _ rfl rfl (op_move (.base rfl)) ?_
  refine jg_adr _ rfl _ rfl rfl (op_lss (.base rfl) (.base rfl)) ?_
  refine jg_adr _ rfl _ rfl rfl (op_move (.base rfl)) ?_
  refine jg_gd _ _ _ _ _ _ rfl rfl rfl rfl rfl (fun hg => op_move (.base rfl)) ?_
  refine jg_gd _ _ _ _ _ _ rfl rfl rfl rfl rfl (fun hg => op_move (.base rfl)) ?_
  refine jg_gd _ _ _ _ _ _ rfl rfl rfl rfl rfl (fun hg => op_len Tryz.underlying25 (.gd rfl hg)) ?_
  refine jg_gd _ _ _ _ _ _ rfl rfl rfl rfl rfl (fun hg => op_geq (.gd rfl hg) (.gd rfl hg)) ?_
  refine jg_adr _ rfl _ rfl rfl (op_pick_or (.base rfl) (.base rfl) rfl (by intro h; first | (rw [h]; rfl) | (rw [hg, h]; rfl) | (rw [h, hg]; rfl) | simp_all)) ?_
  refine jg_nil ?_
  refine jn_keep [0, 1, 5, 6, 15] [5, 6] (.cons rfl (.cons rfl (.cons rfl (.cons rfl (.cons rfl .nil))))) (.cons rfl (.cons rfl .nil)) ?_
  refine jn_seq ?_
  refine j_cond rfl (fun h1 => ?_) (fun h1 => ?_)
  · try simp at h1
    refine j_seq ?_
    refine j_region ?_
    refine jg_adr _ rfl _ rfl rfl (op_build z37 rfl pl37 .nil) ?_
    refine jg_os _ rfl (op_ostore ty37 (.base rfl) rfl rfl (Lens.id _) (.tv (.base rfl))) ?_
    refine jg_adr _ rfl _ rfl rfl (op_assign (.base rfl)) ?_
    refine jg_nil ?_
    refine jn_keep [6, 7] [6] (.cons rfl (.cons rfl .nil)) (.cons rfl .nil) ?_
    refine jn_seq (j_ret (jr_seq ?_))
    exact jr_fin2 Tryz.results43 (res_cell ty37 rfl rfl rfl (Lens.id rType)) (res_tmp rfl) ⟨rfl, rfl⟩ (svT_eq (by subst_vars; first | rfl | (simp [listedType]; done) | (simp [listedType, *]; done) | (unfold listedType; (repeat' split) <;> first | rfl | omega | (simp_all; done) | (simp_all; omega) | (simp_all [allowedM]; done) | (simp_all [allowedM]; omega))))
  · try simp at h1
    refine j_skip (jn_seq (j_seq (j_seq ?_)))
    have hb := h1.2
    refine j_draw mo (by kernel_rfl) (
      AS.cons _ _ rfl (ga_adr rfl rfl rfl (op_move (.base rfl))) (
        AS.cons _ _ rfl (ga_adr rfl rfl rfl (op_move (.base rfl))) (
        AS.cons _ _ rfl (ga_adr rfl rfl rfl (op_index Tryz.underlying25 ty37 (.base rfl) (.base rfl) (Int.toNat_of_nonneg h1.1).symm (List.getElem?_eq_getElem (by first | omega | (simp; done) | (simp; omega) | (simp at hg; omega))))) (
        AS.cons _ _ rfl (ga_adr rfl rfl rfl (op_load ty37 (.base rfl))) (
        AS.cons _ _ rfl (ga_adr rfl rfl rfl (op_ofield fld27_0 (.base rfl))) (
        AS.cons _ _ rfl (ga_adr rfl rfl rfl (op_oload ty23 (.base rfl) rfl rfl ln27_0)) (
        AS.cons _ _ rfl (ga_adr rfl rfl rfl (op_call (validType_ok _ _) (.cons (.base rfl) (.cons (.base rfl) .nil)) rfl rfl)) (
        AS.cons _ _ rfl (ga_adr rfl rfl rfl (op_not (.base rfl))) (
        AS.nil))))))))) ?_
    refine jn_keep [0, 1, 6, 24] [6] (.cons rfl (.cons rfl (.cons rfl (.cons rfl .nil)))) (.cons rfl .nil) ?_
    refine jn_seq ?_
    refine j_cond rfl (fun h3 => ?_) (fun h3 => ?_)
    · try simp at h3
      refine j_seq ?_
      refine j_region ?_
      refine jg_adr _ rfl _ rfl rfl (op_build z37 rfl pl37 .nil) ?_
      refine jg_os _ rfl (op_ostore ty37 (.base rfl) rfl rfl (Lens.id _) (.tv (.base rfl))) ?_
      refine jg_adr _ rfl _ rfl rfl (op_assign (.base rfl)) ?_
      refine jg_nil ?_
      refine jn_keep [6, 7] [6] (.cons rfl (.cons rfl .nil)) (.cons rfl .nil) ?_
      refine jn_seq (j_ret (jr_seq ?_))
      exact jr_fin2 Tryz.results43 (res_cell ty37 rfl rfl rfl (Lens.id rType)) (res_tmp rfl) ⟨rfl, rfl⟩ (svT_eq (by unfold listedType; rw [if_neg (by omega), nthT_eq (by omega), if_pos h3]))
    · try simp at h3
      refine j_skip (jn_seq (j_seq ?_))
      refine j_region ?_
      refine jg_adr _ rfl _ rfl rfl (op_move (.base rfl)) ?_
      refine jg_adr _ rfl _ rfl rfl (op_move (.base rfl)) ?_
      refine jg_adr _ rfl _ rfl rfl (op_index Tryz.underlying25 ty37 (.base rfl) (.base rfl) (Int.toNat_of_nonneg h1.1).symm (List.getElem?_eq_getElem (by first | omega | (simp; done) | (simp; omega) | (simp at hg; omega)))) ?_
      refine jg_adr _ rfl _ rfl rfl (op_load ty37 (.base rfl)) ?_
      refine jg_os _ rfl (op_ostore ty37 (.base rfl) rfl rfl (Lens.id _) (.tv (.base rfl))) ?_
      refine jg_adr _ rfl _ rfl rfl (op_assign (.base rfl)) ?_
      refine jg_nil ?_
      refine jn_keep [6, 7] [6] (.cons rfl (.cons rfl .nil)) (.cons rfl .nil) ?_
      refine jn_seq (j_ret ?_)
      exact jr_fin2 Tryz.results43 (res_cell ty37 rfl rfl rfl (Lens.id rType)) (res_tmp rfl) ⟨rfl, rfl⟩ (svT_eq (by unfold listedType; rw [if_neg (by omega), nthT_eq (by omega), if_neg (by simp [h3])]))


def allowedM (op k : Int) : Bool := if op = 36 then k == 2 || k == 3 else if op = 37 ∨ op = 38 then k == 1 else if op = 39 then isNumber k || k == 5 else false
def memberType (d : TNode) (s : TSignature) : TType × Int :=
  if s.2.2.2.2.2 = false then ((0, 0), 6) else if d.1 = 35 then ((2, 0), 0) else
  if (listedType d.2 s.2.2.2.2.1 s).2 ≠ 0 then ((0, 0), (listedType d.2 s.2.2.2.2.1 s).2) else
  if allowedM d.1 (listedType d.2 s.2.2.2.2.1 s).1.1 = true then ((listedType d.2 s.2.2.2.2.1 s).1, 0) else ((0, 0), 8)
def productType (op a b : Int) : TType × Bool :=
  if op = 14 then ((a, 0), b == 4 && (a == 3 || a == 4)) else if b = 2 then ((a, 0), a == 2 || a == 3) else if op = 15 ∧ a = 3 ∧ b = 3 then ((4, 0), true) else ((0, 0), false)

theorem productType_ok (n a b : Int) : Ct Tryz.prog 69 [.raw (.int .i64 n), .raw (.int .i64 a), .raw (.int .i64 b)] (svB (productType n a b)) := by
  refine ct_intro Tryz.func69 rfl rfl Tryz.ntmps69 rfl rfl ?_
  intro w0 ok0
  refine j_seq ?_
  refine j_region ?_
  refine jg_os _ rfl (op_alloc _ z37 rfl rfl rfl) ?_
  refine jg_adr _ rfl _ rfl rfl (op_assign (.base rfl)) ?_
  refine jg_nil ?_
  refine jn_keep [0, 1, 2, 6] [6] (.cons rfl (.cons rfl (.cons rfl (.cons rfl .nil)))) (.cons rfl .nil) ?_
  refine jn_seq (j_seq (j_block (j_seq ?_)))
  refine j_region ?_
  refine jg_adr _ rfl _ rfl rfl (op_move (.base rfl)) ?_
  refine jg_adr _ rfl _ rfl rfl (op_eql (.base rfl) (.base rfl)) ?_
  refine jg_adr _ rfl _ rfl rfl (op_assign (.base rfl)) ?_
  refine jg_nil ?_
  refine jn_keep [0, 1, 2, 6, 8] [6] (.cons rfl (.cons rfl (.cons rfl (.cons rfl (.cons rfl .nil))))) (.cons rfl .nil) ?_
  refine jn_seq ?_
  refine j_cond rfl (fun h1 => ?_) (fun h1 => ?_)
  · try simp at h1
    refine j_seq ?_
    refine j_region ?_
    refine jg_adr _ rfl _ rfl rfl (op_move (.base rfl)) ?_
    refine jg_adr _ rfl _ rfl rfl (op_build z37 rfl pl37 (.cons (rt' := (rInt .i64)) rfl ln37_0 (.raw (.base rfl) rfl) .nil)) ?_
    refine jg_adr _ rfl _ rfl rfl (op_move (.base rfl)) ?_
    refine jg_adr _ rfl _ rfl rfl (op_eql (.base rfl) (.base rfl)) ?_
    refine jg_adr _ rfl _ rfl rfl (op_move (.base rfl)) ?_
    refine jg_gd _ _ _ _ _ _ rfl rfl rfl rfl rfl (fun hg => op_move (.base rfl)) ?_
    refine jg_gd _ _ _ _ _ _ rfl rfl rfl rfl rfl (fun hg => op_eql (.gd rfl hg) (.base rfl)) ?_
    refine jg_gd _ _ _ _ _ _ rfl rfl rfl rfl rfl (fun hg => op_move (.gd rfl hg)) ?_
    refine jg_gd2 _ _ _ _ _ _ _ rfl rfl rfl rfl rfl (fun hg => op_move (.base rfl)) ?_
    refine jg_gd2 _ _ _ _ _ _ _ rfl rfl rfl rfl rfl (fun hg => op_eql (.gd rfl hg) (.base rfl)) ?_
    refine jg_gd _ _ _ _ _ _ rfl rfl rfl rfl rfl (fun hg => op_pick_or (.gd rfl hg) (.base rfl) rfl (by intro h; first | (rw [h]; rfl) | (rw [hg, h]; rfl) | (rw [h, hg]; rfl) | simp_all)) ?_
    refine jg_adr _ rfl _ rfl rfl (op_pick_and (.base rfl) (.base rfl) rfl (by intro h; first | (rw [h]; rfl) | (rw [hg, h]; rfl) | (rw [h, hg]; rfl) | simp_all)) ?_
    refine jg_os _ rfl (op_ostore ty37 (.base rfl) rfl rfl (Lens.id _) (.tv (.base rfl))) ?_
    refine jg_adr _ rfl _ rfl rfl (op_assign (.base rfl)) ?_
    refine jg_nil ?_
    refine jn_keep [6, 7] [6] (.cons rfl (.cons rfl .nil)) (.cons rfl .nil) ?_
    refine jn_seq (j_ret (jr_blk (jr_seq ?_)))
    exact jr_fin2 Tryz.results69 (res_cell ty37 rfl rfl rfl (Lens.id rType)) (res_tmp rfl) ⟨rfl, rfl⟩ (svB_eq (by subst_vars; first | rfl | (simp [productType]; done) | (simp [productType, *]; done) | (unfold productType; (repeat' split) <;> first | rfl | omega | (simp_all; done) | (simp_all; omega) | (simp_all [allowedM]; done) | (simp_all [allowedM]; omega))))
  · try simp at h1
    refine j_seq ?_
    refine j_region ?_
    refine jg_adr _ rfl _ rfl rfl (op_move (.base rfl)) ?_
    refine jg_adr _ rfl _ rfl rfl (op_eql (.base rfl) (.base rfl)) ?_
    refine jg_adr _ rfl _ rfl rfl (op_assign (.base rfl)) ?_
    refine jg_nil ?_
    refine jn_keep [0, 1, 2, 6, 23] [6] (.cons rfl (.cons rfl (.cons rfl (.cons rfl (.cons rfl .nil))))) (.cons rfl .nil) ?_
    refine jn_seq ?_
    refine j_cond rfl (fun h3 => ?_) (fun h3 => ?_)
    · try simp at h3
      refine j_seq ?_
      refine j_region ?_
      refine jg_adr _ rfl _ rfl rfl (op_move (.base rfl)) ?_
      refine jg_adr _ rfl _ rfl rfl (op_build z37 rfl pl37 (.cons (rt' := (rInt .i64)) rfl ln37_0 (.raw (.base rfl) rfl) .nil)) ?_
      refine jg_adr _ rfl _ rfl rfl (op_move (.base rfl)) ?_
      refine jg_adr _ rfl _ rfl rfl (op_eql (.base rfl) (.base rfl)) ?_
      refine jg_adr _ rfl _ rfl rfl (op_move (.base rfl)) ?_
      refine jg_gd _ _ _ _ _ _ rfl rfl rfl rfl rfl (fun hg => op_move (.base rfl)) ?_
      refine jg_gd _ _ _ _ _ _ rfl rfl rfl rfl rfl (fun hg => op_eql (.gd rfl hg) (.base rfl)) ?_
      refine jg_adr _ rfl _ rfl rfl (op_pick_or (.base rfl) (.base rfl) rfl (by intro h; first | (rw [h]; rfl) | (rw [hg, h]; rfl) | (rw [h, hg]; rfl) | simp_all)) ?_
      refine jg_os _ rfl (op_ostore ty37 (.base rfl) rfl rfl (Lens.id _) (.tv (.base rfl))) ?_
      refine jg_adr _ rfl _ rfl rfl (op_assign (.base rfl)) ?_
      refine jg_nil ?_
      refine jn_keep [6, 7] [6] (.cons rfl (.cons rfl .nil)) (.cons rfl .nil) ?_
      refine jn_seq (j_ret (jr_blk (jr_seq ?_)))
      exact jr_fin2 Tryz.results69 (res_cell ty37 rfl rfl rfl (Lens.id rType)) (res_tmp rfl) ⟨rfl, rfl⟩ (svB_eq (by subst_vars; first | rfl | (simp [productType]; done) | (simp [productType, *]; done) | (unfold productType; (repeat' split) <;> first | rfl | omega | (simp_all; done) | (simp_all; omega) | (simp_all [allowedM]; done) | (simp_all [allowedM]; omega))))
    · try simp at h3
      refine j_seq ?_
      refine j_region ?_
      refine jg_adr _ rfl _ rfl rfl (op_move (.base rfl)) ?_
      refine jg_adr _ rfl _ rfl rfl (op_eql (.base rfl) (.base rfl)) ?_
      refine jg_adr _ rfl _ rfl rfl (op_move (.base rfl)) ?_
      refine jg_gd _ _ _ _ _ _ rfl rfl rfl rfl rfl (fun hg => op_move (.base rfl)) ?_
      refine jg_gd _ _ _ _ _ _ rfl rfl rfl rfl rfl (fun hg => op_eql (.gd rfl hg) (.base rfl)) ?_
      refine jg_adr _ rfl _ rfl rfl (op_pick_and (.base rfl) (.base rfl) rfl (by intro h; first | (rw [h]; rfl) | (rw [hg, h]; rfl) | (rw [h, hg]; rfl) | simp_all)) ?_
      refine jg_adr _ rfl _ rfl rfl (op_move (.base rfl)) ?_
      refine jg_gd _ _ _ _ _ _ rfl rfl rfl rfl rfl (fun hg => op_move (.base rfl)) ?_
      refine jg_gd _ _ _ _ _ _ rfl rfl rfl rfl rfl (fun hg => op_eql (.gd rfl hg) (.base rfl)) ?_
      refine jg_adr _ rfl _ rfl rfl (op_pick_and (.base rfl) (.base rfl) rfl (by intro h; first | (rw [h]; rfl) | (rw [hg, h]; rfl) | (rw [h, hg]; rfl) | simp_all)) ?_
      refine jg_adr _ rfl _ rfl rfl (op_assign (.base rfl)) ?_
      refine jg_nil ?_
      refine jn_keep [6, 34] [6] (.cons rfl (.cons rfl .nil)) (.cons rfl .nil) ?_
      refine jn_seq ?_
      refine j_cond rfl (fun h5 => ?_) (fun h5 => ?_)
      · try simp at h5
        refine j_seq ?_
        refine j_region ?_
        refine jg_adr _ rfl _ rfl rfl (op_build z37 rfl pl37 (.cons (rt' := (rInt .i64)) rfl ln37_0 (.raw (.base rfl) rfl) .nil)) ?_
        refine jg_os _ rfl (op_ostore ty37 (.base rfl) rfl rfl (Lens.id _) (.tv (.base rfl))) ?_
        refine jg_adr _ rfl _ rfl rfl (op_assign (.base rfl)) ?_
        refine jg_nil ?_
        refine jn_keep [6, 7] [6] (.cons rfl (.cons rfl .nil)) (.cons rfl .nil) ?_
        refine jn_seq (j_ret (jr_blk (jr_seq ?_)))
        exact jr_fin2 Tryz.results69 (res_cell ty37 rfl rfl rfl (Lens.id rType)) (res_tmp rfl) ⟨rfl, rfl⟩ (svB_eq (by subst_vars; first | rfl | (simp [productType]; done) | (simp [productType, *]; done) | (unfold productType; (repeat' split) <;> first | rfl | omega | (simp_all; done) | (simp_all; omega) | (simp_all [allowedM]; done) | (simp_all [allowedM]; omega))))
      · try simp at h5
        refine j_skip (jn_blk (jn_seq (j_seq ?_)))
        refine j_region ?_
        refine jg_adr _ rfl _ rfl rfl (op_build z37 rfl pl37 .nil) ?_
        refine jg_os _ rfl (op_ostore ty37 (.base rfl) rfl rfl (Lens.id _) (.tv (.base rfl))) ?_
        refine jg_adr _ rfl _ rfl rfl (op_assign (.base rfl)) ?_
        refine jg_nil ?_
        refine jn_keep [6, 7] [6] (.cons rfl (.cons rfl .nil)) (.cons rfl .nil) ?_
        refine jn_seq (j_ret ?_)
        exact jr_fin2 Tryz.results69 (res_cell ty37 rfl rfl rfl (Lens.id rType)) (res_tmp rfl) ⟨rfl, rfl⟩ (svB_eq (by subst_vars; first | rfl | (simp [productType]; done) | (simp [productType, *]; done) | (unfold productType; (repeat' split) <;> first | rfl | omega | (simp_all; done) | (simp_all; omega) | (simp_all [allowedM]; done) | (simp_all [allowedM]; omega))))

theorem memberType_ok (d : TNode) (s : TSignature) : Ct Tryz.prog 45 [.tv rNode d, .tv rSignature s] (svT (memberType d s)) := by
  refine ct_intro Tryz.func45 rfl rfl Tryz.ntmps45 rfl rfl ?_
  intro w0 ok0
  refine j_seq ?_
  refine j_region ?_
  refine jg_os _ rfl (op_box (.tv (.base rfl)) rfl rfl rfl) ?_
  refine jg_os _ rfl (op_box (.tv (.base rfl)) rfl rfl rfl) ?_
  refine jg_os _ rfl (op_alloc _ z37 rfl rfl rfl) ?_
  refine jg_adr _ rfl _ rfl rfl (op_assign (.base rfl)) ?_
  refine jg_nil ?_
  refine jn_keep [2, 3, 4] [2, 3, 4] (.cons rfl (.cons rfl (.cons rfl .nil))) (.cons rfl (.cons rfl (.cons rfl .nil))) ?_
  refine jn_seq (j_seq (j_seq ?_))
  refine j_region ?_
  refine jg_adr _ rfl _ rfl rfl (op_ofield fld27_5 (.base rfl)) ?_
  refine jg_adr _ rfl _ rfl rfl (op_oload ty4 (.base rfl) rfl rfl ln27_5) ?_
  refine jg_adr _ rfl _ rfl rfl (op_not (.base rfl)) ?_
  refine jg_nil ?_
  refine jn_keep [2, 3, 4, 11] [2, 3, 4] (.cons rfl (.cons rfl (.cons rfl (.cons rfl .nil)))) (.cons rfl (.cons rfl (.cons rfl .nil))) ?_
  refine jn_seq ?_
  refine j_cond rfl (fun h1 => ?_) (fun h1 => ?_)
  · try simp at h1
    refine j_seq ?_
    refine j_region ?_
    refine jg_adr _ rfl _ rfl rfl (op_build z37 rfl pl37 .nil) ?_
    refine jg_os _ rfl (op_ostore ty37 (.base rfl) rfl rfl (Lens.id _) (.tv (.base rfl))) ?_
    refine jg_adr _ rfl _ rfl rfl (op_assign (.base rfl)) ?_
    refine jg_nil ?_
    refine jn_keep [4, 5] [4] (.cons rfl (.cons rfl .nil)) (.cons rfl .nil) ?_
    refine jn_seq (j_ret (jr_seq ?_))
    exact jr_fin2 Tryz.results45 (res_cell ty37 rfl rfl rfl (Lens.id rType)) (res_tmp rfl) ⟨rfl, rfl⟩ (svT_eq (by subst_vars; first | rfl | (simp [memberType, allowedM]; done) | (simp [memberType, allowedM, *]; done) | (unfold memberType; (repeat' split) <;> first | rfl | omega | (simp_all; done) | (simp_all; omega) | (simp_all [allowedM]; done) | (simp_all [allowedM]; omega))))
  · try simp at h1
    refine j_skip (jn_seq (j_seq (j_seq ?_)))
    refine j_region ?_
    refine jg_adr _ rfl _ rfl rfl (op_ofield fld56_0 (.base rfl)) ?_
    refine jg_adr _ rfl _ rfl rfl (op_oload ty3 (.base rfl) rfl rfl ln56_0) ?_
    refine jg_adr _ rfl _ rfl rfl (op_eql (.base rfl) (.base rfl)) ?_
    refine jg_nil ?_
    refine jn_keep [2, 3, 4, 15] [2, 3, 4] (.cons rfl (.cons rfl (.cons rfl (.cons rfl .nil)))) (.cons rfl (.cons rfl (.cons rfl .nil))) ?_
    refine jn_seq ?_
    refine j_cond rfl (fun h3 => ?_) (fun h3 => ?_)
    · try simp at h3
      refine j_seq ?_
      refine j_region ?_
      refine jg_adr _ rfl _ rfl rfl (op_build z37 rfl pl37 (.cons (rt' := (rInt .i64)) rfl ln37_0 (.raw (.base rfl) rfl) .nil)) ?_
      refine jg_os _ rfl (op_ostore ty37 (.base rfl) rfl rfl (Lens.id _) (.tv (.base rfl))) ?_
      refine jg_adr _ rfl _ rfl rfl (op_assign (.base rfl)) ?_
      refine jg_nil ?_
      refine jn_keep [4, 5] [4] (.cons rfl (.cons rfl .nil)) (.cons rfl .nil) ?_
      refine jn_seq (j_ret (jr_seq ?_))
      exact jr_fin2 Tryz.results45 (res_cell ty37 rfl rfl rfl (Lens.id rType)) (res_tmp rfl) ⟨rfl, rfl⟩ (svT_eq (by subst_vars; first | rfl | (simp [memberType, allowedM]; done) | (simp [memberType, allowedM, *]; done) | (unfold memberType; (repeat' split) <;> first | rfl | omega | (simp_all; done) | (simp_all; omega) | (simp_all [allowedM]; done) | (simp_all [allowedM]; omega))))
    · try simp at h3
      refine j_skip (jn_seq (j_seq ?_))
      refine j_region ?_
      refine jg_adr _ rfl _ rfl rfl (op_ofield fld56_1 (.base rfl)) ?_
      refine jg_adr _ rfl _ rfl rfl (op_oload ty3 (.base rfl) rfl rfl ln56_1) ?_
      refine jg_adr _ rfl _ rfl rfl (op_ofield fld27_4 (.base rfl)) ?_
      refine jg_adr _ rfl _ rfl rfl (op_oload ty25 (.base rfl) rfl rfl ln27_4) ?_
      refine jg_adr _ rfl _ rfl rfl (op_oload ty27 (.base rfl) rfl rfl (Lens.id _)) ?_
      refine jg_adr _ rfl _ rfl rfl (op_call (listedType_ok _ _ _) (.cons (.base rfl) (.cons (.base rfl) (.cons (.base rfl) .nil))) rfl rfl) ?_
      refine jg_adr _ rfl _ rfl rfl (op_move (.base rfl)) ?_
      refine jg_adr _ rfl _ rfl rfl (op_ext20 (.base rfl)) ?_
      refine jg_adr _ rfl _ rfl rfl (op_ext21 (.base rfl)) ?_
      refine jg_os _ rfl (op_alloc _ z37 rfl rfl rfl) ?_
      refine jg_os _ rfl (op_ostore ty37 (.base rfl) rfl rfl (Lens.id _) (.tv (.base rfl))) ?_
      refine jg_adr _ rfl _ rfl rfl (op_assign (.base rfl)) ?_
      refine jg_nil ?_
      refine jn_keep [2, 4, 6, 7] [2, 4, 6] (.cons rfl (.cons rfl (.cons rfl (.cons rfl .nil)))) (.cons rfl (.cons rfl (.cons rfl .nil))) ?_
      refine jn_seq (j_seq (j_seq ?_))
      refine j_region ?_
      refine jg_adr _ rfl _ rfl rfl (op_move (.base rfl)) ?_
      refine jg_adr _ rfl _ rfl rfl (op_neq (.base rfl) (.base rfl)) ?_
      refine jg_nil ?_
      refine jn_keep [2, 4, 6, 7, 27] [2, 4, 6] (.cons rfl (.cons rfl (.cons rfl (.cons rfl (.cons rfl .nil))))) (.cons rfl (.cons rfl (.cons rfl .nil))) ?_
      refine jn_seq ?_
      refine j_cond rfl (fun h6 => ?_) (fun h6 => ?_)
      · try simp at h6
        refine j_seq ?_
        refine j_region ?_
        refine jg_adr _ rfl _ rfl rfl (op_build z37 rfl pl37 .nil) ?_
        refine jg_adr _ rfl _ rfl rfl (op_move (.base rfl)) ?_
        refine jg_os _ rfl (op_ostore ty37 (.base rfl) rfl rfl (Lens.id _) (.tv (.base rfl))) ?_
        refine jg_adr _ rfl _ rfl rfl (op_assign (.base rfl)) ?_
        refine jg_nil ?_
        refine jn_keep [4, 5] [4] (.cons rfl (.cons rfl .nil)) (.cons rfl .nil) ?_
        refine jn_seq (j_ret (jr_seq ?_))
        exact jr_fin2 Tryz.results45 (res_cell ty37 rfl rfl rfl (Lens.id rType)) (res_tmp rfl) ⟨rfl, rfl⟩ (svT_eq (by subst_vars; first | rfl | (simp [memberType, allowedM]; done) | (simp [memberType, allowedM, *]; done) | (unfold memberType; (repeat' split) <;> first | rfl | omega | (simp_all; done) | (simp_all; omega) | (simp_all [allowedM]; done) | (simp_all [allowedM]; omega))))
      · try simp at h6
        refine j_skip (jn_seq (j_seq ?_))
        refine j_region ?_
        refine jg_adr _ rfl _ rfl rfl (op_assign (.base rfl)) ?_
        refine jg_nil ?_
        refine jn_keep [2, 4, 6, 8] [2, 4, 6] (.cons rfl (.cons rfl (.cons rfl (.cons rfl .nil)))) (.cons rfl (.cons rfl (.cons rfl .nil))) ?_
        refine jn_seq (j_seq (j_seq ?_))
        refine j_region ?_
        refine jg_adr _ rfl _ rfl rfl (op_ofield fld56_0 (.base rfl)) ?_
        refine jg_adr _ rfl _ rfl rfl (op_oload ty3 (.base rfl) rfl rfl ln56_0) ?_
        refine jg_nil ?_
        refine jn_keep [4, 6, 8, 31] [4, 6] (.cons rfl (.cons rfl (.cons rfl (.cons rfl .nil)))) (.cons rfl (.cons rfl .nil)) ?_
        refine jn_seq (j_block (j_seq ?_))
        refine j_region ?_
        refine jg_adr _ rfl _ rfl rfl (op_eql (.base rfl) (.base rfl)) ?_
        refine jg_adr _ rfl _ rfl rfl (op_assign (.base rfl)) ?_
        refine jg_nil ?_
        refine jn_keep [4, 6, 8, 31, 32] [4, 6] (.cons rfl (.cons rfl (.cons rfl (.cons rfl (.cons rfl .nil))))) (.cons rfl (.cons rfl .nil)) ?_
        refine jn_seq ?_
        refine j_cond rfl (fun h10 => ?_) (fun h10 => ?_)
        · try simp at h10
          refine j_region ?_
          refine jg_adr _ rfl _ rfl rfl (op_ofield fld37_0 (.base rfl)) ?_
          refine jg_adr _ rfl _ rfl rfl (op_oload ty3 (.base rfl) rfl rfl ln37_0) ?_
          refine jg_adr _ rfl _ rfl rfl (op_eql (.base rfl) (.base rfl)) ?_
          refine jg_adr _ rfl _ rfl rfl (op_move (.base rfl)) ?_
          refine jg_gd _ _ _ _ _ _ rfl rfl rfl rfl rfl (fun hg => op_ofield fld37_0 (.base rfl)) ?_
          refine jg_gd _ _ _ _ _ _ rfl rfl rfl rfl rfl (fun hg => op_oload ty3 (.gd rfl hg) rfl rfl ln37_0) ?_
          refine jg_gd _ _ _ _ _ _ rfl rfl rfl rfl rfl (fun hg => op_eql (.gd rfl hg) (.base rfl)) ?_
          refine jg_adr _ rfl _ rfl rfl (op_pick_or (.base rfl) (.base rfl) rfl (by intro h; first | (rw [h]; rfl) | (rw [hg, h]; rfl) | (rw [h, hg]; rfl) | simp_all)) ?_
          refine jg_adr _ rfl _ rfl rfl (op_assign (.base rfl)) ?_
          refine jg_nil ?_
          refine jn_keep [4, 6, 8] [4, 6] (.cons rfl (.cons rfl (.cons rfl .nil))) (.cons rfl (.cons rfl .nil)) ?_
          refine jn_blk (jn_seq (j_seq (j_seq ?_)))
          refine j_region ?_
          refine jg_adr _ rfl _ rfl rfl (op_move (.base rfl)) ?_
          refine jg_adr _ rfl _ rfl rfl (op_not (.base rfl)) ?_
          refine jg_nil ?_
          refine jn_keep [4, 6, 59] [4, 6] (.cons rfl (.cons rfl (.cons rfl .nil))) (.cons rfl (.cons rfl .nil)) ?_
          refine jn_seq ?_
          refine j_cond rfl (fun h17 => ?_) (fun h17 => ?_)
          · try simp at h17
            all_goals
              refine j_seq ?_
              refine j_region ?_
              refine jg_adr _ rfl _ rfl rfl (op_build z37 rfl pl37 .nil) ?_
              refine jg_os _ rfl (op_ostore ty37 (.base rfl) rfl rfl (Lens.id _) (.tv (.base rfl))) ?_
              refine jg_adr _ rfl _ rfl rfl (op_assign (.base rfl)) ?_
              refine jg_nil ?_
              refine jn_keep [4, 5] [4] (.cons rfl (.cons rfl .nil)) (.cons rfl .nil) ?_
              refine jn_seq (j_ret (jr_seq ?_))
              exact jr_fin2 Tryz.results45 (res_cell ty37 rfl rfl rfl (Lens.id rType)) (res_tmp rfl) ⟨rfl, rfl⟩ (svT_eq (by subst_vars; first | rfl | (simp [memberType, allowedM]; done) | (simp [memberType, allowedM, *]; done) | (unfold memberType; (repeat' split) <;> first | rfl | omega | (simp_all; done) | (simp_all; omega) | (simp_all [allowedM]; done) | (simp_all [allowedM]; omega))))
          · try simp at h17
            all_goals
              refine j_skip (jn_seq (j_seq ?_))
              refine j_region ?_
              refine jg_adr _ rfl _ rfl rfl (op_oload ty37 (.base rfl) rfl rfl (Lens.id _)) ?_
              refine jg_os _ rfl (op_ostore ty37 (.base rfl) rfl rfl (Lens.id _) (.tv (.base rfl))) ?_
              refine jg_adr _ rfl _ rfl rfl (op_assign (.base rfl)) ?_
              refine jg_nil ?_
              refine jn_keep [4, 5] [4] (.cons rfl (.cons rfl .nil)) (.cons rfl .nil) ?_
              refine jn_seq (j_ret ?_)
              exact jr_fin2 Tryz.results45 (res_cell ty37 rfl rfl rfl (Lens.id rType)) (res_tmp rfl) ⟨rfl, rfl⟩ (svT_eq (by subst_vars; first | rfl | (simp [memberType, allowedM]; done) | (simp [memberType, allowedM, *]; done) | (unfold memberType; (repeat' split) <;> first | rfl | omega | (simp_all; done) | (simp_all; omega) | (simp_all [allowedM]; done) | (simp_all [allowedM]; omega))))
        · try simp at h10
          refine j_seq (j_seq ?_)
          refine j_region ?_
          refine jg_adr _ rfl _ rfl rfl (op_eql (.base rfl) (.base rfl)) ?_
          refine jg_adr _ rfl _ rfl rfl (op_assign (.base rfl)) ?_
          refine jg_nil ?_
          refine jn_keep [4, 6, 8, 31, 42] [4, 6] (.cons rfl (.cons rfl (.cons rfl (.cons rfl (.cons rfl .nil))))) (.cons rfl (.cons rfl .nil)) ?_
          refine jn_seq ?_
          refine j_cond rfl (fun h12 => ?_) (fun h12 => ?_)
          · have g12 := h12; try simp at h12
            refine j_skip (jn_seq ?_)
            refine j_cond_t rfl g12 ?_
            refine j_region ?_
            refine jg_adr _ rfl _ rfl rfl (op_ofield fld37_0 (.base rfl)) ?_
            refine jg_adr _ rfl _ rfl rfl (op_oload ty3 (.base rfl) rfl rfl ln37_0) ?_
            refine jg_adr _ rfl _ rfl rfl (op_eql (.base rfl) (.base rfl)) ?_
            refine jg_adr _ rfl _ rfl rfl (op_assign (.base rfl)) ?_
            refine jg_nil ?_
            refine jn_keep [4, 6, 8] [4, 6] (.cons rfl (.cons rfl (.cons rfl .nil))) (.cons rfl (.cons rfl .nil)) ?_
            refine jn_blk (jn_seq (j_seq (j_seq ?_)))
            refine j_region ?_
            refine jg_adr _ rfl _ rfl rfl (op_move (.base rfl)) ?_
            refine jg_adr _ rfl _ rfl rfl (op_not (.base rfl)) ?_
            refine jg_nil ?_
            refine jn_keep [4, 6, 59] [4, 6] (.cons rfl (.cons rfl (.cons rfl .nil))) (.cons rfl (.cons rfl .nil)) ?_
            refine jn_seq ?_
            refine j_cond rfl (fun h17 => ?_) (fun h17 => ?_)
            · try simp at h17
              all_goals
                refine j_seq ?_
                refine j_region ?_
                refine jg_adr _ rfl _ rfl rfl (op_build z37 rfl pl37 .nil) ?_
                refine jg_os _ rfl (op_ostore ty37 (.base rfl) rfl rfl (Lens.id _) (.tv (.base rfl))) ?_
                refine jg_adr _ rfl _ rfl rfl (op_assign (.base rfl)) ?_
                refine jg_nil ?_
                refine jn_keep [4, 5] [4] (.cons rfl (.cons rfl .nil)) (.cons rfl .nil) ?_
                refine jn_seq (j_ret (jr_seq ?_))
                exact jr_fin2 Tryz.results45 (res_cell ty37 rfl rfl rfl (Lens.id rType)) (res_tmp rfl) ⟨rfl, rfl⟩ (svT_eq (by subst_vars; first | rfl | (simp [memberType, allowedM]; done) | (simp [memberType, allowedM, *]; done) | (unfold memberType; (repeat' split) <;> first | rfl | omega | (simp_all; done) | (simp_all; omega) | (simp_all [allowedM]; done) | (simp_all [allowedM]; omega))))
            · try simp at h17
              all_goals
                refine j_skip (jn_seq (j_seq ?_))
                refine j_region ?_
                refine jg_adr _ rfl _ rfl rfl (op_oload ty37 (.base rfl) rfl rfl (Lens.id _)) ?_
                refine jg_os _ rfl (op_ostore ty37 (.base rfl) rfl rfl (Lens.id _) (.tv (.base rfl))) ?_
                refine jg_adr _ rfl _ rfl rfl (op_assign (.base rfl)) ?_
                refine jg_nil ?_
                refine jn_keep [4, 5] [4] (.cons rfl (.cons rfl .nil)) (.cons rfl .nil) ?_
                refine jn_seq (j_ret ?_)
                exact jr_fin2 Tryz.results45 (res_cell ty37 rfl rfl rfl (Lens.id rType)) (res_tmp rfl) ⟨rfl, rfl⟩ (svT_eq (by subst_vars; first | rfl | (simp [memberType, allowedM]; done) | (simp [memberType, allowedM, *]; done) | (unfold memberType; (repeat' split) <;> first | rfl | omega | (simp_all; done) | (simp_all; omega) | (simp_all [allowedM]; done) | (simp_all [allowedM]; omega))))
          · have g12 := h12; try simp at h12
            refine j_region ?_
            refine jg_adr _ rfl _ rfl rfl (op_eql (.base rfl) (.base rfl)) ?_
            refine jg_adr _ rfl _ rfl rfl (op_assign (.base rfl)) ?_
            refine jg_nil ?_
            refine jn_keep [4, 6, 8, 31, 42] [4, 6] (.cons rfl (.cons rfl (.cons rfl (.cons rfl (.cons rfl .nil))))) (.cons rfl (.cons rfl .nil)) ?_
            refine jn_seq ?_
            refine j_cond rfl (fun h13 => ?_) (fun h13 => ?_)
            · have g13 := h13; try simp at h13
              refine j_region ?_
              refine jg_adr _ rfl _ rfl rfl (op_ofield fld37_0 (.base rfl)) ?_
              refine jg_adr _ rfl _ rfl rfl (op_oload ty3 (.base rfl) rfl rfl ln37_0) ?_
              refine jg_adr _ rfl _ rfl rfl (op_eql (.base rfl) (.base rfl)) ?_
              refine jg_adr _ rfl _ rfl rfl (op_assign (.base rfl)) ?_
              refine jg_nil ?_
              refine jn_keep [4, 6, 8] [4, 6] (.cons rfl (.cons rfl (.cons rfl .nil))) (.cons rfl (.cons rfl .nil)) ?_
              refine jn_blk (jn_seq (j_seq (j_seq ?_)))
              refine j_region ?_
              refine jg_adr _ rfl _ rfl rfl (op_move (.base rfl)) ?_
              refine jg_adr _ rfl _ rfl rfl (op_not (.base rfl)) ?_
              refine jg_nil ?_
              refine jn_keep [4, 6, 59] [4, 6] (.cons rfl (.cons rfl (.cons rfl .nil))) (.cons rfl (.cons rfl .nil)) ?_
              refine jn_seq ?_
              refine j_cond rfl (fun h17 => ?_) (fun h17 => ?_)
              · try simp at h17
                all_goals
                  refine j_seq ?_
                  refine j_region ?_
                  refine jg_adr _ rfl _ rfl rfl (op_build z37 rfl pl37 .nil) ?_
                  refine jg_os _ rfl (op_ostore ty37 (.base rfl) rfl rfl (Lens.id _) (.tv (.base rfl))) ?_
                  refine jg_adr _ rfl _ rfl rfl (op_assign (.base rfl)) ?_
                  refine jg_nil ?_
                  refine jn_keep [4, 5] [4] (.cons rfl (.cons rfl .nil)) (.cons rfl .nil) ?_
                  refine jn_seq (j_ret (jr_seq ?_))
                  exact jr_fin2 Tryz.results45 (res_cell ty37 rfl rfl rfl (Lens.id rType)) (res_tmp rfl) ⟨rfl, rfl⟩ (svT_eq (by subst_vars; first | rfl | (simp [memberType, allowedM]; done) | (simp [memberType, allowedM, *]; done) | (unfold memberType; (repeat' split) <;> first | rfl | omega | (simp_all; done) | (simp_all; omega) | (simp_all [allowedM]; done) | (simp_all [allowedM]; omega))))
              · try simp at h17
                all_goals
                  refine j_skip (jn_seq (j_seq ?_))
                  refine j_region ?_
                  refine jg_adr _ rfl _ rfl rfl (op_oload ty37 (.base rfl) rfl rfl (Lens.id _)) ?_
                  refine jg_os _ rfl (op_ostore ty37 (.base rfl) rfl rfl (Lens.id _) (.tv (.base rfl))) ?_
                  refine jg_adr _ rfl _ rfl rfl (op_assign (.base rfl)) ?_
                  refine jg_nil ?_
                  refine jn_keep [4, 5] [4] (.cons rfl (.cons rfl .nil)) (.cons rfl .nil) ?_
                  refine jn_seq (j_ret ?_)
                  exact jr_fin2 Tryz.results45 (res_cell ty37 rfl rfl rfl (Lens.id rType)) (res_tmp rfl) ⟨rfl, rfl⟩ (svT_eq (by subst_vars; first | rfl | (simp [memberType, allowedM]; done) | (simp [memberType, allowedM, *]; done) | (unfold memberType; (repeat' split) <;> first | rfl | omega | (simp_all; done) | (simp_all; omega) | (simp_all [allowedM]; done) | (simp_all [allowedM]; omega))))
            · have g13 := h13; try simp at h13
              refine j_seq ?_
              refine j_region ?_
              refine jg_adr _ rfl _ rfl rfl (op_eql (.base rfl) (.base rfl)) ?_
              refine jg_adr _ rfl _ rfl rfl (op_assign (.base rfl)) ?_
              refine jg_nil ?_
              refine jn_keep [4, 6, 8, 48] [4, 6] (.cons rfl (.cons rfl (.cons rfl (.cons rfl .nil)))) (.cons rfl (.cons rfl .nil)) ?_
              refine jn_seq ?_
              refine j_cond rfl (fun h15 => ?_) (fun h15 => ?_)
              · try simp at h15
                refine j_region ?_
                refine jg_adr _ rfl _ rfl rfl (op_ofield fld37_0 (.base rfl)) ?_
                refine jg_adr _ rfl _ rfl rfl (op_oload ty3 (.base rfl) rfl rfl ln37_0) ?_
                refine jg_adr _ rfl _ rfl rfl (op_call (isNumber_ok _) (.cons (.base rfl) .nil) rfl rfl) ?_
                refine jg_adr _ rfl _ rfl rfl (op_move (.base rfl)) ?_
                refine jg_gd _ _ _ _ _ _ rfl rfl rfl rfl rfl (fun hg => op_ofield fld37_0 (.base rfl)) ?_
                refine jg_gd _ _ _ _ _ _ rfl rfl rfl rfl rfl (fun hg => op_oload ty3 (.gd rfl hg) rfl rfl ln37_0) ?_
                refine jg_gd _ _ _ _ _ _ rfl rfl rfl rfl rfl (fun hg => op_eql (.gd rfl hg) (.base rfl)) ?_
                refine jg_adr _ rfl _ rfl rfl (op_pick_or (.base rfl) (.base rfl) rfl (by intro h; first | (rw [h]; rfl) | (rw [hg, h]; rfl) | (rw [h, hg]; rfl) | simp_all)) ?_
                refine jg_adr _ rfl _ rfl rfl (op_assign (.base rfl)) ?_
                refine jg_nil ?_
                refine jn_keep [4, 6, 8] [4, 6] (.cons rfl (.cons rfl (.cons rfl .nil))) (.cons rfl (.cons rfl .nil)) ?_
                refine jn_blk (jn_seq (j_seq (j_seq ?_)))
                refine j_region ?_
                refine jg_adr _ rfl _ rfl rfl (op_move (.base rfl)) ?_
                refine jg_adr _ rfl _ rfl rfl (op_not (.base rfl)) ?_
                refine jg_nil ?_
                refine jn_keep [4, 6, 59] [4, 6] (.cons rfl (.cons rfl (.cons rfl .nil))) (.cons rfl (.cons rfl .nil)) ?_
                refine jn_seq ?_
                refine j_cond rfl (fun h17 => ?_) (fun h17 => ?_)
                · try simp at h17
                  all_goals
                    refine j_seq ?_
                    refine j_region ?_
                    refine jg_adr _ rfl _ rfl rfl (op_build z37 rfl pl37 .nil) ?_
                    refine jg_os _ rfl (op_ostore ty37 (.base rfl) rfl rfl (Lens.id _) (.tv (.base rfl))) ?_
                    refine jg_adr _ rfl _ rfl rfl (op_assign (.base rfl)) ?_
                    refine jg_nil ?_
                    refine jn_keep [4, 5] [4] (.cons rfl (.cons rfl .nil)) (.cons rfl .nil) ?_
                    refine jn_seq (j_ret (jr_seq ?_))
                    exact jr_fin2 Tryz.results45 (res_cell ty37 rfl rfl rfl (Lens.id rType)) (res_tmp rfl) ⟨rfl, rfl⟩ (svT_eq (by subst_vars; first | rfl | (simp [memberType, allowedM]; done) | (simp [memberType, allowedM, *]; done) | (unfold memberType; (repeat' split) <;> first | rfl | omega | (simp_all; done) | (simp_all; omega) | (simp_all [allowedM]; done) | (simp_all [allowedM]; omega))))
                · try simp at h17
                  all_goals
                    refine j_skip (jn_seq (j_seq ?_))
                    refine j_region ?_
                    refine jg_adr _ rfl _ rfl rfl (op_oload ty37 (.base rfl) rfl rfl (Lens.id _)) ?_
                    refine jg_os _ rfl (op_ostore ty37 (.base rfl) rfl rfl (Lens.id _) (.tv (.base rfl))) ?_
                    refine jg_adr _ rfl _ rfl rfl (op_assign (.base rfl)) ?_
                    refine jg_nil ?_
                    refine jn_keep [4, 5] [4] (.cons rfl (.cons rfl .nil)) (.cons rfl .nil) ?_
                    refine jn_seq (j_ret ?_)
                    exact jr_fin2 Tryz.results45 (res_cell ty37 rfl rfl rfl (Lens.id rType)) (res_tmp rfl) ⟨rfl, rfl⟩ (svT_eq (by subst_vars; first | rfl | (simp [memberType, allowedM]; done) | (simp [memberType, allowedM, *]; done) | (unfold memberType; (repeat' split) <;> first | rfl | omega | (simp_all; done) | (simp_all; omega) | (simp_all [allowedM]; done) | (simp_all [allowedM]; omega))))
              · try simp at h15
                refine j_skip (jn_blk (jn_seq (j_seq (j_seq ?_))))
                refine j_region ?_
                refine jg_adr _ rfl _ rfl rfl (op_move (.base rfl)) ?_
                refine jg_adr _ rfl _ rfl rfl (op_not (.base rfl)) ?_
                refine jg_nil ?_
                refine jn_keep [4, 6, 59] [4, 6] (.cons rfl (.cons rfl (.cons rfl .nil))) (.cons rfl (.cons rfl .nil)) ?_
                refine jn_seq ?_
                refine j_cond rfl (fun h17 => ?_) (fun h17 => ?_)
                · try simp at h17
                  all_goals
                    refine j_seq ?_
                    refine j_region ?_
                    refine jg_adr _ rfl _ rfl rfl (op_build z37 rfl pl37 .nil) ?_
                    refine jg_os _ rfl (op_ostore ty37 (.base rfl) rfl rfl (Lens.id _) (.tv (.base rfl))) ?_
                    refine jg_adr _ rfl _ rfl rfl (op_assign (.base rfl)) ?_
                    refine jg_nil ?_
                    refine jn_keep [4, 5] [4] (.cons rfl (.cons rfl .nil)) (.cons rfl .nil) ?_
                    refine jn_seq (j_ret (jr_seq ?_))
                    exact jr_fin2 Tryz.results45 (res_cell ty37 rfl rfl rfl (Lens.id rType)) (res_tmp rfl) ⟨rfl, rfl⟩ (svT_eq (by subst_vars; first | rfl | (simp [memberType, allowedM]; done) | (simp [memberType, allowedM, *]; done) | (unfold memberType; (repeat' split) <;> first | rfl | omega | (simp_all; done) | (simp_all; omega) | (simp_all [allowedM]; done) | (simp_all [allowedM]; omega))))
                · try simp at h17
                  all_goals
                    refine j_skip (jn_seq (j_seq ?_))
                    refine j_region ?_
                    refine jg_adr _ rfl _ rfl rfl (op_oload ty37 (.base rfl) rfl rfl (Lens.id _)) ?_
                    refine jg_os _ rfl (op_ostore ty37 (.base rfl) rfl rfl (Lens.id _) (.tv (.base rfl))) ?_
                    refine jg_adr _ rfl _ rfl rfl (op_assign (.base rfl)) ?_
                    refine jg_nil ?_
                    refine jn_keep [4, 5] [4] (.cons rfl (.cons rfl .nil)) (.cons rfl .nil) ?_
                    refine jn_seq (j_ret ?_)
                    exact jr_fin2 Tryz.results45 (res_cell ty37 rfl rfl rfl (Lens.id rType)) (res_tmp rfl) ⟨rfl, rfl⟩ (svT_eq (by subst_vars; first | rfl | (simp [memberType, allowedM]; done) | (simp [memberType, allowedM, *]; done) | (unfold memberType; (repeat' split) <;> first | rfl | omega | (simp_all; done) | (simp_all; omega) | (simp_all [allowedM]; done) | (simp_all [allowedM]; omega))))

end Go.Proofs.YtgoggdaohdablaaGreat
