import Derived.Test.YtgoggdaohdablaaP10p
import Derived.Test.YtgoggdaohdablaaP10k
namespace Go.Proofs.Ytgoggdaohdablaa
open Go.Eng
set_option maxRecDepth 100000
set_option maxHeartbeats 4000000
set_option linter.unusedVariables false
set_option linter.unusedSimpArgs false


theorem listed_valid {n : Int} {l : List TType} {s : TSignature} (h : (listedType n l s).2 = 0) : validType (listedType n l s).1 s.1 = true := by
  unfold listedType at h ⊢
  split at h
  · simp at h
  split at h
  · simp at h
  rename_i a b; rw [if_neg a, if_neg b]; simpa using b
theorem nodeType_valid {d : TNode} {l : List TType} {s : TSignature} (hv : ∀ t ∈ l, validType t s.1 = true) (h : (nodeType d l s).2 = 0) : validType (nodeType d l s).1 s.1 = true := by
  unfold nodeType at h ⊢
  by_cases c1 : 1 ≤ d.1 ∧ d.1 ≤ 5
  · rw [if_pos c1] at h ⊢; unfold literalType at h ⊢; split at h
    · simp at h
    · rename_i c; rw [if_neg c]; simp [validType, c1]
  rw [if_neg c1] at h ⊢
  by_cases c2 : d.1 = 6
  · rw [if_pos c2] at h ⊢; unfold enumType at h ⊢
    split at h
    · simp at h
    split at h
    · simp at h
    rename_i a b; rw [if_neg a, if_neg b]; simp [validType]; omega
  rw [if_neg c2] at h ⊢
  by_cases c3 : d.1 = 7
  · rw [if_pos c3] at h ⊢; exact listed_valid h
  rw [if_neg c3] at h ⊢
  by_cases c4 : d.1 = 8
  · rw [if_pos c4] at h ⊢; exact listed_valid h
  rw [if_neg c4] at h ⊢
  by_cases c5 : d.1 = 9
  · rw [if_pos c5]; simp [validType]
  rw [if_neg c5] at h ⊢
  by_cases c6 : d.1 = 33 ∨ d.1 = 34
  · rw [if_pos c6] at h ⊢; unfold tableType at h ⊢
    split at h
    · simp at h
    split at h
    · simp at h
    split at h
    · simp at h
    rename_i a b c; rw [if_neg a, if_neg b, if_neg c]
    simp only [not_or, Bool.not_eq_false] at c
    split at h
    · rename_i e; rw [if_pos e]; split at h
      · simp at h
      rename_i m; rw [if_neg m]; exact c.1
    · rename_i e; rw [if_neg e]; exact c.2.1
  rw [if_neg c6] at h ⊢
  by_cases c7 : 35 ≤ d.1 ∧ d.1 ≤ 39
  · rw [if_pos c7] at h ⊢; unfold memberType at h ⊢
    split at h
    · simp at h
    split at h
    · rename_i a b; rw [if_neg a, if_pos b]; simp [validType]
    split at h
    · rename_i a; exact absurd h a
    split at h
    · rename_i a b c e; rw [if_neg a, if_neg b, if_neg c, if_pos e]; exact listed_valid (by simpa using c)
    · simp at h
  rw [if_neg c7] at h ⊢
  by_cases c8 : (14 ≤ d.1 ∧ d.1 ≤ 16) ∧ validMode d.2 = false
  · rw [if_pos c8] at h; simp at h
  rw [if_neg c8] at h ⊢
  by_cases c9 : (resultType d.1 l).2 = false
  · rw [if_pos c9] at h; simp at h
  rw [if_neg c9]; simp only
  have c9 : (resultType d.1 l).2 = true := by simpa using c9
  clear h c1 c2 c3 c4 c5 c6 c7 c8
  unfold resultType at c9 ⊢
  match l, hv, c9 with
  | [], _, c9 => simp at c9
  | [a], hv, c9 => simp at c9 hv ⊢; (repeat' split at c9) <;> simp_all [validType]
  | [a, b], hv, c9 =>
    simp only [List.mem_cons, List.not_mem_nil, or_false, forall_eq_or_imp, forall_eq] at hv
    simp only at c9 ⊢
    split at c9
    · rename_i e; rw [if_pos e]; exact hv.1
    rename_i e; rw [if_neg e]
    split at c9
    · rename_i e; rw [if_pos e]; unfold productType at c9 ⊢; (repeat' split at c9) <;> simp_all [validType] <;> omega
    rename_i e; rw [if_neg e]
    (repeat' split at c9) <;> simp_all [validType]
  | [a, b, c], hv, c9 => simp at c9 hv ⊢; split at c9 <;> simp_all
  | _ :: _ :: _ :: _ :: _, _, c9 => simp at c9
theorem t_err {e : List TNode} {s : TSignature} {k : Nat} {st : List TType} (hk : k < e.length) (hv : ∀ t ∈ st, validType t s.1 = true) (ha : 0 ≤ arity e[k].1) (hb : arity e[k].1 ≤ st.length) (h : (resultR e[k] (st.drop (tBase e[k] st)) s).2 ≠ 0) :
    ((((0 : Int), (0 : Int)), (k : Int), (resultR e[k] (st.drop (tBase e[k] st)) s).2) : TType × Int × Int) = tLoop s (e.drop k) k st := by
  rw [List.drop_eq_getElem_cons hk, tLoop]
  by_cases h2 : e[k].2 ≠ 0 ∧ usesN e[k].1 = false
  · rw [if_pos h2]; unfold resultR; rw [if_pos h2]
  · have e1 := resultR_eq (d := e[k]) (l := st.drop (tBase e[k] st)) (s := s) (by simp [tBase]; omega) (fun t ht => hv t (List.mem_of_mem_drop ht)) h2
    rw [if_neg h2, ← e1, if_pos h]
theorem t_ok {e : List TNode} {s : TSignature} {k : Nat} {st : List TType} (hk : k < e.length) (hv : ∀ t ∈ st, validType t s.1 = true) (ha : 0 ≤ arity e[k].1) (hb : arity e[k].1 ≤ st.length) (h : (resultR e[k] (st.drop (tBase e[k] st)) s).2 = 0) :
    tLoop s (e.drop (k + 1)) (k + 1) (st.take (tBase e[k] st) ++ [(resultR e[k] (st.drop (tBase e[k] st)) s).1]) = tLoop s (e.drop k) k st ∧ ∀ t ∈ st.take (tBase e[k] st) ++ [(resultR e[k] (st.drop (tBase e[k] st)) s).1], validType t s.1 = true := by
  rw [List.drop_eq_getElem_cons hk, tLoop]
  by_cases h2 : e[k].2 ≠ 0 ∧ usesN e[k].1 = false
  · unfold resultR at h; rw [if_pos h2] at h; simp at h
  · have hv' : ∀ t ∈ st.drop (tBase e[k] st), validType t s.1 = true := fun t ht => hv t (List.mem_of_mem_drop ht)
    have e1 := resultR_eq (d := e[k]) (l := st.drop (tBase e[k] st)) (s := s) (by simp [tBase]; omega) hv' h2
    rw [if_neg h2, ← e1, if_neg (by simp [h])]
    refine ⟨rfl, fun t ht => ?_⟩
    rcases List.mem_append.1 ht with ht | ht
    · exact hv t (List.mem_of_mem_take ht)
    · obtain rfl := List.mem_singleton.1 ht
      rw [e1] at h ⊢; exact nodeType_valid hv' h

theorem rtypeOf_ok (e : List TNode) (s : TSignature) (hn : ∀ d ∈ e, d.2 ≤ 9223372036854775807) : Ct Try.prog 26 [.tv (rSlice rNode) e, .tv rSignature s] (svTI (typeOf e s)) := by
  refine ct_intro Try.func26 rfl rfl Try.ntmps26 rfl rfl ?_
  intro w0 ok0
  refine j_len 0 rfl (fun hl0 => ?_)
  refine j_seq ?_
  refine j_region ?_
  refine jg_os _ rfl (op_box (.tv (.base rfl)) rfl rfl rfl) ?_
  refine jg_os _ rfl (op_alloc _ z36 rfl rfl rfl) ?_
  refine jg_adr _ rfl _ rfl rfl (op_assign (.base rfl)) ?_
  refine jg_adr _ rfl _ rfl rfl (op_assign (.base rfl)) ?_
  refine jg_nil ?_
  refine jn_keep [0, 3, 4] [3, 4] (.cons rfl (.cons rfl (.cons rfl .nil))) (.cons rfl (.cons rfl .nil)) ?_
  refine jn_seq (j_seq ?_)
  refine j_region ?_
  refine jg_adr _ rfl _ rfl rfl (op_move (.base rfl)) ?_
  refine jg_adr _ rfl _ rfl rfl (op_call (rstructure_ok e) (.cons (.base rfl) .nil) rfl rfl) ?_
  refine jg_adr _ rfl _ rfl rfl (op_move (.base rfl)) ?_
  refine jg_adr _ rfl _ rfl rfl (op_ext30 (.base rfl)) ?_
  refine jg_adr _ rfl _ rfl rfl (op_ext31 (.base rfl)) ?_
  refine jg_adr _ rfl _ rfl rfl (op_ext32 (.base rfl)) ?_
  refine jg_adr _ rfl _ rfl rfl (op_assign (.base rfl)) ?_
  refine jg_adr _ rfl _ rfl rfl (op_assign (.base rfl)) ?_
  refine jg_adr _ rfl _ rfl rfl (op_assign (.base rfl)) ?_
  refine jg_nil ?_
  refine jn_keep [0, 3, 4, 8, 9] [3, 4] (.cons rfl (.cons rfl (.cons rfl (.cons rfl (.cons rfl .nil))))) (.cons rfl (.cons rfl .nil)) ?_
  refine jn_seq (j_seq (j_seq ?_))
  refine j_region ?_
  refine jg_adr _ rfl _ rfl rfl (op_move (.base rfl)) ?_
  refine jg_adr _ rfl _ rfl rfl (op_neq (.base rfl) (.base rfl)) ?_
  refine jg_nil ?_
  refine jn_keep [0, 3, 4, 8, 9, 22] [3, 4] (.cons rfl (.cons rfl (.cons rfl (.cons rfl (.cons rfl (.cons rfl .nil)))))) (.cons rfl (.cons rfl .nil)) ?_
  refine jn_seq ?_
  refine j_cond rfl (fun h2 => ?_) (fun h2 => ?_)
  · try simp at h2
    refine j_seq ?_
    refine j_region ?_
    refine jg_adr _ rfl _ rfl rfl (op_build z36 rfl pl36 .nil) ?_
    refine jg_adr _ rfl _ rfl rfl (op_move (.base rfl)) ?_
    refine jg_adr _ rfl _ rfl rfl (op_move (.base rfl)) ?_
    refine jg_os _ rfl (op_ostore ty36 (.base rfl) rfl rfl (Lens.id _) (.tv (.base rfl))) ?_
    refine jg_adr _ rfl _ rfl rfl (op_assign (.base rfl)) ?_
    refine jg_adr _ rfl _ rfl rfl (op_assign (.base rfl)) ?_
    refine jg_nil ?_
    refine jn_keep [4, 5, 6] [4] (.cons rfl (.cons rfl (.cons rfl .nil))) (.cons rfl .nil) ?_
    refine jn_seq (j_ret (jr_seq ?_))
    exact jr_fin3 Try.results26 (res_cell ty36 rfl rfl rfl (Lens.id rType)) (res_tmp rfl) (res_tmp rfl) ⟨rfl, rfl, rfl⟩ (svTI_eq (by unfold typeOf; rw [if_pos h2]))
  · try simp at h2
    refine j_skip (jn_seq (j_seq ?_))
    refine j_region ?_
    refine jg_adr _ rfl _ rfl rfl (op_assign (.base rfl)) ?_
    refine jg_nil ?_
    refine jn_keep [0, 3, 4, 10] [3, 4] (.cons rfl (.cons rfl (.cons rfl (.cons rfl .nil)))) (.cons rfl (.cons rfl .nil)) ?_
    refine jn_seq (j_seq (j_seq ?_))
    refine j_region ?_
    refine jg_adr _ rfl _ rfl rfl (op_assign (.base rfl)) ?_
    refine jg_nil ?_
    refine jn_keep [0, 3, 4, 10, 11] [3, 4] (.cons rfl (.cons rfl (.cons rfl (.cons rfl (.cons rfl .nil))))) (.cons rfl (.cons rfl .nil)) ?_
    refine jn_seq (j_block ?_)
    refine j_vac 70 10 rType rfl rfl rfl ?_
    refine j_loopp (ι := (Nat × List TType)) (fun (k, st) => ⟨[(3, .optr 3 rSignature.n 0 0), (4, .optr 4 rType.n 0 0), (10, .own 70 rType.n 0 st.length), (0, .tv (rSlice rNode) e), (11, .raw (.int .i64 ((k : Nat))))], [(3, ⟨rSignature, [s]⟩), (4, ⟨rType, [(0, 0)]⟩), (70, ⟨rType, st⟩)]⟩) (fun (k, st) => k ≤ e.length ∧ High e k st.length ∧ (∀ t ∈ st, validType t s.1 = true) ∧ tLoop s (e.drop k) k st = typeOf e s) (fun (k, st) => e.length - k) (0, []) (⟨Nat.zero_le _, ⟨[], rfl, rfl⟩, by simp, by unfold typeOf; rw [if_neg (by simp [h2])]; rfl⟩) (fun a w hi => (Sub.inv ⟨(by repeat (first | exact SubS_nil | refine SubS_cons rfl (by first | rfl | (simp; done) | assumption) ?_)), (by repeat (first | exact SubH_nil | refine SubH_cons rfl (by first | rfl | (simp; done) | assumption) ?_))⟩ hi)) ?_
    rintro ⟨k, st⟩ ⟨hk, hh, hv, hp⟩
    refine j_seq (j_seq ?_)
    refine j_region ?_
    refine jg_adr _ rfl _ rfl rfl (op_move (.base rfl)) ?_
    refine jg_adr _ rfl _ rfl rfl (op_move (.base rfl)) ?_
    refine jg_adr _ rfl _ rfl rfl (op_len Try.underlying22 (.base rfl)) ?_
    refine jg_adr _ rfl _ rfl rfl (op_lss (.base rfl) (.base rfl)) ?_
    refine jg_nil ?_
    refine jn_keep [0, 3, 4, 10, 11, 29] [3, 4, 70] (.cons rfl (.cons rfl (.cons rfl (.cons rfl (.cons rfl (.cons rfl .nil)))))) (.cons rfl (.cons rfl (.cons rfl .nil))) ?_
    refine jn_seq ?_
    refine j_cond rfl (fun h6 => ?_) (fun h6 => ?_)
    · try simp at h6
      refine j_skip (jn_seq (j_seq (j_block (j_seq ?_))))
      obtain ⟨ha0, ha1, ha2, hh2⟩ := high_step h2 h6 hh
      refine j_region ?_
      refine jg_adr _ rfl _ rfl rfl (op_move (.base rfl)) ?_
      refine jg_adr _ rfl _ rfl rfl (op_len_own Try.underlying25 (.base rfl)) ?_
      refine jg_adr _ rfl _ rfl rfl (op_move (.base rfl)) ?_
      refine jg_adr _ rfl _ rfl rfl (op_move (.base rfl)) ?_
      refine jg_adr _ rfl _ rfl rfl (op_index Try.underlying22 ty50 (.base rfl) (.base rfl) rfl (List.getElem?_eq_getElem (by first | omega | (simp; done) | (simp; omega) | (simp at hg; omega)))) ?_
      refine jg_adr _ rfl _ rfl rfl (op_field fld50_0 ln50_0 (.base rfl)) ?_
      refine jg_adr _ rfl _ rfl rfl (op_load ty3 (.base rfl)) ?_
      refine jg_adr _ rfl _ rfl rfl (op_call (rarity_ok _) (.cons (.base rfl) .nil) rfl rfl) ?_
      refine jg_adr _ rfl _ rfl rfl (op_sub (.base rfl) (.base rfl) (w64 (by omega))) ?_
      refine jg_adr _ rfl _ rfl rfl (op_assign (.base rfl)) ?_
      refine jg_nil ?_
      refine jn_keep [0, 3, 4, 10, 11, 12] [3, 4, 70] (.cons rfl (.cons rfl (.cons rfl (.cons rfl (.cons rfl (.cons rfl .nil)))))) (.cons rfl (.cons rfl (.cons rfl .nil))) ?_
      refine jn_seq (j_seq ?_)
      have hx : 0 ≤ (st.length : Int) - arity e[k].1 := (by omega)
      refine j_drawE mo (by kernel_rfl) (
        AE.cons _ _ _ rfl (gh_ga [] (ga_adr rfl rfl rfl (op_move (.base rfl))) (by kernel_rfl)) (
        AE.cons _ _ _ rfl (gh_ga [] (ga_adr rfl rfl rfl (op_move (.base rfl))) (by kernel_rfl)) (
        AE.cons _ _ _ rfl (gh_ga [] (ga_adr rfl rfl rfl (op_index Try.underlying22 ty50 (.base rfl) (.base rfl) rfl (List.getElem?_eq_getElem (by first | omega | (simp; done) | (simp; omega) | (simp at hg; omega))))) (by kernel_rfl)) (
        AE.cons _ _ _ rfl (gh_ga [] (ga_adr rfl rfl rfl (op_load ty50 (.base rfl))) (by kernel_rfl)) (
        AE.cons _ _ _ rfl (gh_ga [70] (ga_adr rfl rfl rfl (op_move (.base rfl))) (by kernel_rfl)) (
        AE.cons _ _ _ rfl (gh_ga [] (ga_adr rfl rfl rfl (op_move (.base rfl))) (by kernel_rfl)) (
        AE.cons _ _ _ rfl (gh_ga [70] (ga_adr rfl rfl rfl (op_oslice Try.underlying25 ty36 (.base rfl) ⟨_, _, (.base rfl), (Int.toNat_of_nonneg hx).symm⟩ rfl (by omega) (by omega))) (by kernel_rfl)) (
        AE.cons _ _ _ rfl (gh_ga [3] (ga_adr rfl rfl rfl (op_oload ty27 (.base rfl) rfl rfl (Lens.id _))) (by kernel_rfl)) (
        AE.cons _ _ _ rfl (gh_ga [70] (ga_adr rfl rfl rfl (op_callb (rresult_ok _ _ _ (hn _ (List.getElem_mem _)) (by simp; omega)) (.cons (.base rfl) rfl (.own (.base rfl) rfl (by first | omega | (simp; try omega)) (.cons (.base rfl) rfl .nil))) (flat_tup2 (flat_tv (flat_pair (flat_int _) (flat_int _))) flat_raw))) (by kernel_rfl)) (
        AE.cons _ _ _ rfl (gh_ga [] (ga_adr rfl rfl rfl (op_move (.base rfl))) (by kernel_rfl)) (
        AE.cons _ _ _ rfl (gh_ga [] (ga_adr rfl rfl rfl (op_ext20 (.base rfl))) (by kernel_rfl)) (
        AE.cons _ _ _ rfl (gh_ga [] (ga_adr rfl rfl rfl (op_ext21 (.base rfl))) (by kernel_rfl)) (
        AE.cons _ _ _ rfl (gh_alloc _ z36 rfl) (
        AE.cons _ _ _ rfl (gh_store ty36 (.base rfl) rfl rfl (Lens.id _) (.tv (.base rfl))) (
        AE.cons _ _ _ rfl (gh_ga [] (ga_adr rfl rfl rfl (op_assign (.base rfl))) (by kernel_rfl)) (
        AE.nil)))))))))))))))) (by kernel_rfl) ?_
      refine jn_keep [0, 3, 4, 10, 11, 12, 13, 14] [3, 4, 13, 70] (.cons rfl (.cons rfl (.cons rfl (.cons rfl (.cons rfl (.cons rfl (.cons rfl (.cons rfl .nil)))))))) (.cons rfl (.cons rfl (.cons rfl (.cons rfl .nil)))) ?_
      refine jn_seq (j_seq (j_seq ?_))
      have el : (st.drop (st.length - arity e[k].1).toNat).take (st.length - (st.length - arity e[k].1).toNat) = st.drop (tBase e[k] st) := by rw [List.take_of_length_le (by simp)]; rfl
      refine j_region ?_
      refine jg_adr _ rfl _ rfl rfl (op_move (.base rfl)) ?_
      refine jg_adr _ rfl _ rfl rfl (op_neq (.base rfl) (.base rfl)) ?_
      refine jg_nil ?_
      refine jn_keep [0, 3, 4, 10, 11, 12, 13, 14, 54] [3, 4, 13, 70] (.cons rfl (.cons rfl (.cons rfl (.cons rfl (.cons rfl (.cons rfl (.cons rfl (.cons rfl (.cons rfl .nil))))))))) (.cons rfl (.cons rfl (.cons rfl (.cons rfl .nil)))) ?_
      refine jn_seq ?_
      refine j_cond rfl (fun h10 => ?_) (fun h10 => ?_)
      · simp at h10; rw [el] at h10
        refine j_seq ?_
        refine j_region ?_
        refine jg_adr _ rfl _ rfl rfl (op_build z36 rfl pl36 .nil) ?_
        refine jg_adr _ rfl _ rfl rfl (op_move (.base rfl)) ?_
        refine jg_adr _ rfl _ rfl rfl (op_move (.base rfl)) ?_
        refine jg_os _ rfl (op_ostore ty36 (.base rfl) rfl rfl (Lens.id _) (.tv (.base rfl))) ?_
        refine jg_adr _ rfl _ rfl rfl (op_assign (.base rfl)) ?_
        refine jg_adr _ rfl _ rfl rfl (op_assign (.base rfl)) ?_
        refine jg_nil ?_
        refine jn_keep [4, 5, 6] [4] (.cons rfl (.cons rfl (.cons rfl .nil))) (.cons rfl .nil) ?_
        refine jn_seq (j_ret (jr_seq (jr_blk (jr_seq (jr_loop (jr_blk (jr_seq ?_)))))))
        exact jr_fin3 Try.results26 (res_cell ty36 rfl rfl rfl (Lens.id rType)) (res_tmp rfl) (res_tmp rfl) ⟨rfl, rfl, rfl⟩ (svTI_eq (by simp only [Nat.zero_add, el]; rw [← hp]; exact t_err h6 hv ha0 ha1 h10))
      · simp at h10; rw [el] at h10
        refine j_skip (jn_seq ?_)
        refine j_draw_bar 5 mo (by kernel_rfl) (by kernel_rfl) (
          AS.cons _ _ rfl (ga_adr rfl rfl rfl (op_move (.base rfl))) (
            AS.cons _ _ rfl (ga_adr rfl rfl rfl (op_move (.base rfl))) (
            AS.cons _ _ rfl (ga_adr rfl rfl rfl (op_oslice Try.underlying25 ty36 (.base rfl) rfl ⟨_, _, (.base rfl), (Int.toNat_of_nonneg hx).symm⟩ (by omega) (by omega))) (
            AS.cons _ _ rfl (ga_adr rfl rfl rfl (op_oload ty36 (.base rfl) rfl rfl (Lens.id _))) (
            AS.cons _ _ rfl (ga_adr rfl rfl rfl (op_bslice (rt := rType) Try.underlying25 ty36 z36 rfl (.cons (.tv (.base rfl)) .nil) rfl rfl)) (
            AS.nil)))))) rfl rfl (op_append [0, 3, 4, 11] Try.underlying25 ty36 z36 rfl by36 (.base rfl) rfl (by simp; try omega) (.tv (.base rfl)) (by unfold maxLen; simp; omega) (by simp; omega) rfl (.cons rfl (.cons rfl (.cons rfl (.cons rfl .nil)))) rfl) (
          AS.cons _ _ rfl (ga_adr rfl rfl rfl (op_assign (.base rfl))) (
            AS.nil)) ?_
        refine jn_keep [0, 3, 4, 10, 11] [3, 4, 70] (.cons rfl (.cons rfl (.cons rfl (.cons rfl (.cons rfl .nil))))) (.cons rfl (.cons rfl (.cons rfl .nil))) ?_
        refine jn_blk (jn_seq ?_)
        refine j_region ?_
        refine jg_adr _ rfl _ rfl rfl (op_move (.base rfl)) ?_
        refine jg_adr _ rfl _ rfl rfl (op_add (.base rfl) (.base rfl) (w64 (by omega))) ?_
        refine jg_adr _ rfl _ rfl rfl (op_assign (.base rfl)) ?_
        refine jg_nil ?_
        refine jn_keep [0, 3, 4, 10, 11] [3, 4, 70] (.cons rfl (.cons rfl (.cons rfl (.cons rfl (.cons rfl .nil))))) (.cons rfl (.cons rfl (.cons rfl .nil))) ?_
        exact jn_loop (fun a w hi => ⟨(k + 1, st.take (tBase e[k] st) ++ [(resultR e[k] (st.drop (tBase e[k] st)) s).1]), (by simp only []; omega), ⟨by omega, by rw [show (st.take (tBase e[k] st) ++ [(resultR e[k] (st.drop (tBase e[k] st)) s).1]).length = (st.length - arity e[k].1).toNat + 1 by simp [tBase]; omega]; exact hh2, (t_ok h6 hv ha0 ha1 (by simpa using h10)).2, by rw [← hp]; exact (t_ok h6 hv ha0 ha1 (by simpa using h10)).1⟩, Sub.inv ⟨(by repeat (first | exact SubS_nil | refine SubS_cons rfl (by first | rfl | exact congrArg (SV.own 70 rType.n 0) (by simp [tBase]; omega)) ?_)), (by repeat (first | exact SubH_nil | refine SubH_cons rfl (by first | rfl | (exact congrArg (HB.mk rType) (by simp only [Nat.zero_add, List.drop_zero, Nat.sub_zero, el]; rfl))) ?_))⟩ hi⟩)
    · try simp at h6
      refine j_exit (je_seq (je_loop (je_blk (jn_seq (j_seq ?_)))))
      have hk2 : k = e.length := by omega
      subst hk2
      have h1 := high_end h2 hh
      refine j_region ?_
      refine jg_adr _ rfl _ rfl rfl (op_move (.base rfl)) ?_
      refine jg_adr _ rfl _ rfl rfl (op_oindex Try.underlying25 ty36 (.base rfl) (.base rfl) (show (0 : Int) = ((0 : Nat) : Int) from rfl) (by omega)) ?_
      refine jg_adr _ rfl _ rfl rfl (op_oload ty36 (.base rfl) rfl (List.getElem?_eq_getElem (by first | omega | (simp; omega))) (Lens.id _)) ?_
      refine jg_os _ rfl (op_ostore ty36 (.base rfl) rfl rfl (Lens.id _) (.tv (.base rfl))) ?_
      refine jg_adr _ rfl _ rfl rfl (op_assign (.base rfl)) ?_
      refine jg_adr _ rfl _ rfl rfl (op_assign (.base rfl)) ?_
      refine jg_nil ?_
      refine jn_keep [4, 5, 6] [4] (.cons rfl (.cons rfl (.cons rfl .nil))) (.cons rfl .nil) ?_
      refine jn_seq (j_ret ?_)
      exact jr_fin3 Try.results26 (res_cell ty36 rfl rfl rfl (Lens.id rType)) (res_tmp rfl) (res_tmp rfl) ⟨rfl, rfl, rfl⟩ (svTI_eq (by rw [← hp, List.drop_of_length_le (Nat.le_refl _), tLoop, List.getElem?_eq_getElem (by omega)]; rfl))

end Go.Proofs.Ytgoggdaohdablaa
