import Derived.Test.YtgoggdaohdablaaGreatP10i
namespace Go.Proofs.YtgoggdaohdablaaGreat
open Go.Eng
set_option maxRecDepth 100000
set_option maxHeartbeats 4000000
set_option linter.unusedVariables false
set_option linter.unusedSimpArgs false


def svTI (R : TType × Int × Int) : SV := .tup3 (.tv rType R.1) (.raw (.int .i64 R.2.1)) (.raw (.int .i64 R.2.2))
theorem svTI_eq {R : TType × Int × Int} {a : TType} {b c : Int} (h : (a, b, c) = R) : SV.tup3 (SV.of rType a) (.raw (.int .i64 b)) (.raw (.int .i64 c)) = svTI R := by subst h; rfl
def tBase (d : TNode) (st : List TType) : Nat := (st.length - arity d.1).toNat
def tLoop (s : TSignature) : List TNode → Nat → List TType → TType × Int × Int
  | [], _, st => (st[0]?.getD (0, 0), 0, 0)
  | d :: r, i, st => if d.2 ≠ 0 ∧ usesN d.1 = false then ((0, 0), i, 2)
    else if (nodeType d (st.drop (tBase d st)) s).2 ≠ 0 then ((0, 0), i, (nodeType d (st.drop (tBase d st)) s).2)
    else tLoop s r (i + 1) (st.take (tBase d st) ++ [(nodeType d (st.drop (tBase d st)) s).1])
def typeOf (e : List TNode) (s : TSignature) : TType × Int × Int := if (structF e).2.2 ≠ 0 then ((0, 0), (structF e).2.1, (structF e).2.2) else tLoop s e 0 []
/-- the types' stack is as high as the starts' -/
def High (e : List TNode) (k n : Nat) : Prop := ∃ rs, chain (structF e).1 k rs ∧ rs.length = n
theorem high_step {e : List TNode} {k n : Nat} (h : (structF e).2.2 = 0) (hk : k < e.length) (hh : High e k n) : 0 ≤ arity e[k].1 ∧ arity e[k].1 ≤ n ∧ n ≤ 12 + 3 ∧ High e (k + 1) ((n - arity e[k].1).toNat + 1) := by
  obtain ⟨rs, h1, rfl⟩ := hh
  obtain ⟨_, _, _, _, hops⟩ := structF_ok h
  obtain ⟨h0, rs', h2, h3, frm, h4, _, _, h5⟩ := hops k hk
  have := chain_uniq h2 h1
  subst this
  have := arity_le e[k].1
  simp only [List.length_drop] at h5
  exact ⟨h0, h3, by omega, _, h4, by simp; omega⟩
theorem high_end {e : List TNode} {n : Nat} (h : (structF e).2.2 = 0) (hh : High e e.length n) : n = 1 := by
  obtain ⟨rs, h1, rfl⟩ := hh
  obtain ⟨_, h0, _, ⟨rs', h2, h3⟩, _⟩ := structF_ok h
  have := chain_uniq h2 h1
  subst this
  cases rs' with
  | nil => have h2 : (e.length : Int) = 0 := h2; omega
  | cons a r => simp at h3 ⊢; exact h3

theorem typeOf_ok (e : List TNode) (s : TSignature) (hn : ∀ d ∈ e, d.2 ≤ 9223372036854775807) : Ct Tryz.prog 13 [.tv (rSlice rNode) e, .tv rSignature s] (svTI (typeOf e s)) := by
  refine ct_intro Tryz.func13 rfl rfl Tryz.ntmps13 rfl rfl ?_
  intro w0 ok0
  refine j_len 0 rfl (fun hl0 => ?_)
  refine j_seq ?_
  refine j_region ?_
  refine jg_os _ rfl (op_box (.tv (.base rfl)) rfl rfl rfl) ?_
  refine jg_os _ rfl (op_alloc _ z37 rfl rfl rfl) ?_
  refine jg_adr _ rfl _ rfl rfl (op_assign (.base rfl)) ?_
  refine jg_adr _ rfl _ rfl rfl (op_assign (.base rfl)) ?_
  refine jg_nil ?_
  refine jn_keep [0, 3, 4] [3, 4] (.cons rfl (.cons rfl (.cons rfl .nil))) (.cons rfl (.cons rfl .nil)) ?_
  refine jn_seq (j_seq ?_)
  refine j_region ?_
  refine jg_adr _ rfl _ rfl rfl (op_move (.base rfl)) ?_
  refine jg_adr _ rfl _ rfl rfl (op_call (structure_ok _) (.cons (.base rfl) .nil) rfl rfl) ?_
  refine jg_adr _ rfl _ rfl rfl (op_move (.base rfl)) ?_
  refine jg_adr _ rfl _ rfl rfl (op_ext30 (.base rfl)) ?_
  refine jg_adr _ rfl _ rfl rfl (op_ext31 (.base rfl)) ?_
  refine jg_adr _ rfl _ rfl rfl (op_ext32 (.base rfl)) ?_
  refine jg_adr _ rfl _ rfl rfl (op_assign (.base rfl)) ?_
  refine jg_adr _ rfl _ rfl rfl (op_assign (.base rfl)) ?_
  refine jg_adr _ rfl _ rfl rfl (op_assign (.base rfl)) ?_
  refine jg_nil ?_
  refine jn_keep [0, 3, 4, 8, 9] [3, 4] (.cons rfl (.cons rfl (.cons rfl (.cons rfl (.cons rfl .nil))))) (.cons rfl (.cons rfl .nil)) ?_
  refine jn_seq (j_seq (j_seq ?_))
  refine j_region ?_
  refine jg_adr _ rfl _ rfl rfl (op_move (.base rfl)) ?_
  refine jg_adr _ rfl _ rfl rfl (op_neq (.base rfl) (.base rfl)) ?_
  refine jg_nil ?_
  refine jn_keep [0, 3, 4, 8, 9, 23] [3, 4] (.cons rfl (.cons rfl (.cons rfl (.cons rfl (.cons rfl (.cons rfl .nil)))))) (.cons rfl (.cons rfl .nil)) ?_
  refine jn_seq ?_
  refine j_cond rfl (fun h2 => ?_) (fun h2 => ?_)
  · try simp at h2
    refine j_seq ?_
    refine j_region ?_
    refine jg_adr _ rfl _ rfl rfl (op_build z37 rfl pl37 .nil) ?_
    refine jg_adr _ rfl _ rfl rfl (op_move (.base rfl)) ?_
    refine jg_adr _ rfl _ rfl rfl (op_move (.base rfl)) ?_
    refine jg_os _ rfl (op_ostore ty37 (.base rfl) rfl rfl (Lens.id _) (.tv (.base rfl))) ?_
    refine jg_adr _ rfl _ rfl rfl (op_assign (.base rfl)) ?_
    refine jg_adr _ rfl _ rfl rfl (op_assign (.base rfl)) ?_
    refine jg_nil ?_
    refine jn_keep [4, 5, 6] [4] (.cons rfl (.cons rfl (.cons rfl .nil))) (.cons rfl .nil) ?_
    refine jn_seq (j_ret (jr_seq ?_))
    exact jr_fin3 Tryz.results13 (res_cell ty37 rfl rfl rfl (Lens.id rType)) (res_tmp rfl) (res_tmp rfl) ⟨rfl, rfl, rfl⟩ (svTI_eq (by unfold typeOf; rw [if_pos h2]))
  · try simp at h2
    refine j_skip (jn_seq (j_seq ?_))
    refine j_region ?_
    refine jg_adr _ rfl _ rfl rfl (op_assign (.base rfl)) ?_
    refine jg_nil ?_
    refine jn_keep [0, 3, 4, 10] [3, 4] (.cons rfl (.cons rfl (.cons rfl (.cons rfl .nil)))) (.cons rfl (.cons rfl .nil)) ?_
    refine jn_seq (j_seq (j_seq ?_))
    refine j_region ?_
    refine jg_adr _ rfl _ rfl rfl (op_move (.base rfl)) ?_
    refine jg_adr _ rfl _ rfl rfl (op_len Tryz.underlying22 (.base rfl)) ?_
    refine jg_adr _ rfl _ rfl rfl (op_move (.base rfl)) ?_
    refine jg_nil ?_
    refine jn_keep [3, 4, 10, 27, 28, 29] [3, 4] (.cons rfl (.cons rfl (.cons rfl (.cons rfl (.cons rfl (.cons rfl .nil)))))) (.cons rfl (.cons rfl .nil)) ?_
    refine jn_seq (j_block ?_)
    refine j_vac 70 10 rType rfl rfl rfl ?_
    refine j_loopp (ι := (Nat × List TType)) (fun (k, st) => ⟨[(3, .optr 3 rSignature.n 0 0), (4, .optr 4 rType.n 0 0), (10, .own 70 rType.n 0 st.length), (27, .tv (rSlice rNode) e), (28, .raw (.int .i64 (e.length))), (29, .raw (.int .i64 ((k : Nat))))], [(3, ⟨rSignature, [s]⟩), (4, ⟨rType, [(0, 0)]⟩), (70, ⟨rType, st⟩)]⟩) (fun (k, st) => k ≤ e.length ∧ High e k st.length ∧ tLoop s (e.drop k) k st = typeOf e s) (fun (k, st) => e.length - k) (0, []) (⟨Nat.zero_le _, ⟨[], rfl, rfl⟩, by unfold typeOf; rw [if_neg (by simp [h2])]; rfl⟩) (fun a w hi => (Sub.inv ⟨(by repeat (first | exact SubS_nil | refine SubS_cons rfl (by first | rfl | (simp; done) | assumption) ?_)), (by repeat (first | exact SubH_nil | refine SubH_cons rfl (by first | rfl | (simp; done) | assumption) ?_))⟩ hi)) ?_
    rintro ⟨k, st⟩ ⟨hk, hh, hp⟩
    refine j_seq ?_
    refine j_region ?_
    refine jg_adr _ rfl _ rfl rfl (op_lss (.base rfl) (.base rfl)) ?_
    refine jg_nil ?_
    refine jn_keep [3, 4, 10, 27, 28, 29, 30] [3, 4, 70] (.cons rfl (.cons rfl (.cons rfl (.cons rfl (.cons rfl (.cons rfl (.cons rfl .nil))))))) (.cons rfl (.cons rfl (.cons rfl .nil))) ?_
    refine jn_seq (j_seq ?_)
    refine j_cond rfl (fun h6 => ?_) (fun h6 => ?_)
    · try simp at h6
      refine j_skip (jn_seq (j_seq (j_block (j_seq ?_))))
      obtain ⟨ha0, ha1, ha2, hh2⟩ := high_step h2 h6 hh
      refine j_region ?_
      refine jg_adr _ rfl _ rfl rfl (op_move (.base rfl)) ?_
      refine jg_adr _ rfl _ rfl rfl (op_index Tryz.underlying22 ty56 (.base rfl) (.base rfl) rfl (List.getElem?_eq_getElem (by first | omega | (simp; done) | (simp; omega) | (simp at hg; omega)))) ?_
      refine jg_adr _ rfl _ rfl rfl (op_load ty56 (.base rfl)) ?_
      refine jg_os _ rfl (op_alloc _ z56 rfl rfl rfl) ?_
      refine jg_adr _ rfl _ rfl rfl (op_assign (.base rfl)) ?_
      refine jg_os _ rfl (op_ostore ty56 (.base rfl) rfl rfl (Lens.id _) (.tv (.base rfl))) ?_
      refine jg_nil ?_
      refine jn_keep [3, 4, 10, 11, 12, 27, 28, 29] [3, 4, 12, 70] (.cons rfl (.cons rfl (.cons rfl (.cons rfl (.cons rfl (.cons rfl (.cons rfl (.cons rfl .nil)))))))) (.cons rfl (.cons rfl (.cons rfl (.cons rfl .nil)))) ?_
      refine jn_seq (j_seq (j_seq ?_))
      refine j_region ?_
      refine jg_adr _ rfl _ rfl rfl (op_ofield fld56_1 (.base rfl)) ?_
      refine jg_adr _ rfl _ rfl rfl (op_oload ty3 (.base rfl) rfl rfl ln56_1) ?_
      refine jg_adr _ rfl _ rfl rfl (op_neq (.base rfl) (.base rfl)) ?_
      refine jg_adr _ rfl _ rfl rfl (op_move (.base rfl)) ?_
      refine jg_gd _ _ _ _ _ _ rfl rfl rfl rfl rfl (fun hg => op_ofield fld56_0 (.base rfl)) ?_
      refine jg_gd _ _ _ _ _ _ rfl rfl rfl rfl rfl (fun hg => op_oload ty3 (.gd rfl hg) rfl rfl ln56_0) ?_
      refine jg_gd _ _ _ _ _ _ rfl rfl rfl rfl rfl (fun hg => op_call (usesN_ok _) (.cons (.gd rfl hg) .nil) rfl rfl) ?_
      refine jg_gd _ _ _ _ _ _ rfl rfl rfl rfl rfl (fun hg => op_not (.gd rfl hg)) ?_
      refine jg_adr _ rfl _ rfl rfl (op_pick_and (.base rfl) (.base rfl) rfl (by intro h; first | (rw [h]; rfl) | (rw [hg, h]; rfl) | (rw [h, hg]; rfl) | simp_all)) ?_
      refine jg_nil ?_
      refine jn_keep [3, 4, 10, 11, 12, 27, 28, 29, 42] [3, 4, 12, 70] (.cons rfl (.cons rfl (.cons rfl (.cons rfl (.cons rfl (.cons rfl (.cons rfl (.cons rfl (.cons rfl .nil))))))))) (.cons rfl (.cons rfl (.cons rfl (.cons rfl .nil)))) ?_
      refine jn_seq ?_
      refine j_cond rfl (fun h8 => ?_) (fun h8 => ?_)
      · try simp at h8
        refine j_seq ?_
        refine j_region ?_
        refine jg_adr _ rfl _ rfl rfl (op_build z37 rfl pl37 .nil) ?_
        refine jg_adr _ rfl _ rfl rfl (op_move (.base rfl)) ?_
        refine jg_os _ rfl (op_ostore ty37 (.base rfl) rfl rfl (Lens.id _) (.tv (.base rfl))) ?_
        refine jg_adr _ rfl _ rfl rfl (op_assign (.base rfl)) ?_
        refine jg_adr _ rfl _ rfl rfl (op_assign (.base rfl)) ?_
        refine jg_nil ?_
        refine jn_keep [4, 5, 6] [4] (.cons rfl (.cons rfl (.cons rfl .nil))) (.cons rfl .nil) ?_
        refine jn_seq (j_ret (jr_seq (jr_blk (jr_seq (jr_loop (jr_blk (jr_seq ?_)))))))
        exact jr_fin3 Tryz.results13 (res_cell ty37 rfl rfl rfl (Lens.id rType)) (res_tmp rfl) (res_tmp rfl) ⟨rfl, rfl, rfl⟩ (svTI_eq (by rw [← hp, List.drop_eq_getElem_cons h6, tLoop, if_pos h8]))
      · try simp at h8
        refine j_skip (jn_seq (j_seq ?_))
        refine j_region ?_
        refine jg_adr _ rfl _ rfl rfl (op_move (.base rfl)) ?_
        refine jg_adr _ rfl _ rfl rfl (op_len_own Tryz.underlying25 (.base rfl)) ?_
        refine jg_adr _ rfl _ rfl rfl (op_ofield fld56_0 (.base rfl)) ?_
        refine jg_adr _ rfl _ rfl rfl (op_oload ty3 (.base rfl) rfl rfl ln56_0) ?_
        refine jg_adr _ rfl _ rfl rfl (op_call (arity_ok _) (.cons (.base rfl) .nil) rfl rfl) ?_
        refine jg_adr _ rfl _ rfl rfl (op_sub (.base rfl) (.base rfl) (w64 (by omega))) ?_
        refine jg_adr _ rfl _ rfl rfl (op_assign (.base rfl)) ?_
        refine jg_nil ?_
        refine jn_keep [3, 4, 10, 11, 12, 13, 27, 28, 29] [3, 4, 12, 70] (.cons rfl (.cons rfl (.cons rfl (.cons rfl (.cons rfl (.cons rfl (.cons rfl (.cons rfl (.cons rfl .nil))))))))) (.cons rfl (.cons rfl (.cons rfl (.cons rfl .nil)))) ?_
        refine jn_seq (j_seq ?_)
        have hx : 0 ≤ (st.length : Int) - arity e[k].1 := (by omega)
        refine j_drawE mo (by kernel_rfl) (
          AE.cons _ _ _ rfl (gh_ga [12] (ga_adr rfl rfl rfl (op_oload ty56 (.base rfl) rfl rfl (Lens.id _))) (by kernel_rfl)) (
          AE.cons _ _ _ rfl (gh_ga [70] (ga_adr rfl rfl rfl (op_move (.base rfl))) (by kernel_rfl)) (
          AE.cons _ _ _ rfl (gh_ga [] (ga_adr rfl rfl rfl (op_move (.base rfl))) (by kernel_rfl)) (
          AE.cons _ _ _ rfl (gh_ga [70] (ga_adr rfl rfl rfl (op_oslice Tryz.underlying25 ty37 (.base rfl) ⟨_, _, (.base rfl), (Int.toNat_of_nonneg hx).symm⟩ rfl (by omega) (by omega))) (by kernel_rfl)) (
          AE.cons _ _ _ rfl (gh_ga [3] (ga_adr rfl rfl rfl (op_oload ty27 (.base rfl) rfl rfl (Lens.id _))) (by kernel_rfl)) (
          AE.cons _ _ _ rfl (gh_ga [70] (ga_adr rfl rfl rfl (op_callb (nodeType_ok _ _ _ (hn _ (List.getElem_mem _)) (by simp; omega)) (.cons (.base rfl) rfl (.own (.base rfl) rfl (by first | omega | (simp; try omega)) (.cons (.base rfl) rfl .nil))) (flat_tup2 (flat_tv (flat_pair (flat_int _) (flat_int _))) flat_raw))) (by kernel_rfl)) (
          AE.cons _ _ _ rfl (gh_ga [] (ga_adr rfl rfl rfl (op_move (.base rfl))) (by kernel_rfl)) (
          AE.cons _ _ _ rfl (gh_ga [] (ga_adr rfl rfl rfl (op_ext20 (.base rfl))) (by kernel_rfl)) (
          AE.cons _ _ _ rfl (gh_ga [] (ga_adr rfl rfl rfl (op_ext21 (.base rfl))) (by kernel_rfl)) (
          AE.cons _ _ _ rfl (gh_alloc _ z37 rfl) (
          AE.cons _ _ _ rfl (gh_store ty37 (.base rfl) rfl rfl (Lens.id _) (.tv (.base rfl))) (
          AE.cons _ _ _ rfl (gh_ga [] (ga_adr rfl rfl rfl (op_assign (.base rfl))) (by kernel_rfl)) (
          AE.nil))))))))))))) (by kernel_rfl) ?_
        refine jn_keep [3, 4, 10, 11, 13, 14, 15, 27, 28, 29] [3, 4, 14, 70] (.cons rfl (.cons rfl (.cons rfl (.cons rfl (.cons rfl (.cons rfl (.cons rfl (.cons rfl (.cons rfl (.cons rfl .nil)))))))))) (.cons rfl (.cons rfl (.cons rfl (.cons rfl .nil)))) ?_
        refine jn_seq (j_seq (j_seq ?_))
        have el : (st.drop (st.length - arity e[k].1).toNat).take (st.length - (st.length - arity e[k].1).toNat) = st.drop (tBase e[k] st) := by rw [List.take_of_length_le (by simp)]; rfl
        refine j_region ?_
        refine jg_adr _ rfl _ rfl rfl (op_move (.base rfl)) ?_
        refine jg_adr _ rfl _ rfl rfl (op_neq (.base rfl) (.base rfl)) ?_
        refine jg_nil ?_
        refine jn_keep [3, 4, 10, 11, 13, 14, 15, 27, 28, 29, 61] [3, 4, 14, 70] (.cons rfl (.cons rfl (.cons rfl (.cons rfl (.cons rfl (.cons rfl (.cons rfl (.cons rfl (.cons rfl (.cons rfl (.cons rfl .nil))))))))))) (.cons rfl (.cons rfl (.cons rfl (.cons rfl .nil)))) ?_
        refine jn_seq ?_
        refine j_cond rfl (fun h12 => ?_) (fun h12 => ?_)
        · simp at h12; rw [el] at h12
          refine j_seq ?_
          refine j_region ?_
          refine jg_adr _ rfl _ rfl rfl (op_build z37 rfl pl37 .nil) ?_
          refine jg_adr _ rfl _ rfl rfl (op_move (.base rfl)) ?_
          refine jg_adr _ rfl _ rfl rfl (op_move (.base rfl)) ?_
          refine jg_os _ rfl (op_ostore ty37 (.base rfl) rfl rfl (Lens.id _) (.tv (.base rfl))) ?_
          refine jg_adr _ rfl _ rfl rfl (op_assign (.base rfl)) ?_
          refine jg_adr _ rfl _ rfl rfl (op_assign (.base rfl)) ?_
          refine jg_nil ?_
          refine jn_keep [4, 5, 6] [4] (.cons rfl (.cons rfl (.cons rfl .nil))) (.cons rfl .nil) ?_
          refine jn_seq (j_ret (jr_seq (jr_blk (jr_seq (jr_loop (jr_blk (jr_seq ?_)))))))
          exact jr_fin3 Tryz.results13 (res_cell ty37 rfl rfl rfl (Lens.id rType)) (res_tmp rfl) (res_tmp rfl) ⟨rfl, rfl, rfl⟩ (svTI_eq (by simp only [Nat.zero_add, el]; rw [← hp, List.drop_eq_getElem_cons h6, tLoop, if_neg (fun q => by rw [h8 q.1] at q; exact absurd q.2 (by simp)), if_pos h12]))
        · simp at h12; rw [el] at h12
          refine j_skip (jn_seq ?_)
          refine j_draw_bar 5 mo (by kernel_rfl) (by kernel_rfl) (
            AS.cons _ _ rfl (ga_adr rfl rfl rfl (op_move (.base rfl))) (
              AS.cons _ _ rfl (ga_adr rfl rfl rfl (op_move (.base rfl))) (
              AS.cons _ _ rfl (ga_adr rfl rfl rfl (op_oslice Tryz.underlying25 ty37 (.base rfl) rfl ⟨_, _, (.base rfl), (Int.toNat_of_nonneg hx).symm⟩ (by omega) (by omega))) (
              AS.cons _ _ rfl (ga_adr rfl rfl rfl (op_oload ty37 (.base rfl) rfl rfl (Lens.id _))) (
              AS.cons _ _ rfl (ga_adr rfl rfl rfl (op_bslice (rt := rType) Tryz.underlying25 ty37 z37 rfl (.cons (.tv (.base rfl)) .nil) rfl rfl)) (
              AS.nil)))))) rfl rfl (op_append [3, 4, 27, 28, 29] Tryz.underlying25 ty37 z37 rfl by37 (.base rfl) rfl (by (try simp); try omega) (.tv (.base rfl)) (by unfold maxLen; (try simp); try omega) (by (try simp); try omega) rfl (.cons rfl (.cons rfl (.cons rfl (.cons rfl (.cons rfl .nil))))) rfl) (
            AS.cons _ _ rfl (ga_adr rfl rfl rfl (op_assign (.base rfl))) (
              AS.nil)) ?_
          refine jn_keep [3, 4, 10, 27, 28, 29] [3, 4, 70] (.cons rfl (.cons rfl (.cons rfl (.cons rfl (.cons rfl (.cons rfl .nil)))))) (.cons rfl (.cons rfl (.cons rfl .nil))) ?_
          refine jn_blk (jn_seq ?_)
          refine j_region ?_
          refine jg_adr _ rfl _ rfl rfl (op_add (.base rfl) (.base rfl) (w64 (by omega))) ?_
          refine jg_adr _ rfl _ rfl rfl (op_move (.base rfl)) ?_
          refine jg_nil ?_
          refine jn_keep [3, 4, 10, 27, 28, 29] [3, 4, 70] (.cons rfl (.cons rfl (.cons rfl (.cons rfl (.cons rfl (.cons rfl .nil)))))) (.cons rfl (.cons rfl (.cons rfl .nil))) ?_
          exact jn_loop (fun a w hi => ⟨(k + 1, st.take (tBase e[k] st) ++ [(nodeType e[k] (st.drop (tBase e[k] st)) s).1]), (by simp only []; omega), ⟨by omega, by rw [show (st.take (tBase e[k] st) ++ [(nodeType e[k] (st.drop (tBase e[k] st)) s).1]).length = (st.length - arity e[k].1).toNat + 1 by simp [tBase]; omega]; exact hh2, by rw [← hp, List.drop_eq_getElem_cons h6, tLoop, if_neg (fun q => by rw [h8 q.1] at q; exact absurd q.2 (by simp)), if_neg (by simp [h12])]⟩, Sub.inv ⟨(by repeat (first | exact SubS_nil | refine SubS_cons rfl (by first | rfl | exact congrArg (SV.own 70 rType.n 0) (by simp [tBase]; omega)) ?_)), (by repeat (first | exact SubH_nil | refine SubH_cons rfl (by first | rfl | (exact congrArg (HB.mk rType) (by simp only [Nat.zero_add, List.drop_zero, Nat.sub_zero, el]; rfl))) ?_))⟩ hi⟩)
    · try simp at h6
      refine j_exit (je_seq (je_loop (je_blk (jn_seq (j_seq ?_)))))
      have hk2 : k = e.length := by omega
      subst hk2
      have h1 := high_end h2 hh
      refine j_region ?_
      refine jg_adr _ rfl _ rfl rfl (op_move (.base rfl)) ?_
      refine jg_adr _ rfl _ rfl rfl (op_oindex Tryz.underlying25 ty37 (.base rfl) (.base rfl) (show (0 : Int) = ((0 : Nat) : Int) from rfl) (by first | omega | (simp; done) | (simp; omega))) ?_
      refine jg_adr _ rfl _ rfl rfl (op_oload ty37 (.base rfl) rfl (List.getElem?_eq_getElem (by first | omega | (simp; done) | (simp; omega))) (Lens.id _)) ?_
      refine jg_os _ rfl (op_ostore ty37 (.base rfl) rfl rfl (Lens.id _) (.tv (.base rfl))) ?_
      refine jg_adr _ rfl _ rfl rfl (op_assign (.base rfl)) ?_
      refine jg_adr _ rfl _ rfl rfl (op_assign (.base rfl)) ?_
      refine jg_nil ?_
      refine jn_keep [4, 5, 6] [4] (.cons rfl (.cons rfl (.cons rfl .nil))) (.cons rfl .nil) ?_
      refine jn_seq (j_ret ?_)
      exact jr_fin3 Tryz.results13 (res_cell ty37 rfl rfl rfl (Lens.id rType)) (res_tmp rfl) (res_tmp rfl) ⟨rfl, rfl, rfl⟩ (svTI_eq (by rw [← hp, List.drop_of_length_le (Nat.le_refl _), tLoop, List.getElem?_eq_getElem (by omega)]; rfl))

end Go.Proofs.YtgoggdaohdablaaGreat
