import Derived.Test.YthfhekohlmboiaaP15l
import Derived.Test.YthfhekohlmboiaaEngO
import Derived.KernelRfl
namespace Go.Proofs.Ythfhekohlmboiaa
open Go.Eng
set_option maxRecDepth 100000
set_option maxHeartbeats 4000000
set_option linter.unusedVariables false
set_option linter.unusedSimpArgs false

abbrev rRuleG (B : Nat) : RT TRule := (rPair rStr (rPair (rInt .i64) (rPair (rInt .i64) (rPair (rInt .i64) (rPair rDateRange (rPair (rSliceF B rNode) (rPair (rSlice rNode) rStr)))))))
theorem tyRG (B : Nat) : Ty Try.prog 48 (rRuleG B) := Ty.mk_ Try.underlying48 rfl (by kernel_rfl)
theorem zRG (B : Nat) : TyZero Try.prog 48 (rRuleG B) ([], (0, (0, (0, ((0, 0), ([], ([], []))))))) := zr_ty (by kernel_rfl) ((zr_pair (zr_str) (zr_pair (zr_int .i64) (zr_pair (zr_int .i64) (zr_pair (zr_int .i64) (zr_pair ((zr_pair (zr_int .i64) (zr_int .i64))) (zr_pair (zr_sliceF) (zr_pair (zr_slice) (zr_str)))))))))
theorem lnRG_0 (B : Nat) : Lens (rRuleG B) 0 rStr (fun d => d.1) (fun d x => (x, d.2)) := (Lens.fst (Lens.id rStr))
theorem lnRG_1 (B : Nat) : Lens (rRuleG B) 1 (rInt .i64) (fun d => d.2.1) (fun d x => (d.1, (x, d.2.2))) := (Lens.snd (Lens.fst (Lens.id (rInt .i64))) rfl)
theorem lnRG_2 (B : Nat) : Lens (rRuleG B) 2 (rInt .i64) (fun d => d.2.2.1) (fun d x => (d.1, (d.2.1, (x, d.2.2.2)))) := (Lens.snd (Lens.snd (Lens.fst (Lens.id (rInt .i64))) rfl) rfl)
theorem lnRG_3 (B : Nat) : Lens (rRuleG B) 3 (rInt .i64) (fun d => d.2.2.2.1) (fun d x => (d.1, (d.2.1, (d.2.2.1, (x, d.2.2.2.2))))) := (Lens.snd (Lens.snd (Lens.snd (Lens.fst (Lens.id (rInt .i64))) rfl) rfl) rfl)
theorem lnRG_4 (B : Nat) : Lens (rRuleG B) 4 rDateRange (fun d => d.2.2.2.2.1) (fun d x => (d.1, (d.2.1, (d.2.2.1, (d.2.2.2.1, (x, d.2.2.2.2.2)))))) := (Lens.snd (Lens.snd (Lens.snd (Lens.snd (Lens.fst (Lens.id rDateRange)) rfl) rfl) rfl) rfl)
theorem lnRG_5 (B : Nat) : Lens (rRuleG B) 6 (rSliceF B rNode) (fun d => d.2.2.2.2.2.1) (fun d x => (d.1, (d.2.1, (d.2.2.1, (d.2.2.2.1, (d.2.2.2.2.1, (x, d.2.2.2.2.2.2))))))) := (Lens.snd (Lens.snd (Lens.snd (Lens.snd (Lens.snd (Lens.fst (Lens.id (rSliceF B rNode))) rfl) rfl) rfl) rfl) rfl)
theorem lnRG_6 (B : Nat) : Lens (rRuleG B) 7 (rSlice rNode) (fun d => d.2.2.2.2.2.2.1) (fun d x => (d.1, (d.2.1, (d.2.2.1, (d.2.2.2.1, (d.2.2.2.2.1, (d.2.2.2.2.2.1, (x, d.2.2.2.2.2.2.2)))))))) := (Lens.snd (Lens.snd (Lens.snd (Lens.snd (Lens.snd (Lens.snd (Lens.fst (Lens.id (rSlice rNode))) rfl) rfl) rfl) rfl) rfl) rfl)
theorem lnRG_7 (B : Nat) : Lens (rRuleG B) 8 rStr (fun d => d.2.2.2.2.2.2.2) (fun d x => (d.1, (d.2.1, (d.2.2.1, (d.2.2.2.1, (d.2.2.2.2.1, (d.2.2.2.2.2.1, (d.2.2.2.2.2.2.1, x)))))))) := (Lens.snd (Lens.snd (Lens.snd (Lens.snd (Lens.snd (Lens.snd (Lens.snd (Lens.id rStr) rfl) rfl) rfl) rfl) rfl) rfl) rfl)
abbrev rRuleF (B : Nat) : RT TRule := (rPair rStr (rPair (rInt .i64) (rPair (rInt .i64) (rPair (rInt .i64) (rPair rDateRange (rPair (rSliceF B rNode) (rPair (rSliceF B rNode) rStr)))))))
theorem tyRF (B : Nat) : Ty Try.prog 48 (rRuleF B) := Ty.mk_ Try.underlying48 rfl (by kernel_rfl)
theorem zRF (B : Nat) : TyZero Try.prog 48 (rRuleF B) ([], (0, (0, (0, ((0, 0), ([], ([], []))))))) := zr_ty (by kernel_rfl) ((zr_pair (zr_str) (zr_pair (zr_int .i64) (zr_pair (zr_int .i64) (zr_pair (zr_int .i64) (zr_pair ((zr_pair (zr_int .i64) (zr_int .i64))) (zr_pair (zr_sliceF) (zr_pair (zr_sliceF) (zr_str)))))))))
theorem lnRF_0 (B : Nat) : Lens (rRuleF B) 0 rStr (fun d => d.1) (fun d x => (x, d.2)) := (Lens.fst (Lens.id rStr))
theorem lnRF_1 (B : Nat) : Lens (rRuleF B) 1 (rInt .i64) (fun d => d.2.1) (fun d x => (d.1, (x, d.2.2))) := (Lens.snd (Lens.fst (Lens.id (rInt .i64))) rfl)
theorem lnRF_2 (B : Nat) : Lens (rRuleF B) 2 (rInt .i64) (fun d => d.2.2.1) (fun d x => (d.1, (d.2.1, (x, d.2.2.2)))) := (Lens.snd (Lens.snd (Lens.fst (Lens.id (rInt .i64))) rfl) rfl)
theorem lnRF_3 (B : Nat) : Lens (rRuleF B) 3 (rInt .i64) (fun d => d.2.2.2.1) (fun d x => (d.1, (d.2.1, (d.2.2.1, (x, d.2.2.2.2))))) := (Lens.snd (Lens.snd (Lens.snd (Lens.fst (Lens.id (rInt .i64))) rfl) rfl) rfl)
theorem lnRF_4 (B : Nat) : Lens (rRuleF B) 4 rDateRange (fun d => d.2.2.2.2.1) (fun d x => (d.1, (d.2.1, (d.2.2.1, (d.2.2.2.1, (x, d.2.2.2.2.2)))))) := (Lens.snd (Lens.snd (Lens.snd (Lens.snd (Lens.fst (Lens.id rDateRange)) rfl) rfl) rfl) rfl)
theorem lnRF_5 (B : Nat) : Lens (rRuleF B) 6 (rSliceF B rNode) (fun d => d.2.2.2.2.2.1) (fun d x => (d.1, (d.2.1, (d.2.2.1, (d.2.2.2.1, (d.2.2.2.2.1, (x, d.2.2.2.2.2.2))))))) := (Lens.snd (Lens.snd (Lens.snd (Lens.snd (Lens.snd (Lens.fst (Lens.id (rSliceF B rNode))) rfl) rfl) rfl) rfl) rfl)
theorem lnRF_6 (B : Nat) : Lens (rRuleF B) 7 (rSliceF B rNode) (fun d => d.2.2.2.2.2.2.1) (fun d x => (d.1, (d.2.1, (d.2.2.1, (d.2.2.2.1, (d.2.2.2.2.1, (d.2.2.2.2.2.1, (x, d.2.2.2.2.2.2.2)))))))) := (Lens.snd (Lens.snd (Lens.snd (Lens.snd (Lens.snd (Lens.snd (Lens.fst (Lens.id (rSliceF B rNode))) rfl) rfl) rfl) rfl) rfl) rfl)
theorem lnRF_7 (B : Nat) : Lens (rRuleF B) 8 rStr (fun d => d.2.2.2.2.2.2.2) (fun d x => (d.1, (d.2.1, (d.2.2.1, (d.2.2.2.1, (d.2.2.2.2.1, (d.2.2.2.2.2.1, (d.2.2.2.2.2.2.1, x)))))))) := (Lens.snd (Lens.snd (Lens.snd (Lens.snd (Lens.snd (Lens.snd (Lens.snd (Lens.id rStr) rfl) rfl) rfl) rfl) rfl) rfl) rfl)
abbrev rScopeI (B : Nat) : RT TScope := (rPair rStr (rPair (rInt .i64) (rPair (rSliceF B rField) (rPair (rSlice rField) (rSlice rRule)))))
theorem tySI (B : Nat) : Ty Try.prog 40 (rScopeI B) := Ty.mk_ Try.underlying40 rfl (by kernel_rfl)
theorem zSI (B : Nat) : TyZero Try.prog 40 (rScopeI B) ([], (0, ([], ([], [])))) := zr_ty (by kernel_rfl) ((zr_pair (zr_str) (zr_pair (zr_int .i64) (zr_pair (zr_sliceF) (zr_pair (zr_slice) (zr_slice))))))
theorem lnSI_0 (B : Nat) : Lens (rScopeI B) 0 rStr (fun d => d.1) (fun d x => (x, d.2)) := (Lens.fst (Lens.id rStr))
theorem lnSI_1 (B : Nat) : Lens (rScopeI B) 1 (rInt .i64) (fun d => d.2.1) (fun d x => (d.1, (x, d.2.2))) := (Lens.snd (Lens.fst (Lens.id (rInt .i64))) rfl)
theorem lnSI_2 (B : Nat) : Lens (rScopeI B) 2 (rSliceF B rField) (fun d => d.2.2.1) (fun d x => (d.1, (d.2.1, (x, d.2.2.2)))) := (Lens.snd (Lens.snd (Lens.fst (Lens.id (rSliceF B rField))) rfl) rfl)
theorem lnSI_3 (B : Nat) : Lens (rScopeI B) 3 (rSlice rField) (fun d => d.2.2.2.1) (fun d x => (d.1, (d.2.1, (d.2.2.1, (x, d.2.2.2.2))))) := (Lens.snd (Lens.snd (Lens.snd (Lens.fst (Lens.id (rSlice rField))) rfl) rfl) rfl)
theorem lnSI_4 (B : Nat) : Lens (rScopeI B) 4 (rSlice rRule) (fun d => d.2.2.2.2) (fun d x => (d.1, (d.2.1, (d.2.2.1, (d.2.2.2.1, x))))) := (Lens.snd (Lens.snd (Lens.snd (Lens.snd (Lens.id (rSlice rRule)) rfl) rfl) rfl) rfl)
abbrev rScopeF (B : Nat) : RT TScope := (rPair rStr (rPair (rInt .i64) (rPair (rSliceF B rField) (rPair (rSlice rField) (rSlice (rRuleF B))))))
theorem tySF (B : Nat) : Ty Try.prog 40 (rScopeF B) := Ty.mk_ Try.underlying40 rfl (by kernel_rfl)
theorem zSF (B : Nat) : TyZero Try.prog 40 (rScopeF B) ([], (0, ([], ([], [])))) := zr_ty (by kernel_rfl) ((zr_pair (zr_str) (zr_pair (zr_int .i64) (zr_pair (zr_sliceF) (zr_pair (zr_slice) (zr_slice))))))
theorem lnSF_0 (B : Nat) : Lens (rScopeF B) 0 rStr (fun d => d.1) (fun d x => (x, d.2)) := (Lens.fst (Lens.id rStr))
theorem lnSF_1 (B : Nat) : Lens (rScopeF B) 1 (rInt .i64) (fun d => d.2.1) (fun d x => (d.1, (x, d.2.2))) := (Lens.snd (Lens.fst (Lens.id (rInt .i64))) rfl)
theorem lnSF_2 (B : Nat) : Lens (rScopeF B) 2 (rSliceF B rField) (fun d => d.2.2.1) (fun d x => (d.1, (d.2.1, (x, d.2.2.2)))) := (Lens.snd (Lens.snd (Lens.fst (Lens.id (rSliceF B rField))) rfl) rfl)
theorem lnSF_3 (B : Nat) : Lens (rScopeF B) 3 (rSlice rField) (fun d => d.2.2.2.1) (fun d x => (d.1, (d.2.1, (d.2.2.1, (x, d.2.2.2.2))))) := (Lens.snd (Lens.snd (Lens.snd (Lens.fst (Lens.id (rSlice rField))) rfl) rfl) rfl)
theorem lnSF_4 (B : Nat) : Lens (rScopeF B) 4 (rSlice (rRuleF B)) (fun d => d.2.2.2.2) (fun d x => (d.1, (d.2.1, (d.2.2.1, (d.2.2.2.1, x))))) := (Lens.snd (Lens.snd (Lens.snd (Lens.snd (Lens.id (rSlice (rRuleF B))) rfl) rfl) rfl) rfl)
abbrev rLawF (B : Nat) : RT TLaw := (rPair (rSlice rEnum) (rPair (rSlice rTable) (rSlice (rScopeF B))))
theorem tyLF (B : Nat) : Ty Try.prog 26 (rLawF B) := Ty.mk_ Try.underlying26 rfl (by kernel_rfl)
theorem zLF (B : Nat) : TyZero Try.prog 26 (rLawF B) ([], ([], [])) := zr_ty (by kernel_rfl) ((zr_pair (zr_slice) (zr_pair (zr_slice) (zr_slice))))
theorem lnLF_0 (B : Nat) : Lens (rLawF B) 0 (rSlice rEnum) (fun d => d.1) (fun d x => (x, d.2)) := (Lens.fst (Lens.id (rSlice rEnum)))
theorem lnLF_1 (B : Nat) : Lens (rLawF B) 1 (rSlice rTable) (fun d => d.2.1) (fun d x => (d.1, (x, d.2.2))) := (Lens.snd (Lens.fst (Lens.id (rSlice rTable))) rfl)
theorem lnLF_2 (B : Nat) : Lens (rLawF B) 2 (rSlice (rScopeF B)) (fun d => d.2.2) (fun d x => (d.1, (d.2.1, x))) := (Lens.snd (Lens.snd (Lens.id (rSlice (rScopeF B))) rfl) rfl)
theorem lt_R1 (B : Nat) : LensT rRule 6 (rSliceF B rNode) (rRuleG B) (fun (d : TRule) x => (d.1, (d.2.1, (d.2.2.1, (d.2.2.2.1, (d.2.2.2.2.1, (x, d.2.2.2.2.2.2))))))) := (LensT.snd (LensT.snd (LensT.snd (LensT.snd (LensT.snd (LensT.fst (LensT.id (rSlice rNode) (rSliceF B rNode) rfl)) rfl) rfl) rfl) rfl) rfl)
theorem lt_R2 (B : Nat) : LensT (rRuleG B) 7 (rSliceF B rNode) (rRuleF B) (fun (d : TRule) x => (d.1, (d.2.1, (d.2.2.1, (d.2.2.2.1, (d.2.2.2.2.1, (d.2.2.2.2.2.1, (x, d.2.2.2.2.2.2.2)))))))) := (LensT.snd (LensT.snd (LensT.snd (LensT.snd (LensT.snd (LensT.snd (LensT.fst (LensT.id (rSlice rNode) (rSliceF B rNode) rfl)) rfl) rfl) rfl) rfl) rfl) rfl)
theorem lt_S1 (B : Nat) : LensT rScope 2 (rSliceF B rField) (rScopeI B) (fun (d : TScope) x => (d.1, (d.2.1, (x, d.2.2.2)))) := (LensT.snd (LensT.snd (LensT.fst (LensT.id (rSlice rField) (rSliceF B rField) rfl)) rfl) rfl)
theorem lt_S2 (B : Nat) : LensT (rScopeI B) 4 (rSlice (rRuleF B)) (rScopeF B) (fun (d : TScope) x => (d.1, (d.2.1, (d.2.2.1, (d.2.2.2.1, x))))) := (LensT.snd (LensT.snd (LensT.snd (LensT.snd (LensT.id (rSlice rRule) (rSlice (rRuleF B)) rfl) rfl) rfl) rfl) rfl)
theorem tyFN (B : Nat) : Ty Try.prog 46 (rSliceF B rNode) := Ty.mk_ Try.underlying46 rfl (by kernel_rfl)
theorem tyFF (B : Nat) : Ty Try.prog 37 (rSliceF B rField) := Ty.mk_ Try.underlying37 rfl (by kernel_rfl)
theorem tyRFs (B : Nat) : Ty Try.prog 38 (rSlice (rRuleF B)) := Ty.mk_ Try.underlying38 rfl (by kernel_rfl)
theorem tySFs (B : Nat) : Ty Try.prog 24 (rSlice (rScopeF B)) := Ty.mk_ Try.underlying24 rfl (by kernel_rfl)
theorem noex {w : World} {ok : Ok} {n : Nat} : ∀ q, ¬ (Cx.of w ok n).ex q := fun _ h => h

theorem jr_vacF {P : Program} {cx : Cx} {st : St} {k : Kn} {α : Type} (i nm : Nat) (rt : RT α) [NM rt] (hs : lookS st.slots i = some (.raw (.slice none 0 0))) (hf : freeS nm st.slots = true) (hn : lookH st.heap nm = none) (h : JR P cx ⟨(i, .own nm rt.n 0 0) :: st.slots, (nm, ⟨rt, []⟩) :: st.heap⟩ k) : JR P cx st k := fun a w hi => h a w (inv_vac rt hs hf hn hi)
theorem cloneN_F (B : Nat) (l : List TNode) (hlm : l.length ≤ 1000000) : CtB B Try.prog 49 [.tv (rSlice rNode) l] (.tv (rSliceF B rNode) l) := by
  refine ctB_intro Try.func49 rfl rfl Try.ntmps49 rfl rfl ?_
  intro w0 ok0 hB0
  refine j_seq ?_
  refine j_region ?_
  refine jg_adr _ rfl _ rfl rfl (op_assign (.base rfl)) ?_
  refine jg_nil ?_
  refine jn_keep [0] [] (.cons rfl .nil) .nil ?_
  refine jn_seq (j_seq (j_seq ?_))
  refine j_region ?_
  refine jg_adr _ rfl _ rfl rfl (op_move (.base rfl)) ?_
  refine jg_val 3 rfl (fun A cap hA => ?_)
  refine jg_adr _ rfl _ rfl rfl (op_eqlnil Try.underlying46 (.base rfl) (.base rfl)) ?_
  refine jg_nil ?_
  refine jn_keep [0, 4] [] (.cons rfl (.cons rfl .nil)) .nil ?_
  refine jn_seq ?_
  refine j_cond rfl (fun h1 => ?_) (fun h1 => ?_)
  · have hl : l = [] := hA (Option.isNone_iff_eq_none.1 h1)
    refine j_seq ?_
    refine j_region ?_
    refine jg_adr _ rfl _ rfl rfl (op_assign (.base rfl)) ?_
    refine jg_nil ?_
    refine jn_keep [2] [] (.cons rfl .nil) .nil ?_
    refine jn_seq (j_ret (jr_seq ?_))
    refine jr_vacF 2 70 rNode rfl rfl rfl ?_
    refine jr_sealF (B := B) (rt := rNode) 70 2 (dropH 70 _) hB0 noex rfl rfl (by simp) (dropH_sub 70 _) (dropH_no 70 _) ?_
    exact jr_fin1 Try.results49 (res_tmp rfl) rfl (by rw [hl]; rfl)
  · skip
    refine j_skip (jn_seq (j_seq ?_))
    refine j_region ?_
    refine jg_os _ rfl (op_obslice (rt := rNode) (ds := []) Try.underlying46 ty50 z50 rfl .nil rfl rfl rfl rfl rfl) ?_
    refine jg_adr _ rfl _ rfl rfl (op_move (.base rfl)) ?_
    refine jg_os _ rfl (op_append [] Try.underlying46 ty50 z50 rfl by50 (.base rfl) rfl (by (try simp); try omega) (.tv (.base rfl)) (by unfold maxLen; (try simp); try omega) (by (try simp); try omega) rfl .nil rfl) ?_
    refine jg_adr _ rfl _ rfl rfl (op_assign (.base rfl)) ?_
    refine jg_nil ?_
    refine jn_keep [2] [5] (.cons rfl .nil) (.cons rfl .nil) ?_
    refine jn_seq (j_ret ?_)
    refine jr_sealF (B := B) (rt := rNode) 5 2 (dropH 5 _) hB0 noex rfl rfl (by simp) (dropH_sub 5 _) (dropH_no 5 _) ?_
    exact jr_fin1 Try.results49 (res_tmp rfl) rfl (congrArg (SV.tv (rSliceF B rNode)) (by simp))

theorem cloneF_F (B : Nat) (l : List TField) (hlm : l.length ≤ 1000000) : CtB B Try.prog 50 [.tv (rSlice rField) l] (.tv (rSliceF B rField) l) := by
  refine ctB_intro Try.func50 rfl rfl Try.ntmps50 rfl rfl ?_
  intro w0 ok0 hB0
  refine j_seq ?_
  refine j_region ?_
  refine jg_adr _ rfl _ rfl rfl (op_assign (.base rfl)) ?_
  refine jg_nil ?_
  refine jn_keep [0] [] (.cons rfl .nil) .nil ?_
  refine jn_seq (j_seq (j_seq ?_))
  refine j_region ?_
  refine jg_adr _ rfl _ rfl rfl (op_move (.base rfl)) ?_
  refine jg_val 3 rfl (fun A cap hA => ?_)
  refine jg_adr _ rfl _ rfl rfl (op_eqlnil Try.underlying37 (.base rfl) (.base rfl)) ?_
  refine jg_nil ?_
  refine jn_keep [0, 4] [] (.cons rfl (.cons rfl .nil)) .nil ?_
  refine jn_seq ?_
  refine j_cond rfl (fun h1 => ?_) (fun h1 => ?_)
  · have hl : l = [] := hA (Option.isNone_iff_eq_none.1 h1)
    refine j_seq ?_
    refine j_region ?_
    refine jg_adr _ rfl _ rfl rfl (op_assign (.base rfl)) ?_
    refine jg_nil ?_
    refine jn_keep [2] [] (.cons rfl .nil) .nil ?_
    refine jn_seq (j_ret (jr_seq ?_))
    refine jr_vacF 2 70 rField rfl rfl rfl ?_
    refine jr_sealF (B := B) (rt := rField) 70 2 (dropH 70 _) hB0 noex rfl rfl (by simp) (dropH_sub 70 _) (dropH_no 70 _) ?_
    exact jr_fin1 Try.results50 (res_tmp rfl) rfl (by rw [hl]; rfl)
  · skip
    refine j_skip (jn_seq (j_seq ?_))
    refine j_region ?_
    refine jg_os _ rfl (op_obslice (rt := rField) (ds := []) Try.underlying37 ty54 z54 rfl .nil rfl rfl rfl rfl rfl) ?_
    refine jg_adr _ rfl _ rfl rfl (op_move (.base rfl)) ?_
    refine jg_os _ rfl (op_append [] Try.underlying37 ty54 z54 rfl by54 (.base rfl) rfl (by (try simp); try omega) (.tv (.base rfl)) (by unfold maxLen; (try simp); try omega) (by (try simp); try omega) rfl .nil rfl) ?_
    refine jg_adr _ rfl _ rfl rfl (op_assign (.base rfl)) ?_
    refine jg_nil ?_
    refine jn_keep [2] [5] (.cons rfl .nil) (.cons rfl .nil) ?_
    refine jn_seq (j_ret ?_)
    refine jr_sealF (B := B) (rt := rField) 5 2 (dropH 5 _) hB0 noex rfl rfl (by simp) (dropH_sub 5 _) (dropH_no 5 _) ?_
    exact jr_fin1 Try.results50 (res_tmp rfl) rfl (congrArg (SV.tv (rSliceF B rField)) (by simp))

theorem scopeOn_F (B : Nat) (s : TScope) (date : Int) (hS : SLim s) : CtB B Try.prog 30 [.tv rScope s, .raw (.int .i64 date)] (.tv (rScopeF B) (scpOn date s)) := by
  refine ctB_intro Try.func30 rfl rfl Try.ntmps30 rfl rfl ?_
  intro w0 ok0 hB0
  obtain ⟨hI, hD, hlm, hR⟩ := hS
  refine j_seq ?_
  refine j_region ?_
  refine jg_os _ rfl (op_box (.tv (.base rfl)) rfl rfl rfl) ?_
  refine jg_adr _ rfl _ rfl rfl (op_boxe (rt := rInt .i64) (.raw (.base rfl) rfl)) ?_
  refine jg_os _ rfl (op_alloc _ z40 rfl rfl rfl) ?_
  refine jg_nil ?_
  refine jn_keep [2, 3, 4] [2, 4] (.cons rfl (.cons rfl (.cons rfl .nil))) (.cons rfl (.cons rfl .nil)) ?_
  refine jn_seq (j_seq ?_)
  refine j_region ?_
  refine jg_adr _ rfl _ rfl rfl (op_ofield fld40_4 (.base rfl)) ?_
  refine jg_adr _ rfl _ rfl rfl (op_oload ty38 (.base rfl) rfl rfl ln40_4) ?_
  refine jg_adr _ rfl _ rfl rfl (op_mkfun (A := rRule) (B := rBool) (sa := [.eptr (rInt .i64) date]) (φ := fun _ => True) (fA date) (callFunc_enter Try.func48 rfl (by kernel_rfl)) (fun x _ => scopeC_ok x date) (.cons (.base rfl) .nil) rfl) ?_
  refine jg_adr _ rfl _ rfl rfl (op_call (remaining_ok _ _ (by omega)) (.cons (.base rfl) (.cons (.base rfl) .nil)) rfl rfl) ?_
  refine jg_adr _ rfl _ rfl rfl (op_move (.base rfl)) ?_
  refine jg_adr _ rfl _ rfl rfl (op_ext20 (.base rfl)) ?_
  refine jg_adr _ rfl _ rfl rfl (op_ext21 (.base rfl)) ?_
  refine jg_adr _ rfl _ rfl rfl (op_assign (.base rfl)) ?_
  refine jg_adr _ rfl _ rfl rfl (op_assign (.base rfl)) ?_
  refine jg_nil ?_
  refine jn_keep [2, 4, 5, 6] [2, 4] (.cons rfl (.cons rfl (.cons rfl (.cons rfl .nil)))) (.cons rfl (.cons rfl .nil)) ?_
  refine jn_seq (j_seq ?_)
  refine j_region ?_
  refine jg_adr _ rfl _ rfl rfl (op_assign (.base rfl)) ?_
  refine jg_nil ?_
  refine jn_keep [2, 4, 5, 6, 7] [2, 4] (.cons rfl (.cons rfl (.cons rfl (.cons rfl (.cons rfl .nil))))) (.cons rfl (.cons rfl .nil)) ?_
  refine jn_seq (j_seq (j_seq ?_))
  have q1 := idxI_len (fA date) s.2.2.2.2 s.2.2.2.2.length
  have q2 := idxs_len (fA date) s.2.2.2.2 s.2.2.2.2.length
  have q3 := parI_len (fA date) s.2.2.2.2 s.2.2.2.2.length
  refine j_region ?_
  refine jg_adr _ rfl _ rfl rfl (op_move (.base rfl)) ?_
  refine jg_adr _ rfl _ rfl rfl (op_len Try.underlying32 (.base rfl)) ?_
  refine jg_adr _ rfl _ rfl rfl (op_move (.base rfl)) ?_
  refine jg_nil ?_
  refine jn_keep [2, 4, 6, 7, 18, 19, 20] [2, 4] (.cons rfl (.cons rfl (.cons rfl (.cons rfl (.cons rfl (.cons rfl (.cons rfl .nil))))))) (.cons rfl (.cons rfl .nil)) ?_
  refine jn_seq (j_block ?_)
  refine j_vac 70 7 (rRuleF B) rfl rfl rfl ?_
  refine j_loopp (ι := Nat) (fun k => ⟨[(2, .optr 2 rScope.n 0 0), (4, .optr 4 rScope.n 0 0), (6, .tv (rSlice (rInt .i64)) (parI (fA date) s.2.2.2.2 s.2.2.2.2.length)), (7, .own 70 (rRuleF B).n 0 (rulK (fA date) s.2.2.2.2 s.2.2.2.2.length k).length), (18, .tv (rSlice (rInt .i64)) (idxI (fA date) s.2.2.2.2 s.2.2.2.2.length)), (19, .raw (.int .i64 ((idxI (fA date) s.2.2.2.2 s.2.2.2.2.length).length))), (20, .raw (.int .i64 ((k : Nat))))], [(2, ⟨rScope, [s]⟩), (4, ⟨rScope, [([], 0, [], [], [])]⟩), (70, ⟨rRuleF B, (rulK (fA date) s.2.2.2.2 s.2.2.2.2.length k)⟩)]⟩) (fun k => k ≤ (idxs (fA date) s.2.2.2.2 s.2.2.2.2.length).length) (fun k => (idxs (fA date) s.2.2.2.2 s.2.2.2.2.length).length - k) 0 (Nat.zero_le _) (fun a w hi => (Sub.inv ⟨(by repeat (first | exact SubS_nil | refine SubS_cons rfl (by first | rfl | (simp; done) | assumption) ?_)), (by repeat (first | exact SubH_nil | refine SubH_cons rfl (by first | rfl | (simp; done) | assumption) ?_))⟩ hi)) ?_
  rintro k hk
  have q4 := rulK_len (f := (fA date)) (l := s.2.2.2.2) (n := s.2.2.2.2.length) (k := k)
  refine j_seq ?_
  refine j_region ?_
  refine jg_adr _ rfl _ rfl rfl (op_lss (.base rfl) (.base rfl)) ?_
  refine jg_nil ?_
  refine jn_keep [2, 4, 6, 7, 18, 19, 20, 21] [2, 4, 70] (.cons rfl (.cons rfl (.cons rfl (.cons rfl (.cons rfl (.cons rfl (.cons rfl (.cons rfl .nil)))))))) (.cons rfl (.cons rfl (.cons rfl .nil))) ?_
  refine jn_seq (j_seq ?_)
  refine j_cond rfl (fun h4 => ?_) (fun h4 => ?_)
  · have h4 : k < (idxs (fA date) s.2.2.2.2 s.2.2.2.2.length).length := by simp at h4; omega
    have g2 := idxs_get_lt h4
    have hs := rulK_succ h4 g2
    have hgl := hR _ (List.getElem_mem g2)
    refine j_skip (jn_seq (j_seq (j_block (j_seq ?_))))
    refine j_region ?_
    refine jg_adr _ rfl _ rfl rfl (op_move (.base rfl)) ?_
    refine jg_adr _ rfl _ rfl rfl (op_index Try.underlying32 ty3 (.base rfl) (.base rfl) rfl (List.getElem?_eq_getElem (by first | omega | (simp; done) | (simp; omega) | (simp at hg; omega)))) ?_
    refine jg_adr _ rfl _ rfl rfl (op_load ty3 (.base rfl)) ?_
    refine jg_adr _ rfl _ rfl rfl (op_assign (.base rfl)) ?_
    refine jg_adr _ rfl _ rfl rfl (op_assign (.base rfl)) ?_
    refine jg_nil ?_
    refine jn_keep [2, 4, 6, 7, 8, 9, 18, 19, 20] [2, 4, 70] (.cons rfl (.cons rfl (.cons rfl (.cons rfl (.cons rfl (.cons rfl (.cons rfl (.cons rfl (.cons rfl .nil))))))))) (.cons rfl (.cons rfl (.cons rfl .nil))) ?_
    refine jn_seq (j_seq ?_)
    refine j_region ?_
    refine jg_adr _ rfl _ rfl rfl (op_ofield fld40_4 (.base rfl)) ?_
    refine jg_adr _ rfl _ rfl rfl (op_oload ty38 (.base rfl) rfl rfl ln40_4) ?_
    refine jg_adr _ rfl _ rfl rfl (op_move (.base rfl)) ?_
    refine jg_adr _ rfl _ rfl rfl (op_index Try.underlying38 ty48 (.base rfl) (.base rfl) (idxI_at h4) (List.getElem?_eq_getElem (by first | omega | (simp; done) | (simp; omega) | (simp at hg; omega)))) ?_
    refine jg_adr _ rfl _ rfl rfl (op_load ty48 (.base rfl)) ?_
    refine jg_os _ rfl (op_alloc _ z48 rfl rfl rfl) ?_
    refine jg_os _ rfl (op_ostore ty48 (.base rfl) rfl rfl (Lens.id _) (.tv (.base rfl))) ?_
    refine jg_nil ?_
    refine jn_keep [2, 4, 6, 7, 8, 10, 18, 19, 20] [2, 4, 10, 70] (.cons rfl (.cons rfl (.cons rfl (.cons rfl (.cons rfl (.cons rfl (.cons rfl (.cons rfl (.cons rfl .nil))))))))) (.cons rfl (.cons rfl (.cons rfl (.cons rfl .nil)))) ?_
    refine jn_seq (j_seq ?_)
    refine j_region ?_
    refine jg_adr _ rfl _ rfl rfl (op_move (.base rfl)) ?_
    refine jg_adr _ rfl _ rfl rfl (op_move (.base rfl)) ?_
    refine jg_adr _ rfl _ rfl rfl (op_index Try.underlying32 ty3 (.base rfl) (.base rfl) rfl (List.getElem?_eq_getElem (by first | omega | (simp; done) | (simp; omega) | (simp at hg; omega)))) ?_
    refine jg_adr _ rfl _ rfl rfl (op_load ty3 (.base rfl)) ?_
    refine jg_adr _ rfl _ rfl rfl (op_ofield fld48_2 (.base rfl)) ?_
    refine jg_os _ rfl (op_ostore ty3 (.base rfl) rfl rfl ln48_2 (.raw (.base rfl) rfl)) ?_
    refine jg_nil ?_
    refine jn_keep [2, 4, 6, 7, 10, 18, 19, 20] [2, 4, 10, 70] (.cons rfl (.cons rfl (.cons rfl (.cons rfl (.cons rfl (.cons rfl (.cons rfl (.cons rfl .nil)))))))) (.cons rfl (.cons rfl (.cons rfl (.cons rfl .nil)))) ?_
    refine jn_seq (j_seq ?_)
    refine j_region ?_
    refine jg_adr _ rfl _ rfl rfl (op_call alldates_ok .nil rfl rfl) ?_
    refine jg_adr _ rfl _ rfl rfl (op_ofield fld48_4 (.base rfl)) ?_
    refine jg_os _ rfl (op_ostore ty45 (.base rfl) rfl rfl ln48_4 (.tv (.base rfl))) ?_
    refine jg_nil ?_
    refine jn_keep [2, 4, 6, 7, 10, 18, 19, 20] [2, 4, 10, 70] (.cons rfl (.cons rfl (.cons rfl (.cons rfl (.cons rfl (.cons rfl (.cons rfl (.cons rfl .nil)))))))) (.cons rfl (.cons rfl (.cons rfl (.cons rfl .nil)))) ?_
    refine jn_seq (j_seq ?_)
    refine j_region ?_
    refine jg_adr _ rfl _ rfl rfl (op_ofield fld48_5 (.base rfl)) ?_
    refine jg_adr _ rfl _ rfl rfl (op_oload ty46 (.base rfl) rfl rfl ln48_5) ?_
    refine jg_adr _ rfl _ rfl rfl (op_callB hB0 (cloneN_F B _ (Nat.le_trans hgl.1 (by decide))) (.cons (.base rfl) .nil) rfl rfl) ?_
    refine jg_adr _ rfl _ rfl rfl (op_ofield fld48_5 (.base rfl)) ?_
    refine jg_os _ rfl (op_ostoreT (rt := rRule) (tyFN B) (.base rfl) rfl (lt_R1 B) (.tv (.base rfl))) ?_
    refine jg_nil ?_
    refine jn_keep [2, 4, 6, 7, 10, 18, 19, 20] [2, 4, 10, 70] (.cons rfl (.cons rfl (.cons rfl (.cons rfl (.cons rfl (.cons rfl (.cons rfl (.cons rfl .nil)))))))) (.cons rfl (.cons rfl (.cons rfl (.cons rfl .nil)))) ?_
    refine jn_seq (j_seq ?_)
    refine j_region ?_
    refine jg_adr _ rfl _ rfl rfl (op_ofield fld48_6 (.base rfl)) ?_
    refine jg_adr _ rfl _ rfl rfl (op_oload (rt := rRuleG B) ty46 (.base rfl) rfl rfl (lnRG_6 B)) ?_
    refine jg_adr _ rfl _ rfl rfl (op_callB hB0 (cloneN_F B _ (Nat.le_trans hgl.2 (by decide))) (.cons (.base rfl) .nil) rfl rfl) ?_
    refine jg_adr _ rfl _ rfl rfl (op_ofield fld48_6 (.base rfl)) ?_
    refine jg_os _ rfl (op_ostoreT (rt := rRuleG B) (tyFN B) (.base rfl) rfl (lt_R2 B) (.tv (.base rfl))) ?_
    refine jg_nil ?_
    refine jn_keep [2, 4, 6, 7, 10, 18, 19, 20] [2, 4, 10, 70] (.cons rfl (.cons rfl (.cons rfl (.cons rfl (.cons rfl (.cons rfl (.cons rfl (.cons rfl .nil)))))))) (.cons rfl (.cons rfl (.cons rfl (.cons rfl .nil)))) ?_
    refine jn_seq ?_
    refine j_region ?_
    refine jg_adr _ rfl _ rfl rfl (op_move (.base rfl)) ?_
    refine jg_adr _ rfl _ rfl rfl (op_oload (rt := rRuleF B) (tyRF B) (.base rfl) rfl rfl (Lens.id _)) ?_
    refine jg_adr _ rfl _ rfl rfl (op_bslice (rt := rRuleF B) Try.underlying38 (tyRF B) (zRF B) rfl (.cons (.tv (.base rfl)) .nil) rfl rfl) ?_
    refine jg_os _ rfl (op_append [2, 4, 6, 18, 19, 20] Try.underlying38 (tyRF B) (zRF B) rfl by48 (.base rfl) rfl (by (try simp); try omega) (.tv (.base rfl)) (by unfold maxLen; (try simp); try omega) (by (try simp); try omega) rfl (.cons rfl (.cons rfl (.cons rfl (.cons rfl (.cons rfl (.cons rfl .nil)))))) rfl) ?_
    refine jg_adr _ rfl _ rfl rfl (op_assign (.base rfl)) ?_
    refine jg_nil ?_
    refine jn_keep [2, 4, 6, 7, 18, 19, 20] [2, 4, 70] (.cons rfl (.cons rfl (.cons rfl (.cons rfl (.cons rfl (.cons rfl (.cons rfl .nil))))))) (.cons rfl (.cons rfl (.cons rfl .nil))) ?_
    refine jn_blk (jn_seq ?_)
    refine j_region ?_
    refine jg_adr _ rfl _ rfl rfl (op_add (.base rfl) (.base rfl) (w64 (by omega))) ?_
    refine jg_adr _ rfl _ rfl rfl (op_move (.base rfl)) ?_
    refine jg_nil ?_
    refine jn_keep [2, 4, 6, 7, 18, 19, 20] [2, 4, 70] (.cons rfl (.cons rfl (.cons rfl (.cons rfl (.cons rfl (.cons rfl (.cons rfl .nil))))))) (.cons rfl (.cons rfl (.cons rfl .nil))) ?_
    exact jn_loop (fun a w hi => ⟨k + 1, (by omega), (by omega), Sub.inv ⟨(by repeat (first | exact SubS_nil | refine SubS_cons rfl (by first | rfl | (refine congrArg (SV.own 70 (rRuleF B).n 0) ?_; first | (rw [hs]; simp; done))) ?_)), (by repeat (first | exact SubH_nil | refine SubH_cons rfl (by first | rfl | (refine congrArg (HB.mk (rRuleF B)) ?_; first | rfl | (rw [hs, parI_at h4]; (try simp only [List.drop_zero, List.take_length]); first | done | rfl | (simp; done); done))) ?_))⟩ hi⟩)
  · simp at h4
    refine j_exit (je_seq (je_loop (je_blk (jn_seq (j_seq ?_)))))
    obtain rfl : k = (idxs (fA date) s.2.2.2.2 s.2.2.2.2.length).length := by omega
    rw [rulK_n]
    refine j_seal (rt := rRuleF B) 70 7 (dropH 70 _) rfl rfl (by simp) (dropH_sub 70 _) (dropH_no 70 _) ?_
    rw [List.drop_zero, List.take_length]
    refine j_region ?_
    refine jg_adr _ rfl _ rfl rfl (op_ofield fld40_2 (.base rfl)) ?_
    refine jg_adr _ rfl _ rfl rfl (op_oload ty37 (.base rfl) rfl rfl ln40_2) ?_
    refine jg_adr _ rfl _ rfl rfl (op_callB hB0 (cloneF_F B _ (Nat.le_trans hI (by decide))) (.cons (.base rfl) .nil) rfl rfl) ?_
    refine jg_adr _ rfl _ rfl rfl (op_ofield fld40_2 (.base rfl)) ?_
    refine jg_os _ rfl (op_ostoreT (rt := rScope) (tyFF B) (.base rfl) rfl (lt_S1 B) (.tv (.base rfl))) ?_
    refine jg_nil ?_
    refine jn_keep [2, 4, 7] [2, 4] (.cons rfl (.cons rfl (.cons rfl .nil))) (.cons rfl (.cons rfl .nil)) ?_
    refine jn_seq (j_seq ?_)
    refine j_region ?_
    refine jg_adr _ rfl _ rfl rfl (op_ofield fld40_3 (.base rfl)) ?_
    refine jg_adr _ rfl _ rfl rfl (op_oload (rt := rScopeI B) ty37 (.base rfl) rfl rfl (lnSI_3 B)) ?_
    refine jg_adr _ rfl _ rfl rfl (op_call (cloneF_ok _ (Nat.le_trans hD (by decide))) (.cons (.base rfl) .nil) rfl rfl) ?_
    refine jg_adr _ rfl _ rfl rfl (op_ofield fld40_3 (.base rfl)) ?_
    refine jg_os _ rfl (op_ostore (rt := rScopeI B) ty37 (.base rfl) rfl rfl (lnSI_3 B) (.tv (.base rfl))) ?_
    refine jg_nil ?_
    refine jn_keep [2, 4, 7] [2, 4] (.cons rfl (.cons rfl (.cons rfl .nil))) (.cons rfl (.cons rfl .nil)) ?_
    refine jn_seq (j_seq ?_)
    refine j_region ?_
    refine jg_adr _ rfl _ rfl rfl (op_move (.base rfl)) ?_
    refine jg_adr _ rfl _ rfl rfl (op_ofield fld40_4 (.base rfl)) ?_
    refine jg_os _ rfl (op_ostoreT (rt := rScopeI B) (tyRFs B) (.base rfl) rfl (lt_S2 B) (.tv (.base rfl))) ?_
    refine jg_nil ?_
    refine jn_keep [2, 4] [2, 4] (.cons rfl (.cons rfl .nil)) (.cons rfl (.cons rfl .nil)) ?_
    refine jn_seq (j_seq ?_)
    refine j_region ?_
    refine jg_adr _ rfl _ rfl rfl (op_oload (rt := rScopeF B) (tySF B) (.base rfl) rfl rfl (Lens.id _)) ?_
    refine jg_os _ rfl (op_ostoreT (rt := rScope) (tySF B) (.base rfl) rfl (LensT.id _ _ rfl) (.tv (.base rfl))) ?_
    refine jg_nil ?_
    refine jn_keep [4] [4] (.cons rfl .nil) (.cons rfl .nil) ?_
    refine jn_seq (j_ret ?_)
    exact jr_fin1 Try.results30 (res_cell (rt := rScopeF B) (tySF B) rfl rfl rfl (Lens.id (rScopeF B))) rfl rfl

theorem lawOn_F (B : Nat) (l : TLaw) (date : Int) (hL : LLim l) : CtB B Try.prog 12 [.tv rLaw l, .raw (.int .i64 date)] (.tv (rLawF B) (lawOn date l)) := by
  refine ctB_intro Try.func12 rfl rfl Try.ntmps12 rfl rfl ?_
  intro w0 ok0 hB0
  obtain ⟨⟨hE1, hE2⟩, ⟨hT1, hT2⟩, hS1, hS2⟩ := hL
  refine j_seq ?_
  refine j_region ?_
  refine jg_os _ rfl (op_box (.tv (.base rfl)) rfl rfl rfl) ?_
  refine jg_os _ rfl (op_alloc _ z26 rfl rfl rfl) ?_
  refine jg_nil ?_
  refine jn_keep [1, 2, 4] [2, 4] (.cons rfl (.cons rfl (.cons rfl .nil))) (.cons rfl (.cons rfl .nil)) ?_
  refine jn_seq (j_seq ?_)
  refine j_region ?_
  refine jg_os _ rfl (op_alloc _ z_rLaw0 rfl rfl rfl) ?_
  refine jg_nil ?_
  refine jn_keep [1, 2, 4, 5] [2, 4, 5] (.cons rfl (.cons rfl (.cons rfl (.cons rfl .nil)))) (.cons rfl (.cons rfl (.cons rfl .nil))) ?_
  refine jn_seq (j_seq (j_seq ?_))
  refine j_vacL 5 70 rEnum rfl rfl rfl ?_
  refine j_region ?_
  refine jg_adr _ rfl _ rfl rfl (op_ofield fld26_0 (.base rfl)) ?_
  refine jg_adr _ rfl _ rfl rfl (op_oload ty22 (.base rfl) rfl rfl ln26_0) ?_
  refine jg_adr _ rfl _ rfl rfl (op_len Try.underlying22 (.base rfl)) ?_
  refine jg_adr _ rfl _ rfl rfl (op_move (.base rfl)) ?_
  refine jg_nil ?_
  refine jn_keep [1, 2, 4, 5, 13, 14, 15] [2, 4, 5, 70] (.cons rfl (.cons rfl (.cons rfl (.cons rfl (.cons rfl (.cons rfl (.cons rfl .nil))))))) (.cons rfl (.cons rfl (.cons rfl (.cons rfl .nil)))) ?_
  refine jn_seq (j_block ?_)
  refine j_loopp (ι := Nat × Option Addr × Nat) (fun (k, A, cap) => ⟨[(13, .tv (rSlice rEnum) l.1), (14, .raw (.int .i64 (l.1.length))), (15, .raw (.int .i64 ((k : Nat)))), (2, .optr 2 rLaw.n 0 0), (4, .optr 4 rLaw.n 0 0), (1, .raw (.int .i64 (date))), (5, .lnk (.optr 5 rLaw.n 0 0) (.slice A ((l.1.take k).map id).length cap) (.own 70 rEnum.n 0 ((l.1.take k).map id).length))], [(2, ⟨rLaw, [l]⟩), (4, ⟨rLaw, [([], [], [])]⟩), (5, ⟨rLaw0, [((A, ((l.1.take k).map id).length, cap), (none, 0, 0), (none, 0, 0))]⟩), (70, ⟨rEnum, ((l.1.take k).map id)⟩)]⟩) (fun (k, A, cap) => k ≤ l.1.length) (fun (k, A, cap) => l.1.length - k) (0, none, 0) (Nat.zero_le _) (fun a w hi => (Sub.inv ⟨(by repeat (first | exact SubS_nil | refine SubS_cons rfl (by first | rfl | (simp; done) | assumption) ?_)), (by repeat (first | exact SubH_nil | refine SubH_cons rfl (by first | rfl | (simp; done) | assumption) ?_))⟩ hi)) ?_
  rintro ⟨k, A, cap⟩ hk
  have q4 := mapk_len id l.1 k
  refine j_seq ?_
  refine j_region ?_
  refine jg_adr _ rfl _ rfl rfl (op_lss (.base rfl) (.base rfl)) ?_
  refine jg_nil ?_
  refine jn_keep [1, 2, 4, 5, 13, 14, 15, 16] [2, 4, 5, 70] (.cons rfl (.cons rfl (.cons rfl (.cons rfl (.cons rfl (.cons rfl (.cons rfl (.cons rfl .nil)))))))) (.cons rfl (.cons rfl (.cons rfl (.cons rfl .nil)))) ?_
  refine jn_seq (j_seq ?_)
  refine j_cond rfl (fun h3 => ?_) (fun h3 => ?_)
  · have h3 : k < l.1.length := by simpa using h3
    have hs := mapk_succ id h3
    have hsl := congrArg List.length hs
    rw [List.length_append] at hsl
    have hge := hE2 _ (List.getElem_mem h3)
    refine j_skip (jn_seq (j_seq (j_block (j_seq ?_))))
    refine j_region ?_
    refine jg_adr _ rfl _ rfl rfl (op_index Try.underlying22 ty61 (.base rfl) (.base rfl) rfl (List.getElem?_eq_getElem (by first | omega | (simp; done) | (simp; omega) | (simp at hg; omega)))) ?_
    refine jg_adr _ rfl _ rfl rfl (op_load ty61 (.base rfl)) ?_
    refine jg_os _ rfl (op_alloc _ z61 rfl rfl rfl) ?_
    refine jg_os _ rfl (op_ostore ty61 (.base rfl) rfl rfl (Lens.id _) (.tv (.base rfl))) ?_
    refine jg_nil ?_
    refine jn_keep [1, 2, 4, 5, 7, 13, 14, 15] [2, 4, 5, 7, 70] (.cons rfl (.cons rfl (.cons rfl (.cons rfl (.cons rfl (.cons rfl (.cons rfl (.cons rfl .nil)))))))) (.cons rfl (.cons rfl (.cons rfl (.cons rfl (.cons rfl .nil))))) ?_
    refine jn_seq (j_seq ?_)
    refine j_region ?_
    refine jg_adr _ rfl _ rfl rfl (op_ofield fld61_1 (.base rfl)) ?_
    refine jg_adr _ rfl _ rfl rfl (op_oload ty59 (.base rfl) rfl rfl ln61_1) ?_
    refine jg_adr _ rfl _ rfl rfl (op_call (cloneS_ok _ (Nat.le_trans hge (by decide))) (.cons (.base rfl) .nil) rfl rfl) ?_
    refine jg_adr _ rfl _ rfl rfl (op_ofield fld61_1 (.base rfl)) ?_
    refine jg_os _ rfl (op_ostore ty59 (.base rfl) rfl rfl ln61_1 (.tv (.base rfl))) ?_
    refine jg_nil ?_
    refine jn_keep [1, 2, 4, 5, 7, 13, 14, 15] [2, 4, 5, 7, 70] (.cons rfl (.cons rfl (.cons rfl (.cons rfl (.cons rfl (.cons rfl (.cons rfl (.cons rfl .nil)))))))) (.cons rfl (.cons rfl (.cons rfl (.cons rfl (.cons rfl .nil))))) ?_
    refine jn_seq ?_
    refine j_region ?_
    refine jg_adr _ rfl _ rfl rfl (op_ofield fld26_0 (.l1 rfl)) ?_
    refine jg_adr _ rfl _ rfl rfl (op_oload (rt := rLaw0) tyH22 (.base rfl) rfl rfl ln_rLaw0_0) ?_
    refine jg_takeL 5 24 rfl rfl rfl ?_
    refine jg_adr _ rfl _ rfl rfl (op_oload ty61 (.base rfl) rfl rfl (Lens.id _)) ?_
    refine jg_adr _ rfl _ rfl rfl (op_bslice (rt := rEnum) Try.underlying22 ty61 z61 rfl (.cons (.tv (.base rfl)) .nil) rfl rfl) ?_
    refine jg_os _ rfl (op_append [1, 2, 4, 5, 13, 14, 15] Try.underlying22 ty61 z61 rfl by61 (.base rfl) rfl (by (try simp); try omega) (.tv (.base rfl)) (by unfold maxLen; (try simp); try omega) (by (try simp); try omega) rfl (.cons rfl (.cons rfl (.cons rfl (.cons rfl (.cons rfl (.cons rfl (.cons rfl .nil))))))) rfl) ?_
    refine jg_giveL 5 27 rfl rfl (fun A2 cap2 => ?_)
    refine jg_adr _ rfl _ rfl rfl (op_ofield fld26_0 (.l1 rfl)) ?_
    refine jg_os _ rfl (op_ostore (rt := rLaw0) tyH22 (.base rfl) rfl rfl ln_rLaw0_0 (.raw (d := (A2, _, cap2)) (.base rfl) rfl)) ?_
    refine jg_nil ?_
    refine jn_keep [1, 2, 4, 5, 13, 14, 15] [2, 4, 5, 70] (.cons rfl (.cons rfl (.cons rfl (.cons rfl (.cons rfl (.cons rfl (.cons rfl .nil))))))) (.cons rfl (.cons rfl (.cons rfl (.cons rfl .nil)))) ?_
    refine jn_blk (jn_seq ?_)
    refine j_region ?_
    refine jg_adr _ rfl _ rfl rfl (op_add (.base rfl) (.base rfl) (w64 (by omega))) ?_
    refine jg_adr _ rfl _ rfl rfl (op_move (.base rfl)) ?_
    refine jg_nil ?_
    refine jn_keep [1, 2, 4, 5, 13, 14, 15] [2, 4, 5, 70] (.cons rfl (.cons rfl (.cons rfl (.cons rfl (.cons rfl (.cons rfl (.cons rfl .nil))))))) (.cons rfl (.cons rfl (.cons rfl (.cons rfl .nil)))) ?_
    first | (have _hA2 := A2; exact jn_loop (fun a w hi => ⟨(k + 1, A2, cap2), (by show _ - (k + 1) < _ - k; omega), (by show k + 1 ≤ _; omega), Sub.inv ⟨(by repeat (first | exact SubS_nil | refine SubS_cons rfl (by first | rfl | (rw [hsl]; rfl) | (rw [hsl]; done)) ?_)), (by repeat (first | exact SubH_nil | refine SubH_cons rfl (by first | rfl | (refine congrArg (HB.mk rEnum) ?_; first | rfl | (rw [hs]; (try simp only [List.drop_zero, List.take_length]); first | done | rfl | (simp; done); done)) | (rw [hsl]; rfl) | (rw [hsl]; done)) ?_))⟩ hi⟩)) | exact jn_loop (fun a w hi => ⟨(k + 1, A, cap), (by show _ - (k + 1) < _ - k; omega), (by show k + 1 ≤ _; omega), Sub.inv ⟨(by repeat (first | exact SubS_nil | refine SubS_cons rfl (by first | rfl | (rw [hsl]; rfl) | (rw [hsl]; done)) ?_)), (by repeat (first | exact SubH_nil | refine SubH_cons rfl (by first | rfl | (refine congrArg (HB.mk rEnum) ?_; first | rfl | (rw [hs]; (try simp only [List.drop_zero, List.take_length]); first | done | rfl | (simp; done); done)) | (rw [hsl]; rfl) | (rw [hsl]; done)) ?_))⟩ hi⟩)
  · have h3 : l.1.length ≤ k := by simpa using h3
    refine j_exit (je_seq (je_loop (je_blk (jn_seq (j_seq (j_seq ?_))))))
    refine j_sealL (rt := rEnum) 70 5 (dropH 70 _) rfl rfl (by simp) (dropH_sub 70 _) (dropH_no 70 _) ?_
    rw [List.drop_zero, List.take_length, mapk_all id h3]
    rw [List.map_id]
    refine j_castL 5 5 rLaw1 (l.1, (none, 0, 0), (none, 0, 0)) (casts_fst _ casts_hd) rfl rfl rfl ?_
    refine j_vacL 5 71 rTable rfl rfl rfl ?_
    refine j_region ?_
    refine jg_adr _ rfl _ rfl rfl (op_ofield fld26_1 (.base rfl)) ?_
    refine jg_adr _ rfl _ rfl rfl (op_oload ty23 (.base rfl) rfl rfl ln26_1) ?_
    refine jg_adr _ rfl _ rfl rfl (op_len Try.underlying23 (.base rfl)) ?_
    refine jg_adr _ rfl _ rfl rfl (op_move (.base rfl)) ?_
    refine jg_nil ?_
    refine jn_keep [1, 2, 4, 5, 31, 32, 33] [2, 4, 5, 71] (.cons rfl (.cons rfl (.cons rfl (.cons rfl (.cons rfl (.cons rfl (.cons rfl .nil))))))) (.cons rfl (.cons rfl (.cons rfl (.cons rfl .nil)))) ?_
    refine jn_seq (j_block ?_)
    refine j_loopp (ι := Nat × Option Addr × Nat) (fun (k, A, cap) => ⟨[(31, .tv (rSlice rTable) l.2.1), (32, .raw (.int .i64 (l.2.1.length))), (33, .raw (.int .i64 ((k : Nat)))), (2, .optr 2 rLaw.n 0 0), (4, .optr 4 rLaw.n 0 0), (1, .raw (.int .i64 (date))), (5, .lnk (.optr 5 rLaw.n 0 0) (.slice A ((l.2.1.take k).map (tabOn date)).length cap) (.own 71 rTable.n 0 ((l.2.1.take k).map (tabOn date)).length))], [(2, ⟨rLaw, [l]⟩), (4, ⟨rLaw, [([], [], [])]⟩), (5, ⟨rLaw1, [(l.1, (A, ((l.2.1.take k).map (tabOn date)).length, cap), (none, 0, 0))]⟩), (71, ⟨rTable, ((l.2.1.take k).map (tabOn date))⟩)]⟩) (fun (k, A, cap) => k ≤ l.2.1.length) (fun (k, A, cap) => l.2.1.length - k) (0, none, 0) (Nat.zero_le _) (fun a w hi => (Sub.inv ⟨(by repeat (first | exact SubS_nil | refine SubS_cons rfl (by first | rfl | (simp; done) | assumption) ?_)), (by repeat (first | exact SubH_nil | refine SubH_cons rfl (by first | rfl | (simp; done) | assumption) ?_))⟩ hi)) ?_
    rintro ⟨k, A, cap⟩ hk
    have q4 := mapk_len (tabOn date) l.2.1 k
    refine j_seq ?_
    refine j_region ?_
    refine jg_adr _ rfl _ rfl rfl (op_lss (.base rfl) (.base rfl)) ?_
    refine jg_nil ?_
    refine jn_keep [1, 2, 4, 5, 31, 32, 33, 34] [2, 4, 5, 71] (.cons rfl (.cons rfl (.cons rfl (.cons rfl (.cons rfl (.cons rfl (.cons rfl (.cons rfl .nil)))))))) (.cons rfl (.cons rfl (.cons rfl (.cons rfl .nil)))) ?_
    refine jn_seq (j_seq ?_)
    refine j_cond rfl (fun h9 => ?_) (fun h9 => ?_)
    · have h9 : k < l.2.1.length := by simpa using h9
      have hs := mapk_succ (tabOn date) h9
      have hsl := congrArg List.length hs
      rw [List.length_append] at hsl
      have hgt := hT2 _ (List.getElem_mem h9)
      refine j_skip (jn_seq (j_seq (j_block (j_seq ?_))))
      refine j_region ?_
      refine jg_adr _ rfl _ rfl rfl (op_index Try.underlying23 ty64 (.base rfl) (.base rfl) rfl (List.getElem?_eq_getElem (by first | omega | (simp; done) | (simp; omega) | (simp at hg; omega)))) ?_
      refine jg_adr _ rfl _ rfl rfl (op_load ty64 (.base rfl)) ?_
      refine jg_os _ rfl (op_alloc _ z64 rfl rfl rfl) ?_
      refine jg_os _ rfl (op_ostore ty64 (.base rfl) rfl rfl (Lens.id _) (.tv (.base rfl))) ?_
      refine jg_nil ?_
      refine jn_keep [1, 2, 4, 5, 9, 31, 32, 33] [2, 4, 5, 9, 71] (.cons rfl (.cons rfl (.cons rfl (.cons rfl (.cons rfl (.cons rfl (.cons rfl (.cons rfl .nil)))))))) (.cons rfl (.cons rfl (.cons rfl (.cons rfl (.cons rfl .nil))))) ?_
      refine jn_seq ?_
      refine j_draw_tail 6 mo (by kernel_rfl) (by kernel_rfl) (by decide) (
        AS.cons _ _ rfl (ga_adr rfl rfl rfl (op_ofield fld26_1 (.l1 rfl))) (
          AS.cons _ _ rfl (ga_adr rfl rfl rfl (op_oload (rt := rLaw1) tyH23 (.base rfl) rfl rfl ln_rLaw1_1)) (
          AS.cons _ _ rfl (ga_adr rfl rfl rfl (op_oload ty64 (.base rfl) rfl rfl (Lens.id _))) (
          AS.cons _ _ rfl (ga_adr rfl rfl rfl (op_move (.base rfl))) (
          AS.cons _ _ rfl (ga_adr rfl rfl rfl (op_call (tableOn_ok _ _ hgt) (.cons (.base rfl) (.cons (.base rfl) .nil)) rfl rfl)) (
          AS.cons _ _ rfl (ga_adr rfl rfl rfl (op_bslice (rt := rTable) Try.underlying23 ty64 z64 rfl (.cons (.tv (.base rfl)) .nil) rfl rfl)) (
          AS.nil))))))) ?_
      refine jt_takeL 5 38 rfl rfl rfl ?_
      refine jt_os _ rfl rfl (by kernel_rfl) (op_append [1, 2, 4, 5, 31, 32, 33] Try.underlying23 ty64 z64 rfl by64 (.base rfl) rfl (by (try simp); try omega) (.tv (.base rfl)) (by unfold maxLen; (try simp); try omega) (by (try simp); try omega) rfl (.cons rfl (.cons rfl (.cons rfl (.cons rfl (.cons rfl (.cons rfl (.cons rfl .nil))))))) rfl) ?_
      refine jt_giveL 5 43 rfl rfl (fun A2 cap2 => ?_)
      refine jt_adr _ _ rfl rfl rfl rfl (by kernel_rfl) (op_ofield fld26_1 (.l1 rfl)) ?_
      refine jt_os _ rfl rfl (by kernel_rfl) (op_ostore (rt := rLaw1) tyH23 (.base rfl) rfl rfl ln_rLaw1_1 (.raw (d := (A2, _, cap2)) (.base rfl) rfl)) ?_
      refine jt_nil rfl ?_
      refine jn_keep [1, 2, 4, 5, 31, 32, 33] [2, 4, 5, 71] (.cons rfl (.cons rfl (.cons rfl (.cons rfl (.cons rfl (.cons rfl (.cons rfl .nil))))))) (.cons rfl (.cons rfl (.cons rfl (.cons rfl .nil)))) ?_
      refine jn_blk (jn_seq ?_)
      refine j_region ?_
      refine jg_adr _ rfl _ rfl rfl (op_add (.base rfl) (.base rfl) (w64 (by omega))) ?_
      refine jg_adr _ rfl _ rfl rfl (op_move (.base rfl)) ?_
      refine jg_nil ?_
      refine jn_keep [1, 2, 4, 5, 31, 32, 33] [2, 4, 5, 71] (.cons rfl (.cons rfl (.cons rfl (.cons rfl (.cons rfl (.cons rfl (.cons rfl .nil))))))) (.cons rfl (.cons rfl (.cons rfl (.cons rfl .nil)))) ?_
      first | (have _hA2 := A2; exact jn_loop (fun a w hi => ⟨(k + 1, A2, cap2), (by show _ - (k + 1) < _ - k; omega), (by show k + 1 ≤ _; omega), Sub.inv ⟨(by repeat (first | exact SubS_nil | refine SubS_cons rfl (by first | rfl | (rw [hsl]; rfl) | (rw [hsl]; done)) ?_)), (by repeat (first | exact SubH_nil | refine SubH_cons rfl (by first | rfl | (refine congrArg (HB.mk rTable) ?_; first | rfl | (rw [hs]; (try simp only [List.drop_zero, List.take_length]); first | done | rfl | (simp; done); done)) | (rw [hsl]; rfl) | (rw [hsl]; done)) ?_))⟩ hi⟩)) | exact jn_loop (fun a w hi => ⟨(k + 1, A, cap), (by show _ - (k + 1) < _ - k; omega), (by show k + 1 ≤ _; omega), Sub.inv ⟨(by repeat (first | exact SubS_nil | refine SubS_cons rfl (by first | rfl | (rw [hsl]; rfl) | (rw [hsl]; done)) ?_)), (by repeat (first | exact SubH_nil | refine SubH_cons rfl (by first | rfl | (refine congrArg (HB.mk rTable) ?_; first | rfl | (rw [hs]; (try simp only [List.drop_zero, List.take_length]); first | done | rfl | (simp; done); done)) | (rw [hsl]; rfl) | (rw [hsl]; done)) ?_))⟩ hi⟩)
    · have h9 : l.2.1.length ≤ k := by simpa using h9
      refine j_exit (je_seq (je_loop (je_blk (jn_seq (j_seq (j_seq ?_))))))
      refine j_sealL (rt := rTable) 71 5 (dropH 71 _) rfl rfl (by simp) (dropH_sub 71 _) (dropH_no 71 _) ?_
      rw [List.drop_zero, List.take_length, mapk_all (tabOn date) h9]
      refine j_castL 5 5 rLaw2 (l.1, l.2.1.map (tabOn date), (none, 0, 0)) (casts_pair _ (casts_fst _ casts_hd)) rfl rfl rfl ?_
      refine j_vacL 5 72 (rScopeF B) rfl rfl rfl ?_
      refine j_region ?_
      refine jg_adr _ rfl _ rfl rfl (op_ofield fld26_2 (.base rfl)) ?_
      refine jg_adr _ rfl _ rfl rfl (op_oload ty24 (.base rfl) rfl rfl ln26_2) ?_
      refine jg_adr _ rfl _ rfl rfl (op_len Try.underlying24 (.base rfl)) ?_
      refine jg_adr _ rfl _ rfl rfl (op_move (.base rfl)) ?_
      refine jg_nil ?_
      refine jn_keep [1, 4, 5, 47, 48, 49] [4, 5, 72] (.cons rfl (.cons rfl (.cons rfl (.cons rfl (.cons rfl (.cons rfl .nil)))))) (.cons rfl (.cons rfl (.cons rfl .nil))) ?_
      refine jn_seq (j_block ?_)
      refine j_loopp (ι := Nat × Option Addr × Nat) (fun (k, A, cap) => ⟨[(47, .tv (rSlice rScope) l.2.2), (48, .raw (.int .i64 (l.2.2.length))), (49, .raw (.int .i64 ((k : Nat)))), (4, .optr 4 rLaw.n 0 0), (1, .raw (.int .i64 (date))), (5, .lnk (.optr 5 rLaw.n 0 0) (.slice A ((l.2.2.take k).map (scpOn date)).length cap) (.own 72 (rScopeF B).n 0 ((l.2.2.take k).map (scpOn date)).length))], [(4, ⟨rLaw, [([], [], [])]⟩), (5, ⟨rLaw2, [(l.1, l.2.1.map (tabOn date), (A, ((l.2.2.take k).map (scpOn date)).length, cap))]⟩), (72, ⟨(rScopeF B), ((l.2.2.take k).map (scpOn date))⟩)]⟩) (fun (k, A, cap) => k ≤ l.2.2.length) (fun (k, A, cap) => l.2.2.length - k) (0, none, 0) (Nat.zero_le _) (fun a w hi => (Sub.inv ⟨(by repeat (first | exact SubS_nil | refine SubS_cons rfl (by first | rfl | (simp; done) | assumption) ?_)), (by repeat (first | exact SubH_nil | refine SubH_cons rfl (by first | rfl | (simp; done) | assumption) ?_))⟩ hi)) ?_
      rintro ⟨k, A, cap⟩ hk
      have q4 := mapk_len (scpOn date) l.2.2 k
      refine j_seq ?_
      refine j_region ?_
      refine jg_adr _ rfl _ rfl rfl (op_lss (.base rfl) (.base rfl)) ?_
      refine jg_nil ?_
      refine jn_keep [1, 4, 5, 47, 48, 49, 50] [4, 5, 72] (.cons rfl (.cons rfl (.cons rfl (.cons rfl (.cons rfl (.cons rfl (.cons rfl .nil))))))) (.cons rfl (.cons rfl (.cons rfl .nil))) ?_
      refine jn_seq (j_seq ?_)
      refine j_cond rfl (fun h14 => ?_) (fun h14 => ?_)
      · have h14 : k < l.2.2.length := by simpa using h14
        have hs := mapk_succ (scpOn date) h14
        have hsl := congrArg List.length hs
        rw [List.length_append] at hsl
        have hgs := hS2 _ (List.getElem_mem h14)
        refine j_skip (jn_seq (j_seq (j_block (j_seq ?_))))
        refine j_region ?_
        refine jg_adr _ rfl _ rfl rfl (op_index Try.underlying24 ty40 (.base rfl) (.base rfl) rfl (List.getElem?_eq_getElem (by first | omega | (simp; done) | (simp; omega) | (simp at hg; omega)))) ?_
        refine jg_adr _ rfl _ rfl rfl (op_load ty40 (.base rfl)) ?_
        refine jg_os _ rfl (op_alloc _ z40 rfl rfl rfl) ?_
        refine jg_os _ rfl (op_ostore ty40 (.base rfl) rfl rfl (Lens.id _) (.tv (.base rfl))) ?_
        refine jg_nil ?_
        refine jn_keep [1, 4, 5, 11, 47, 48, 49] [4, 5, 11, 72] (.cons rfl (.cons rfl (.cons rfl (.cons rfl (.cons rfl (.cons rfl (.cons rfl .nil))))))) (.cons rfl (.cons rfl (.cons rfl (.cons rfl .nil)))) ?_
        refine jn_seq ?_
        refine j_draw_tail 6 mo (by kernel_rfl) (by kernel_rfl) (by decide) (
          AS.cons _ _ rfl (ga_adr rfl rfl rfl (op_ofield fld26_2 (.l1 rfl))) (
            AS.cons _ _ rfl (ga_adr rfl rfl rfl (op_oload (rt := rLaw2) tyH24 (.base rfl) rfl rfl ln_rLaw2_2)) (
            AS.cons _ _ rfl (ga_adr rfl rfl rfl (op_oload ty40 (.base rfl) rfl rfl (Lens.id _))) (
            AS.cons _ _ rfl (ga_adr rfl rfl rfl (op_move (.base rfl))) (
            AS.cons _ _ rfl (ga_adr rfl rfl rfl (op_callB hB0 (scopeOn_F B _ _ hgs) (.cons (.base rfl) (.cons (.base rfl) .nil)) rfl rfl)) (
            AS.cons _ _ rfl (ga_adr rfl rfl rfl (op_bslice (rt := rScopeF B) Try.underlying24 (tySF B) (zSF B) rfl (.cons (.tv (.base rfl)) .nil) rfl rfl)) (
            AS.nil))))))) ?_
        refine jt_takeL 5 54 rfl rfl rfl ?_
        refine jt_os _ rfl rfl (by kernel_rfl) (op_append [1, 4, 5, 47, 48, 49] Try.underlying24 (tySF B) (zSF B) rfl by40 (.base rfl) rfl (by (try simp); try omega) (.tv (.base rfl)) (by unfold maxLen; (try simp); try omega) (by (try simp); try omega) rfl (.cons rfl (.cons rfl (.cons rfl (.cons rfl (.cons rfl (.cons rfl .nil)))))) rfl) ?_
        refine jt_giveL 5 59 rfl rfl (fun A2 cap2 => ?_)
        refine jt_adr _ _ rfl rfl rfl rfl (by kernel_rfl) (op_ofield fld26_2 (.l1 rfl)) ?_
        refine jt_os _ rfl rfl (by kernel_rfl) (op_ostore (rt := rLaw2) tyH24 (.base rfl) rfl rfl ln_rLaw2_2 (.raw (d := (A2, _, cap2)) (.base rfl) rfl)) ?_
        refine jt_nil rfl ?_
        refine jn_keep [1, 4, 5, 47, 48, 49] [4, 5, 72] (.cons rfl (.cons rfl (.cons rfl (.cons rfl (.cons rfl (.cons rfl .nil)))))) (.cons rfl (.cons rfl (.cons rfl .nil))) ?_
        refine jn_blk (jn_seq ?_)
        refine j_region ?_
        refine jg_adr _ rfl _ rfl rfl (op_add (.base rfl) (.base rfl) (w64 (by omega))) ?_
        refine jg_adr _ rfl _ rfl rfl (op_move (.base rfl)) ?_
        refine jg_nil ?_
        refine jn_keep [1, 4, 5, 47, 48, 49] [4, 5, 72] (.cons rfl (.cons rfl (.cons rfl (.cons rfl (.cons rfl (.cons rfl .nil)))))) (.cons rfl (.cons rfl (.cons rfl .nil))) ?_
        first | (have _hA2 := A2; exact jn_loop (fun a w hi => ⟨(k + 1, A2, cap2), (by show _ - (k + 1) < _ - k; omega), (by show k + 1 ≤ _; omega), Sub.inv ⟨(by repeat (first | exact SubS_nil | refine SubS_cons rfl (by first | rfl | (rw [hsl]; rfl) | (rw [hsl]; done)) ?_)), (by repeat (first | exact SubH_nil | refine SubH_cons rfl (by first | rfl | (refine congrArg (HB.mk (rScopeF B)) ?_; first | rfl | (rw [hs]; (try simp only [List.drop_zero, List.take_length]); first | done | rfl | (simp; done); done)) | (rw [hsl]; rfl) | (rw [hsl]; done)) ?_))⟩ hi⟩)) | exact jn_loop (fun a w hi => ⟨(k + 1, A, cap), (by show _ - (k + 1) < _ - k; omega), (by show k + 1 ≤ _; omega), Sub.inv ⟨(by repeat (first | exact SubS_nil | refine SubS_cons rfl (by first | rfl | (rw [hsl]; rfl) | (rw [hsl]; done)) ?_)), (by repeat (first | exact SubH_nil | refine SubH_cons rfl (by first | rfl | (refine congrArg (HB.mk (rScopeF B)) ?_; first | rfl | (rw [hs]; (try simp only [List.drop_zero, List.take_length]); first | done | rfl | (simp; done); done)) | (rw [hsl]; rfl) | (rw [hsl]; done)) ?_))⟩ hi⟩)
      · have h14 : l.2.2.length ≤ k := by simpa using h14
        refine j_exit (je_seq (je_loop (je_blk (jn_seq (j_seq ?_)))))
        refine j_sealL (rt := (rScopeF B)) 72 5 (dropH 72 _) rfl rfl (by simp) (dropH_sub 72 _) (dropH_no 72 _) ?_
        rw [List.drop_zero, List.take_length, mapk_all (scpOn date) h14]
        refine j_castL 5 5 (rLawF B) (lawOn date l) (casts_pair _ (casts_pair _ casts_hd)) rfl rfl rfl ?_
        refine j_region ?_
        refine jg_adr _ rfl _ rfl rfl (op_oload (rt := rLawF B) (tyLF B) (.base rfl) rfl rfl (Lens.id _)) ?_
        refine jg_os _ rfl (op_ostoreT (rt := rLaw) (tyLF B) (.base rfl) rfl (LensT.id _ _ rfl) (.tv (.base rfl))) ?_
        refine jg_nil ?_
        refine jn_keep [4] [4] (.cons rfl .nil) (.cons rfl .nil) ?_
        refine jn_seq (j_ret ?_)
        exact jr_fin1 Try.results12 (res_cell (rt := rLawF B) (tyLF B) rfl rfl rfl (Lens.id (rLawF B))) rfl rfl

end Go.Proofs.Ythfhekohlmboiaa
