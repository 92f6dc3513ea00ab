import Derived.Test.YthfhekohlmboiaaP15d
import Derived.Test.YthfhekohlmboiaaEngL
import Derived.Test.YthfhekohlmboiaaEng12
namespace Go.Proofs.Ythfhekohlmboiaa
open Go.Eng
set_option maxRecDepth 100000
set_option maxHeartbeats 4000000
set_option linter.unusedVariables false
set_option linter.unusedSimpArgs false

theorem zr_hd : ZR rHd [.slice none 0 0] (none, 0, 0) := fun _ _ => rfl
abbrev rTableH := (rPair rStr (rPair rType (rPair rType rHd)))
theorem ty_rTableH : Ty Try.prog 64 rTableH := by obtain ⟨⟨de, hu, hd⟩, i0, hi0, hs⟩ := ty64; exact ⟨⟨de, hu, hd⟩, i0, hi0, hs⟩
theorem z_rTableH : TyZero Try.prog 64 rTableH ([], ((0, 0), ((0, 0), (none, 0, 0)))) := zr_ty (by kernel_rfl) ((zr_pair (zr_str) ((zr_pair ((zr_pair (zr_int .i64) (zr_int .i64))) ((zr_pair ((zr_pair (zr_int .i64) (zr_int .i64))) (zr_hd)))))))
theorem ln_rTableH_0 : Lens rTableH 0 rStr (fun d => d.1) (fun d x => (x, d.2)) := (Lens.fst (Lens.id rStr))
theorem ln_rTableH_1 : Lens rTableH 1 rType (fun d => d.2.1) (fun d x => (d.1, (x, d.2.2))) := (Lens.snd (Lens.fst (Lens.id rType)) rfl)
theorem ln_rTableH_2 : Lens rTableH 3 rType (fun d => d.2.2.1) (fun d x => (d.1, (d.2.1, (x, d.2.2.2)))) := (Lens.snd (Lens.snd (Lens.fst (Lens.id rType)) rfl) rfl)
theorem ln_rTableH_3 : Lens rTableH 5 rHd (fun d => d.2.2.2) (fun d x => (d.1, (d.2.1, (d.2.2.1, x)))) := (Lens.snd (Lens.snd (Lens.snd (Lens.id rHd) rfl) rfl) rfl)
abbrev rScopeH := (rPair rStr (rPair (rInt .i64) (rPair (rSlice rField) (rPair (rSlice rField) rHd))))
theorem ty_rScopeH : Ty Try.prog 40 rScopeH := by obtain ⟨⟨de, hu, hd⟩, i0, hi0, hs⟩ := ty40; exact ⟨⟨de, hu, hd⟩, i0, hi0, hs⟩
theorem z_rScopeH : TyZero Try.prog 40 rScopeH ([], (0, ([], ([], (none, 0, 0))))) := zr_ty (by kernel_rfl) ((zr_pair (zr_str) ((zr_pair (zr_int .i64) ((zr_pair (zr_slice) ((zr_pair (zr_slice) (zr_hd)))))))))
theorem ln_rScopeH_0 : Lens rScopeH 0 rStr (fun d => d.1) (fun d x => (x, d.2)) := (Lens.fst (Lens.id rStr))
theorem ln_rScopeH_1 : Lens rScopeH 1 (rInt .i64) (fun d => d.2.1) (fun d x => (d.1, (x, d.2.2))) := (Lens.snd (Lens.fst (Lens.id (rInt .i64))) rfl)
theorem ln_rScopeH_2 : Lens rScopeH 2 (rSlice rField) (fun d => d.2.2.1) (fun d x => (d.1, (d.2.1, (x, d.2.2.2)))) := (Lens.snd (Lens.snd (Lens.fst (Lens.id (rSlice rField))) rfl) rfl)
theorem ln_rScopeH_3 : Lens rScopeH 3 (rSlice rField) (fun d => d.2.2.2.1) (fun d x => (d.1, (d.2.1, (d.2.2.1, (x, d.2.2.2.2))))) := (Lens.snd (Lens.snd (Lens.snd (Lens.fst (Lens.id (rSlice rField))) rfl) rfl) rfl)
theorem ln_rScopeH_4 : Lens rScopeH 4 rHd (fun d => d.2.2.2.2) (fun d x => (d.1, (d.2.1, (d.2.2.1, (d.2.2.2.1, x))))) := (Lens.snd (Lens.snd (Lens.snd (Lens.snd (Lens.id rHd) rfl) rfl) rfl) rfl)
theorem tyH62 : Ty Try.prog 62 rHd := by obtain ⟨⟨de, hu, hd⟩, i0, hi0, hs⟩ := ty62; exact ⟨⟨de, hu, hd⟩, i0, hi0, hs⟩
theorem tyH38 : Ty Try.prog 38 rHd := by obtain ⟨⟨de, hu, hd⟩, i0, hi0, hs⟩ := ty38; exact ⟨⟨de, hu, hd⟩, i0, hi0, hs⟩

def allD : Rg := (0, 109573)
def rowsOn (d : Int) (l : List TRow) : List TRow := (l.filter (fun r => contR r.1 d)).map (fun r => (allD, r.2))
def tabOn (d : Int) (t : TTable) : TTable := (t.1, t.2.1, t.2.2.1, rowsOn d t.2.2.2)
theorem rowsOn_t {d : Int} {l : List TRow} {k : Nat} (h : k < l.length) (hc : contR l[k].1 d = true) : rowsOn d (l.take (k + 1)) = rowsOn d (l.take k) ++ [(allD, l[k].2)] := by
  unfold rowsOn; rw [List.take_succ_eq_append_getElem h, List.filter_append, List.map_append]; simp [hc]
theorem rowsOn_f {d : Int} {l : List TRow} {k : Nat} (h : k < l.length) (hc : contR l[k].1 d = false) : rowsOn d (l.take (k + 1)) = rowsOn d (l.take k) := by
  unfold rowsOn; rw [List.take_succ_eq_append_getElem h, List.filter_append, List.map_append]; simp [hc]
theorem rowsOn_len (d : Int) (l : List TRow) : (rowsOn d l).length ≤ l.length := by unfold rowsOn; rw [List.length_map]; exact List.length_filter_le _ _
theorem rowsOn_lenk (d : Int) (l : List TRow) (k : Nat) : (rowsOn d (l.take k)).length ≤ l.length := Nat.le_trans (rowsOn_len _ _) (by simp; omega)
def ruleAt (f : TRule → Bool) (l : List TRule) (i : Nat) : TRule := match l[i]? with | some r => (r.1, r.2.1, anc f l i, r.2.2.2.1, allD, r.2.2.2.2.2) | none => ([], 0, 0, 0, (0, 0), [], [], [])
def rulOn (f : TRule → Bool) (l : List TRule) : List TRule := (idxs f l l.length).map (ruleAt f l)
def scpOn (d : Int) (s : TScope) : TScope := (s.1, s.2.1, s.2.2.1, s.2.2.2.1, rulOn (fA d) s.2.2.2.2)
def rulK (f : TRule → Bool) (l : List TRule) (n k : Nat) : List TRule := ((idxs f l n).take k).map (ruleAt f l)
theorem rulK_succ {f : TRule → Bool} {l : List TRule} {n k : Nat} (h : k < (idxs f l n).length) (hi : (idxs f l n)[k] < l.length) : rulK f l n (k + 1) = rulK f l n k ++ [(l[(idxs f l n)[k]].1, l[(idxs f l n)[k]].2.1, anc f l (idxs f l n)[k], l[(idxs f l n)[k]].2.2.2.1, allD, l[(idxs f l n)[k]].2.2.2.2.2)] := by
  unfold rulK; rw [List.take_succ_eq_append_getElem h, List.map_append]; simp [ruleAt, hi]
theorem rulK_len {f : TRule → Bool} {l : List TRule} {n k : Nat} : (rulK f l n k).length ≤ k := by unfold rulK; simp; omega
theorem rulK_n (f : TRule → Bool) (l : List TRule) : rulK f l l.length (idxs f l l.length).length = rulOn f l := by unfold rulK rulOn; rw [List.take_length]
theorem parI_get {f : TRule → Bool} {l : List TRule} {n k : Nat} (h : k < (idxs f l n).length) : (parI f l n)[k]? = some (anc f l (idxs f l n)[k]) := by unfold parI; simp [h]
theorem parI_at {f : TRule → Bool} {l : List TRule} {n k : Nat} (h : k < (idxs f l n).length) {h' : k < (parI f l n).length} : (parI f l n)[k]' h' = anc f l (idxs f l n)[k] := by
  have := parI_get h; rw [List.getElem?_eq_getElem h'] at this; injection this
def SLim (s : TScope) : Prop := s.2.2.1.length ≤ 1000 ∧ s.2.2.2.1.length ≤ 1000 ∧ s.2.2.2.2.length ≤ 1000 ∧ ∀ r ∈ s.2.2.2.2, r.2.2.2.2.2.1.length ≤ 1000 ∧ r.2.2.2.2.2.2.1.length ≤ 1000

theorem alldates_ok  : Ct Try.prog 47 [] (.tv rDateRange allD) := by
  refine ct_intro Try.func47 rfl rfl Try.ntmps47 rfl rfl ?_
  intro w0 ok0
  refine j_seq ?_
  refine j_region ?_
  refine jg_os _ rfl (op_alloc _ z45 rfl rfl rfl) ?_
  refine jg_nil ?_
  refine jn_keep [0] [0] (.cons rfl .nil) (.cons rfl .nil) ?_
  refine jn_seq (j_seq ?_)
  refine j_region ?_
  refine jg_adr _ rfl _ rfl rfl (op_build z45 rfl pl45 (.cons (rt' := rInt .i64) rfl ln45_0 (.raw (.base rfl) rfl) (.cons (rt' := rInt .i64) rfl ln45_1 (.raw (.base rfl) rfl) .nil))) ?_
  refine jg_os _ rfl (op_ostore ty45 (.base rfl) rfl rfl (Lens.id _) (.tv (.base rfl))) ?_
  refine jg_nil ?_
  refine jn_keep [0] [0] (.cons rfl .nil) (.cons rfl .nil) ?_
  refine jn_seq (j_ret ?_)
  exact jr_fin1 Try.results47 (res_cell ty45 rfl rfl rfl (Lens.id rDateRange)) rfl rfl

theorem rall_ok  : Ct Try.prog 52 [] (.tv rDateRange allD) := by
  refine ct_intro Try.func52 rfl rfl Try.ntmps52 rfl rfl ?_
  intro w0 ok0
  refine j_seq ?_
  refine j_region ?_
  refine jg_os _ rfl (op_alloc _ z45 rfl rfl rfl) ?_
  refine jg_nil ?_
  refine jn_keep [0] [0] (.cons rfl .nil) (.cons rfl .nil) ?_
  refine jn_seq (j_seq ?_)
  refine j_region ?_
  refine jg_adr _ rfl _ rfl rfl (op_build z45 rfl pl45 (.cons (rt' := rInt .i64) rfl ln45_0 (.raw (.base rfl) rfl) (.cons (rt' := rInt .i64) rfl ln45_1 (.raw (.base rfl) rfl) .nil))) ?_
  refine jg_os _ rfl (op_ostore ty45 (.base rfl) rfl rfl (Lens.id _) (.tv (.base rfl))) ?_
  refine jg_nil ?_
  refine jn_keep [0] [0] (.cons rfl .nil) (.cons rfl .nil) ?_
  refine jn_seq (j_ret ?_)
  exact jr_fin1 Try.results52 (res_cell ty45 rfl rfl rfl (Lens.id rDateRange)) rfl rfl

theorem tableOn_ok (t : TTable) (date : Int) (hlm : t.2.2.2.length ≤ 1000) : Ct Try.prog 29 [.tv rTable t, .raw (.int .i64 date)] (.tv rTable (tabOn date t)) := by
  refine ct_intro Try.func29 rfl rfl Try.ntmps29 rfl rfl ?_
  intro w0 ok0
  refine j_seq ?_
  refine j_region ?_
  refine jg_os _ rfl (op_box (.tv (.base rfl)) rfl rfl rfl) ?_
  refine jg_os _ rfl (op_alloc _ z64 rfl rfl rfl) ?_
  refine jg_nil ?_
  refine jn_keep [1, 2, 4] [2, 4] (.cons rfl (.cons rfl (.cons rfl .nil))) (.cons rfl (.cons rfl .nil)) ?_
  refine jn_seq (j_seq ?_)
  refine j_region ?_
  refine jg_adr _ rfl _ rfl rfl (op_assign (.base rfl)) ?_
  refine jg_nil ?_
  refine jn_keep [1, 2, 4, 5] [2, 4] (.cons rfl (.cons rfl (.cons rfl (.cons rfl .nil)))) (.cons rfl (.cons rfl .nil)) ?_
  refine jn_seq (j_seq (j_seq ?_))
  refine j_region ?_
  refine jg_adr _ rfl _ rfl rfl (op_ofield fld64_3 (.base rfl)) ?_
  refine jg_adr _ rfl _ rfl rfl (op_oload ty62 (.base rfl) rfl rfl ln64_3) ?_
  refine jg_adr _ rfl _ rfl rfl (op_len Try.underlying62 (.base rfl)) ?_
  refine jg_adr _ rfl _ rfl rfl (op_move (.base rfl)) ?_
  refine jg_nil ?_
  refine jn_keep [1, 2, 4, 5, 9, 10, 11] [2, 4] (.cons rfl (.cons rfl (.cons rfl (.cons rfl (.cons rfl (.cons rfl (.cons rfl .nil))))))) (.cons rfl (.cons rfl .nil)) ?_
  refine jn_seq (j_block ?_)
  refine j_vac 70 5 rRow rfl rfl rfl ?_
  refine j_loopp (ι := Nat) (fun k => ⟨[(1, .raw (.int .i64 (date))), (2, .optr 2 rTable.n 0 0), (4, .optr 4 rTable.n 0 0), (5, .own 70 rRow.n 0 (rowsOn date (t.2.2.2.take k)).length), (9, .tv (rSlice rRow) t.2.2.2), (10, .raw (.int .i64 (t.2.2.2.length))), (11, .raw (.int .i64 ((k : Nat))))], [(2, ⟨rTable, [t]⟩), (4, ⟨rTable, [([], (0, 0), (0, 0), [])]⟩), (70, ⟨rRow, (rowsOn date (t.2.2.2.take k))⟩)]⟩) (fun k => k ≤ t.2.2.2.length) (fun k => t.2.2.2.length - k) 0 (Nat.zero_le _) (fun a w hi => (Sub.inv ⟨(by repeat (first | exact SubS_nil | refine SubS_cons rfl (by first | rfl | (simp; done) | assumption) ?_)), (by repeat (first | exact SubH_nil | refine SubH_cons rfl (by first | rfl | (simp; done) | assumption) ?_))⟩ hi)) ?_
  rintro k hk
  have hkl := rowsOn_lenk date t.2.2.2 k
  refine j_seq ?_
  refine j_region ?_
  refine jg_adr _ rfl _ rfl rfl (op_lss (.base rfl) (.base rfl)) ?_
  refine jg_nil ?_
  refine jn_keep [1, 2, 4, 5, 9, 10, 11, 12] [2, 4, 70] (.cons rfl (.cons rfl (.cons rfl (.cons rfl (.cons rfl (.cons rfl (.cons rfl (.cons rfl .nil)))))))) (.cons rfl (.cons rfl (.cons rfl .nil))) ?_
  refine jn_seq (j_seq ?_)
  refine j_cond rfl (fun h3 => ?_) (fun h3 => ?_)
  · simp at h3
    refine j_skip (jn_seq (j_seq (j_block (j_seq ?_))))
    refine j_region ?_
    refine jg_adr _ rfl _ rfl rfl (op_index Try.underlying62 ty74 (.base rfl) (.base rfl) rfl (List.getElem?_eq_getElem (by first | omega | (simp; done) | (simp; omega) | (simp at hg; omega)))) ?_
    refine jg_adr _ rfl _ rfl rfl (op_load ty74 (.base rfl)) ?_
    refine jg_os _ rfl (op_alloc _ z74 rfl rfl rfl) ?_
    refine jg_os _ rfl (op_ostore ty74 (.base rfl) rfl rfl (Lens.id _) (.tv (.base rfl))) ?_
    refine jg_nil ?_
    refine jn_keep [1, 2, 4, 5, 7, 9, 10, 11] [2, 4, 7, 70] (.cons rfl (.cons rfl (.cons rfl (.cons rfl (.cons rfl (.cons rfl (.cons rfl (.cons rfl .nil)))))))) (.cons rfl (.cons rfl (.cons rfl (.cons rfl .nil)))) ?_
    refine jn_seq (j_seq ?_)
    refine j_region ?_
    refine jg_adr _ rfl _ rfl rfl (op_ofield fld74_0 (.base rfl)) ?_
    refine jg_adr _ rfl _ rfl rfl (op_oload ty45 (.base rfl) rfl rfl ln74_0) ?_
    refine jg_adr _ rfl _ rfl rfl (op_move (.base rfl)) ?_
    refine jg_adr _ rfl _ rfl rfl (op_call (dcont_ok _ _) (.cons (.base rfl) (.cons (.base rfl) .nil)) rfl rfl) ?_
    refine jg_nil ?_
    refine jn_keep [1, 2, 4, 5, 7, 9, 10, 11, 18] [2, 4, 7, 70] (.cons rfl (.cons rfl (.cons rfl (.cons rfl (.cons rfl (.cons rfl (.cons rfl (.cons rfl (.cons rfl .nil))))))))) (.cons rfl (.cons rfl (.cons rfl (.cons rfl .nil)))) ?_
    refine jn_seq ?_
    refine j_cond rfl (fun h5 => ?_) (fun h5 => ?_)
    · have hs := rowsOn_t h3 h5
      refine j_seq ?_
      refine j_region ?_
      refine jg_adr _ rfl _ rfl rfl (op_call alldates_ok .nil rfl rfl) ?_
      refine jg_adr _ rfl _ rfl rfl (op_ofield fld74_0 (.base rfl)) ?_
      refine jg_os _ rfl (op_ostore ty45 (.base rfl) rfl rfl ln74_0 (.tv (.base rfl))) ?_
      refine jg_nil ?_
      refine jn_keep [1, 2, 4, 5, 7, 9, 10, 11] [2, 4, 7, 70] (.cons rfl (.cons rfl (.cons rfl (.cons rfl (.cons rfl (.cons rfl (.cons rfl (.cons rfl .nil)))))))) (.cons rfl (.cons rfl (.cons rfl (.cons rfl .nil)))) ?_
      refine jn_seq ?_
      refine j_region ?_
      refine jg_adr _ rfl _ rfl rfl (op_move (.base rfl)) ?_
      refine jg_adr _ rfl _ rfl rfl (op_oload ty74 (.base rfl) rfl rfl (Lens.id _)) ?_
      refine jg_adr _ rfl _ rfl rfl (op_bslice (rt := rRow) Try.underlying62 ty74 z74 rfl (.cons (.tv (.base rfl)) .nil) rfl rfl) ?_
      refine jg_os _ rfl (op_append [1, 2, 4, 9, 10, 11] Try.underlying62 ty74 z74 rfl by74 (.base rfl) rfl (by (try simp); try omega) (.tv (.base rfl)) (by unfold maxLen; (try simp); try omega) (by (try simp); try omega) rfl (.cons rfl (.cons rfl (.cons rfl (.cons rfl (.cons rfl (.cons rfl .nil)))))) rfl) ?_
      refine jg_adr _ rfl _ rfl rfl (op_assign (.base rfl)) ?_
      refine jg_nil ?_
      refine jn_keep [1, 2, 4, 5, 9, 10, 11] [2, 4, 70] (.cons rfl (.cons rfl (.cons rfl (.cons rfl (.cons rfl (.cons rfl (.cons rfl .nil))))))) (.cons rfl (.cons rfl (.cons rfl .nil))) ?_
      refine jn_blk (jn_seq ?_)
      refine j_region ?_
      refine jg_adr _ rfl _ rfl rfl (op_add (.base rfl) (.base rfl) (w64 (by omega))) ?_
      refine jg_adr _ rfl _ rfl rfl (op_move (.base rfl)) ?_
      refine jg_nil ?_
      refine jn_keep [1, 2, 4, 5, 9, 10, 11] [2, 4, 70] (.cons rfl (.cons rfl (.cons rfl (.cons rfl (.cons rfl (.cons rfl (.cons rfl .nil))))))) (.cons rfl (.cons rfl (.cons rfl .nil))) ?_
      exact jn_loop (fun a w hi => ⟨k + 1, (by omega), (by omega), Sub.inv ⟨(by repeat (first | exact SubS_nil | refine SubS_cons rfl (by first | rfl | (refine congrArg (SV.own 70 rRow.n 0) ?_; first | (rw [hs]; simp; done) | (rw [hs]; done))) ?_)), (by repeat (first | exact SubH_nil | refine SubH_cons rfl (by first | rfl | (refine congrArg (HB.mk rRow) ?_; first | rfl | (rw [hs]; (try simp only [List.drop_zero, List.take_length]); first | done | rfl | (simp; done); done) | (rw [hs]; done))) ?_))⟩ hi⟩)
    · have hs := rowsOn_f h3 h5
      refine j_skip (jn_blk (jn_seq ?_))
      refine j_region ?_
      refine jg_adr _ rfl _ rfl rfl (op_add (.base rfl) (.base rfl) (w64 (by omega))) ?_
      refine jg_adr _ rfl _ rfl rfl (op_move (.base rfl)) ?_
      refine jg_nil ?_
      refine jn_keep [1, 2, 4, 5, 9, 10, 11] [2, 4, 70] (.cons rfl (.cons rfl (.cons rfl (.cons rfl (.cons rfl (.cons rfl (.cons rfl .nil))))))) (.cons rfl (.cons rfl (.cons rfl .nil))) ?_
      exact jn_loop (fun a w hi => ⟨k + 1, (by omega), (by omega), Sub.inv ⟨(by repeat (first | exact SubS_nil | refine SubS_cons rfl (by first | rfl | (refine congrArg (SV.own 70 rRow.n 0) ?_; first | (rw [hs]; simp; done) | (rw [hs]; done))) ?_)), (by repeat (first | exact SubH_nil | refine SubH_cons rfl (by first | rfl | (refine congrArg (HB.mk rRow) ?_; first | rfl | (rw [hs]; (try simp only [List.drop_zero, List.take_length]); first | done | rfl | (simp; done); done) | (rw [hs]; done))) ?_))⟩ hi⟩)
  · simp at h3
    refine j_exit (je_seq (je_loop (je_blk (jn_seq (j_seq ?_)))))
    refine j_seal (rt := rRow) 70 5 (dropH 70 _) rfl rfl (by simp) (dropH_sub 70 _) (dropH_no 70 _) ?_
    rw [List.drop_zero, List.take_length, List.take_of_length_le (show t.2.2.2.length ≤ k by omega)]
    refine j_region ?_
    refine jg_adr _ rfl _ rfl rfl (op_move (.base rfl)) ?_
    refine jg_adr _ rfl _ rfl rfl (op_ofield fld64_3 (.base rfl)) ?_
    refine jg_os _ rfl (op_ostore ty62 (.base rfl) rfl rfl ln64_3 (.tv (.base rfl))) ?_
    refine jg_nil ?_
    refine jn_keep [2, 4] [2, 4] (.cons rfl (.cons rfl .nil)) (.cons rfl (.cons rfl .nil)) ?_
    refine jn_seq (j_seq ?_)
    refine j_region ?_
    refine jg_adr _ rfl _ rfl rfl (op_oload ty64 (.base rfl) rfl rfl (Lens.id _)) ?_
    refine jg_os _ rfl (op_ostore ty64 (.base rfl) rfl rfl (Lens.id _) (.tv (.base rfl))) ?_
    refine jg_nil ?_
    refine jn_keep [4] [4] (.cons rfl .nil) (.cons rfl .nil) ?_
    refine jn_seq (j_ret ?_)
    exact jr_fin1 Try.results29 (res_cell ty64 rfl rfl rfl (Lens.id rTable)) rfl rfl

theorem rtableOn_ok (t : TTable) (date : Int) (hlm : t.2.2.2.length ≤ 1000) : Ct Try.prog 31 [.tv rTable t, .raw (.int .i64 date)] (.tv rTable (tabOn date t)) := by
  refine ct_intro Try.func31 rfl rfl Try.ntmps31 rfl rfl ?_
  intro w0 ok0
  refine j_seq ?_
  refine j_region ?_
  refine jg_os _ rfl (op_box (.tv (.base rfl)) rfl rfl rfl) ?_
  refine jg_os _ rfl (op_alloc _ z64 rfl rfl rfl) ?_
  refine jg_nil ?_
  refine jn_keep [1, 2, 4] [2, 4] (.cons rfl (.cons rfl (.cons rfl .nil))) (.cons rfl (.cons rfl .nil)) ?_
  refine jn_seq (j_seq ?_)
  refine j_region ?_
  refine jg_adr _ rfl _ rfl rfl (op_oload ty64 (.base rfl) rfl rfl (Lens.id _)) ?_
  refine jg_os _ rfl (op_alloc _ z64 rfl rfl rfl) ?_
  refine jg_os _ rfl (op_ostore ty64 (.base rfl) rfl rfl (Lens.id _) (.tv (.base rfl))) ?_
  refine jg_nil ?_
  refine jn_keep [1, 2, 4, 5] [2, 4, 5] (.cons rfl (.cons rfl (.cons rfl (.cons rfl .nil)))) (.cons rfl (.cons rfl (.cons rfl .nil))) ?_
  refine jn_seq (j_seq ?_)
  refine j_openH 5 rTableH (openH_pair _ (openH_pair _ (openH_pair _ openH_hd))) rfl rfl (fun y0 => ?_)
  refine j_region ?_
  refine jg_adr _ rfl _ rfl rfl (op_ofield fld64_3 (.base rfl)) ?_
  refine jg_os _ rfl (op_ostore (rt := rTableH) tyH62 (.base rfl) rfl rfl ln_rTableH_3 (.raw (d := (none, 0, 0)) (.base rfl) rfl)) ?_
  refine jg_nil ?_
  refine jn_keep [1, 2, 4, 5] [2, 4, 5] (.cons rfl (.cons rfl (.cons rfl (.cons rfl .nil)))) (.cons rfl (.cons rfl (.cons rfl .nil))) ?_
  refine jn_seq (j_seq (j_seq ?_))
  refine j_vacL 5 70 rRow rfl rfl rfl ?_
  refine j_region ?_
  refine jg_adr _ rfl _ rfl rfl (op_assign (.base rfl)) ?_
  refine jg_nil ?_
  refine jn_keep [1, 2, 4, 5, 6] [2, 4, 5, 70] (.cons rfl (.cons rfl (.cons rfl (.cons rfl (.cons rfl .nil))))) (.cons rfl (.cons rfl (.cons rfl (.cons rfl .nil)))) ?_
  refine jn_seq (j_block ?_)
  refine j_loopp (ι := Nat × Option Addr × Nat) (fun (k, A, cap) => ⟨[(1, .raw (.int .i64 (date))), (2, .optr 2 rTable.n 0 0), (4, .optr 4 rTable.n 0 0), (5, .lnk (.optr 5 rTable.n 0 0) (.slice A (rowsOn date (t.2.2.2.take k)).length cap) (.own 70 rRow.n 0 (rowsOn date (t.2.2.2.take k)).length)), (6, .raw (.int .i64 ((k : Nat))))], [(2, ⟨rTable, [t]⟩), (4, ⟨rTable, [([], (0, 0), (0, 0), [])]⟩), (5, ⟨rTableH, [(t.1, t.2.1, t.2.2.1, (A, (rowsOn date (t.2.2.2.take k)).length, cap))]⟩), (70, ⟨rRow, (rowsOn date (t.2.2.2.take k))⟩)]⟩) (fun (k, A, cap) => k ≤ t.2.2.2.length) (fun (k, A, cap) => t.2.2.2.length - k) (0, none, 0) (Nat.zero_le _) (fun a w hi => (Sub.inv ⟨(by repeat (first | exact SubS_nil | refine SubS_cons rfl (by first | rfl | (simp; done) | assumption) ?_)), (by repeat (first | exact SubH_nil | refine SubH_cons rfl (by first | rfl | (simp; done) | assumption) ?_))⟩ hi)) ?_
  rintro ⟨k, A, cap⟩ hk
  have hkl := rowsOn_lenk date t.2.2.2 k
  refine j_seq (j_seq ?_)
  refine j_region ?_
  refine jg_adr _ rfl _ rfl rfl (op_move (.base rfl)) ?_
  refine jg_adr _ rfl _ rfl rfl (op_ofield fld64_3 (.base rfl)) ?_
  refine jg_adr _ rfl _ rfl rfl (op_oload ty62 (.base rfl) rfl rfl ln64_3) ?_
  refine jg_adr _ rfl _ rfl rfl (op_len Try.underlying62 (.base rfl)) ?_
  refine jg_adr _ rfl _ rfl rfl (op_lss (.base rfl) (.base rfl)) ?_
  refine jg_nil ?_
  refine jn_keep [1, 2, 4, 5, 6, 14] [2, 4, 5, 70] (.cons rfl (.cons rfl (.cons rfl (.cons rfl (.cons rfl (.cons rfl .nil)))))) (.cons rfl (.cons rfl (.cons rfl (.cons rfl .nil)))) ?_
  refine jn_seq ?_
  refine j_cond rfl (fun h4 => ?_) (fun h4 => ?_)
  · simp at h4
    refine j_skip (jn_seq (j_seq (j_block (j_seq ?_))))
    refine j_region ?_
    refine jg_adr _ rfl _ rfl rfl (op_ofield fld64_3 (.base rfl)) ?_
    refine jg_adr _ rfl _ rfl rfl (op_oload ty62 (.base rfl) rfl rfl ln64_3) ?_
    refine jg_adr _ rfl _ rfl rfl (op_move (.base rfl)) ?_
    refine jg_adr _ rfl _ rfl rfl (op_index Try.underlying62 ty74 (.base rfl) (.base rfl) rfl (List.getElem?_eq_getElem (by first | omega | (simp; done) | (simp; omega) | (simp at hg; omega)))) ?_
    refine jg_adr _ rfl _ rfl rfl (op_field fld74_0 ln74_0 (.base rfl)) ?_
    refine jg_adr _ rfl _ rfl rfl (op_load ty45 (.base rfl)) ?_
    refine jg_adr _ rfl _ rfl rfl (op_move (.base rfl)) ?_
    refine jg_adr _ rfl _ rfl rfl (op_call (drcont_ok _ _) (.cons (.base rfl) (.cons (.base rfl) .nil)) rfl rfl) ?_
    refine jg_nil ?_
    refine jn_keep [1, 2, 4, 5, 6, 24] [2, 4, 5, 70] (.cons rfl (.cons rfl (.cons rfl (.cons rfl (.cons rfl (.cons rfl .nil)))))) (.cons rfl (.cons rfl (.cons rfl (.cons rfl .nil)))) ?_
    refine jn_seq ?_
    refine j_cond rfl (fun h6 => ?_) (fun h6 => ?_)
    · have hs := rowsOn_t h4 (by simpa [List.getElem?_eq_getElem h4] using h6)
      have hsl := congrArg List.length hs
      rw [List.length_append] at hsl
      refine j_seq ?_
      refine j_region ?_
      refine jg_adr _ rfl _ rfl rfl (op_ofield fld64_3 (.base rfl)) ?_
      refine jg_adr _ rfl _ rfl rfl (op_oload ty62 (.base rfl) rfl rfl ln64_3) ?_
      refine jg_adr _ rfl _ rfl rfl (op_move (.base rfl)) ?_
      refine jg_adr _ rfl _ rfl rfl (op_index Try.underlying62 ty74 (.base rfl) (.base rfl) rfl (List.getElem?_eq_getElem (by first | omega | (simp; done) | (simp; omega) | (simp at hg; omega)))) ?_
      refine jg_adr _ rfl _ rfl rfl (op_load ty74 (.base rfl)) ?_
      refine jg_os _ rfl (op_alloc _ z74 rfl rfl rfl) ?_
      refine jg_os _ rfl (op_ostore ty74 (.base rfl) rfl rfl (Lens.id _) (.tv (.base rfl))) ?_
      refine jg_nil ?_
      refine jn_keep [1, 2, 4, 5, 6, 7] [2, 4, 5, 7, 70] (.cons rfl (.cons rfl (.cons rfl (.cons rfl (.cons rfl (.cons rfl .nil)))))) (.cons rfl (.cons rfl (.cons rfl (.cons rfl (.cons rfl .nil))))) ?_
      refine jn_seq (j_seq ?_)
      refine j_region ?_
      refine jg_adr _ rfl _ rfl rfl (op_call rall_ok .nil rfl rfl) ?_
      refine jg_adr _ rfl _ rfl rfl (op_ofield fld74_0 (.base rfl)) ?_
      refine jg_os _ rfl (op_ostore ty45 (.base rfl) rfl rfl ln74_0 (.tv (.base rfl))) ?_
      refine jg_nil ?_
      refine jn_keep [1, 2, 4, 5, 6, 7] [2, 4, 5, 7, 70] (.cons rfl (.cons rfl (.cons rfl (.cons rfl (.cons rfl (.cons rfl .nil)))))) (.cons rfl (.cons rfl (.cons rfl (.cons rfl (.cons rfl .nil))))) ?_
      refine jn_seq ?_
      refine j_region ?_
      refine jg_adr _ rfl _ rfl rfl (op_ofield fld64_3 (.l1 rfl)) ?_
      refine jg_adr _ rfl _ rfl rfl (op_oload (rt := rTableH) tyH62 (.base rfl) rfl rfl ln_rTableH_3) ?_
      refine jg_takeL 5 33 rfl rfl rfl ?_
      refine jg_adr _ rfl _ rfl rfl (op_oload ty74 (.base rfl) rfl rfl (Lens.id _)) ?_
      refine jg_adr _ rfl _ rfl rfl (op_bslice (rt := rRow) Try.underlying62 ty74 z74 rfl (.cons (.tv (.base rfl)) .nil) rfl rfl) ?_
      refine jg_os _ rfl (op_append [1, 2, 4, 5, 6] Try.underlying62 ty74 z74 rfl by74 (.base rfl) rfl (by (try simp); try omega) (.tv (.base rfl)) (by unfold maxLen; (try simp); try omega) (by (try simp); try omega) rfl (.cons rfl (.cons rfl (.cons rfl (.cons rfl (.cons rfl .nil))))) rfl) ?_
      refine jg_giveL 5 36 rfl rfl (fun A2 cap2 => ?_)
      refine jg_adr _ rfl _ rfl rfl (op_ofield fld64_3 (.l1 rfl)) ?_
      refine jg_os _ rfl (op_ostore (rt := rTableH) tyH62 (.base rfl) rfl rfl ln_rTableH_3 (.raw (d := (A2, _, cap2)) (.base rfl) rfl)) ?_
      refine jg_nil ?_
      refine jn_keep [1, 2, 4, 5, 6] [2, 4, 5, 70] (.cons rfl (.cons rfl (.cons rfl (.cons rfl (.cons rfl .nil))))) (.cons rfl (.cons rfl (.cons rfl (.cons rfl .nil)))) ?_
      refine jn_blk (jn_seq ?_)
      refine j_region ?_
      refine jg_adr _ rfl _ rfl rfl (op_move (.base rfl)) ?_
      refine jg_adr _ rfl _ rfl rfl (op_add (.base rfl) (.base rfl) (w64 (by omega))) ?_
      refine jg_adr _ rfl _ rfl rfl (op_assign (.base rfl)) ?_
      refine jg_nil ?_
      refine jn_keep [1, 2, 4, 5, 6] [2, 4, 5, 70] (.cons rfl (.cons rfl (.cons rfl (.cons rfl (.cons rfl .nil))))) (.cons rfl (.cons rfl (.cons rfl (.cons rfl .nil)))) ?_
      first | (have _hA2 := A2; exact jn_loop (fun a w hi => ⟨(k + 1, A2, cap2), (by show _ - (k + 1) < _ - k; omega), (by show k + 1 ≤ _; omega), Sub.inv ⟨(by repeat (first | exact SubS_nil | refine SubS_cons rfl (by first | rfl | (rw [hsl]; rfl) | (rw [hsl]; done) | (rw [hs])) ?_)), (by repeat (first | exact SubH_nil | refine SubH_cons rfl (by first | rfl | (refine congrArg (HB.mk rRow) ?_; first | rfl | (rw [hs]; (try simp only [List.drop_zero, List.take_length]); first | done | rfl | (simp; done); done) | (rw [hs]; done)) | (rw [hsl]; rfl) | (rw [hsl]; done) | (rw [hs]; done)) ?_))⟩ hi⟩)) | exact jn_loop (fun a w hi => ⟨(k + 1, A, cap), (by show _ - (k + 1) < _ - k; omega), (by show k + 1 ≤ _; omega), Sub.inv ⟨(by repeat (first | exact SubS_nil | refine SubS_cons rfl (by first | rfl | (rw [hsl]; rfl) | (rw [hsl]; done) | (rw [hs])) ?_)), (by repeat (first | exact SubH_nil | refine SubH_cons rfl (by first | rfl | (refine congrArg (HB.mk rRow) ?_; first | rfl | (rw [hs]; (try simp only [List.drop_zero, List.take_length]); first | done | rfl | (simp; done); done) | (rw [hs]; done)) | (rw [hsl]; rfl) | (rw [hsl]; done) | (rw [hs]; done)) ?_))⟩ hi⟩)
    · have hs := rowsOn_f h4 (by simpa [List.getElem?_eq_getElem h4] using h6)
      refine j_skip (jn_blk (jn_seq ?_))
      refine j_region ?_
      refine jg_adr _ rfl _ rfl rfl (op_move (.base rfl)) ?_
      refine jg_adr _ rfl _ rfl rfl (op_add (.base rfl) (.base rfl) (w64 (by omega))) ?_
      refine jg_adr _ rfl _ rfl rfl (op_assign (.base rfl)) ?_
      refine jg_nil ?_
      refine jn_keep [1, 2, 4, 5, 6] [2, 4, 5, 70] (.cons rfl (.cons rfl (.cons rfl (.cons rfl (.cons rfl .nil))))) (.cons rfl (.cons rfl (.cons rfl (.cons rfl .nil)))) ?_
      first | (have _hA2 := A2; exact jn_loop (fun a w hi => ⟨(k + 1, A2, cap2), (by show _ - (k + 1) < _ - k; omega), (by show k + 1 ≤ _; omega), Sub.inv ⟨(by repeat (first | exact SubS_nil | refine SubS_cons rfl (by first | rfl | (rw [hsl]; rfl) | (rw [hsl]; done) | (rw [hs])) ?_)), (by repeat (first | exact SubH_nil | refine SubH_cons rfl (by first | rfl | (refine congrArg (HB.mk rRow) ?_; first | rfl | (rw [hs]; (try simp only [List.drop_zero, List.take_length]); first | done | rfl | (simp; done); done) | (rw [hs]; done)) | (rw [hsl]; rfl) | (rw [hsl]; done) | (rw [hs]; done)) ?_))⟩ hi⟩)) | exact jn_loop (fun a w hi => ⟨(k + 1, A, cap), (by show _ - (k + 1) < _ - k; omega), (by show k + 1 ≤ _; omega), Sub.inv ⟨(by repeat (first | exact SubS_nil | refine SubS_cons rfl (by first | rfl | (rw [hsl]; rfl) | (rw [hsl]; done) | (rw [hs])) ?_)), (by repeat (first | exact SubH_nil | refine SubH_cons rfl (by first | rfl | (refine congrArg (HB.mk rRow) ?_; first | rfl | (rw [hs]; (try simp only [List.drop_zero, List.take_length]); first | done | rfl | (simp; done); done) | (rw [hs]; done)) | (rw [hsl]; rfl) | (rw [hsl]; done) | (rw [hs]; done)) ?_))⟩ hi⟩)
  · simp at h4
    refine j_exit (je_seq (je_loop (je_blk (jn_seq (j_seq ?_)))))
    refine j_sealL (rt := rRow) 70 5 (dropH 70 _) rfl rfl (by simp) (dropH_sub 70 _) (dropH_no 70 _) ?_
    rw [List.drop_zero, List.take_length, List.take_of_length_le (show t.2.2.2.length ≤ k by omega)]
    refine j_castL 5 5 rTable (t.1, t.2.1, t.2.2.1, rowsOn date t.2.2.2) (casts_pair _ (casts_pair _ (casts_pair _ casts_hd))) rfl rfl rfl ?_
    refine j_region ?_
    refine jg_adr _ rfl _ rfl rfl (op_oload ty64 (.base rfl) rfl rfl (Lens.id _)) ?_
    refine jg_os _ rfl (op_ostore ty64 (.base rfl) rfl rfl (Lens.id _) (.tv (.base rfl))) ?_
    refine jg_nil ?_
    refine jn_keep [4] [4] (.cons rfl .nil) (.cons rfl .nil) ?_
    refine jn_seq (j_ret ?_)
    exact jr_fin1 Try.results31 (res_cell ty64 rfl rfl rfl (Lens.id rTable)) rfl rfl

end Go.Proofs.Ythfhekohlmboiaa
