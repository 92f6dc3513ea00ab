import Derived.Test.YtcdkmhmlpjnfeaaFacts
import Derived.Test.YtcdkmhmlpjnfeaaEng21
import Derived.Test.YtcdkmhmlpjnfeaaEng12
namespace Go.Proofs.Ytcdkmhmlpjnfeaa
open Go.Eng
set_option maxRecDepth 100000
set_option maxHeartbeats 4000000
set_option linter.unusedVariables false
set_option linter.unusedSimpArgs false


abbrev rTabH := rPair rStr (rPair rType (rPair rType rHd))
theorem zr_hd : ZR rHd [.slice none 0 0] (none, 0, 0) := fun _ _ => rfl
theorem zTabH : TyZero Try.prog 26 rTabH ([], ((0, 0), ((0, 0), (none, 0, 0)))) := zr_ty (by kernel_rfl) (zr_pair zr_str (zr_pair (zr_pair (zr_int .i64) (zr_int .i64)) (zr_pair (zr_pair (zr_int .i64) (zr_int .i64)) zr_hd)))
theorem tyTabH : Ty Try.prog 26 rTabH := by obtain ⟨⟨de, hu, hd⟩, i0, hi0, hs⟩ := ty26; exact ⟨⟨de, hu, hd⟩, i0, hi0, hs⟩
theorem tySlH : Ty Try.prog 24 rHd := by obtain ⟨⟨de, hu, hd⟩, i0, hi0, hs⟩ := ty24; exact ⟨⟨de, hu, hd⟩, i0, hi0, hs⟩
theorem lnH_1 : Lens rTabH 1 rType (fun d => d.2.1) (fun d x => (d.1, (x, d.2.2))) := Lens.snd (Lens.fst (Lens.id rType)) rfl
theorem lnH_2 : Lens rTabH 3 rType (fun d => d.2.2.1) (fun d x => (d.1, (d.2.1, (x, d.2.2.2)))) := Lens.snd (Lens.snd (Lens.fst (Lens.id rType)) rfl) rfl
theorem lnH_3 : Lens rTabH 5 rHd (fun d => d.2.2.2) (fun d x => (d.1, (d.2.1, (d.2.2.1, x)))) := Lens.snd (Lens.snd (Lens.snd (Lens.id rHd) rfl) rfl) rfl
def setV (r : TRow) : TRow := ((0, 109573), r.2)
def schK (k : Nat) (l : List TRow) : List TRow := (l.take k).map setV ++ l.drop k
theorem schK_len (k : Nat) (l : List TRow) : (schK k l).length = l.length := by simp [schK]; omega
theorem schK_at {k : Nat} {l : List TRow} (h : k < l.length) : (schK k l)[0 + k]? = some l[k] := by
  unfold schK
  rw [Nat.zero_add, List.getElem?_append_right (by simp; omega)]
  simp [show min k l.length = k by omega, h]
theorem schK_set {k : Nat} {l : List TRow} (h : k < l.length) : (schK k l).set (0 + k) (setV l[k]) = schK (k + 1) l := by
  unfold schK
  rw [Nat.zero_add, List.set_append_right _ _ (by simp; omega), List.drop_eq_getElem_cons h, List.take_succ_eq_append_getElem h, List.map_append, List.append_assoc]
  rw [show k - (List.map setV (l.take k)).length = 0 by simp; omega]
  rfl
theorem schK_0 (l : List TRow) : schK 0 l = l := by simp [schK]
theorem schK_n (l : List TRow) : schK l.length l = l.map setV := by simp [schK]

theorem schedule_ok (zs : List TRow) : CtS Try.prog 25 rRow zs (.tv rTable ([], ((3, 0), ((4, 0), zs.map setV)))) := by
  refine ctS_intro Try.func25 rfl rfl Try.ntmps25 rfl ?_
  intro w0 ok0 b o cap hl0
  unfold maxLen at hl0
  refine j_seq ?_
  refine j_region ?_
  refine jg_os _ rfl (op_alloc _ z26 rfl rfl rfl) ?_
  refine jg_nil ?_
  refine jn_keep [0, 2] [2, 100] (.cons rfl (.cons rfl .nil)) (.cons rfl (.cons rfl .nil)) ?_
  refine jn_seq (j_seq ?_)
  refine j_region ?_
  refine jg_adr _ rfl _ rfl rfl (op_build z23 rfl pl23 (.cons (rt' := (rInt .i64)) rfl ln23_0 (.raw (.base rfl) rfl) .nil)) ?_
  refine jg_adr _ rfl _ rfl rfl (op_build z23 rfl pl23 (.cons (rt' := (rInt .i64)) rfl ln23_0 (.raw (.base rfl) rfl) .nil)) ?_
  refine jg_adr _ rfl _ rfl rfl (op_move (.base rfl)) ?_
  refine jg_adr _ rfl _ rfl rfl (op_build zTabH rfl pl26 (.cons (rt' := rType) rfl lnH_1 (.tv (.base rfl)) (.cons (rt' := rType) rfl lnH_2 (.tv (.base rfl)) (.cons (rt' := rHd) rfl lnH_3 (.raw (d := (some ⟨b, o, none⟩, zs.length, cap)) (.b2 rfl rfl) rfl) .nil)))) ?_
  refine jg_os _ rfl (op_alloc _ zTabH rfl rfl rfl) ?_
  refine jg_os _ rfl (op_ostore tyTabH (.base rfl) rfl rfl (Lens.id _) (.tv (.base rfl))) ?_
  refine jg_nil ?_
  refine jn_keep [0, 2, 3] [2, 3, 100] (.cons rfl (.cons rfl (.cons rfl .nil))) (.cons rfl (.cons rfl (.cons rfl .nil))) ?_
  refine jn_seq (j_seq (j_seq ?_))
  refine j_region ?_
  refine jg_adr _ rfl _ rfl rfl (op_assign (.base rfl)) ?_
  refine jg_nil ?_
  refine jn_keep [0, 2, 3, 4] [2, 3, 100] (.cons rfl (.cons rfl (.cons rfl (.cons rfl .nil)))) (.cons rfl (.cons rfl (.cons rfl .nil))) ?_
  refine jn_seq (j_block ?_)
  refine j_loopp (ι := Nat) (fun k => ⟨[(0, .both (.own 100 rRow.n 0 zs.length) (.slice (some ⟨b, o, none⟩) zs.length cap)), (2, .optr 2 rTable.n 0 0), (3, .optr 3 rTabH.n 0 0), (4, .raw (.int .i64 ((k : Nat))))], [(2, ⟨rTable, [([], ((0, 0), ((0, 0), [])))]⟩), (3, ⟨rTabH, [([], ((3, 0), ((4, 0), (some ⟨b, o, none⟩, zs.length, cap))))]⟩), (100, ⟨rRow, schK k zs⟩)]⟩) (fun k => k ≤ zs.length) (fun k => zs.length - k) 0 (Nat.zero_le _) (fun a w hi => (Sub.inv ⟨(by repeat (first | exact SubS_nil | refine SubS_cons rfl (by first | rfl | (simp; done) | assumption) ?_)), (by repeat (first | exact SubH_nil | refine SubH_cons rfl (by first | rfl | exact congrArg (HB.mk rRow) (schK_0 zs).symm | exact congrArg (HB.mk rRow) (schK_set h3)) ?_))⟩ hi)) ?_
  rintro k p1
  refine j_seq (j_seq ?_)
  refine j_region ?_
  refine jg_adr _ rfl _ rfl rfl (op_move (.base rfl)) ?_
  refine jg_adr _ rfl _ rfl rfl (op_ofield fld26_3 (.base rfl)) ?_
  refine jg_adr _ rfl _ rfl rfl (op_oload tySlH (.base rfl) rfl rfl lnH_3) ?_
  refine jg_adr _ rfl _ rfl rfl (op_len_raw Try.underlying24 (.base rfl)) ?_
  refine jg_adr _ rfl _ rfl rfl (op_lss (.base rfl) (.base rfl)) ?_
  refine jg_nil ?_
  refine jn_keep [0, 2, 3, 4, 13] [2, 3, 100] (.cons rfl (.cons rfl (.cons rfl (.cons rfl (.cons rfl .nil))))) (.cons rfl (.cons rfl (.cons rfl .nil))) ?_
  refine jn_seq ?_
  refine j_cond rfl (fun h3 => ?_) (fun h3 => ?_)
  · simp at h3
    refine j_skip (jn_seq (j_seq (j_block ?_)))
    refine j_region ?_
    refine jg_adr _ rfl _ rfl rfl (op_ofield fld26_3 (.base rfl)) ?_
    refine jg_adr _ rfl _ rfl rfl (op_oload tySlH (.base rfl) rfl rfl lnH_3) ?_
    refine jg_up 0 17 rfl rfl ?_
    refine jg_adr _ rfl _ rfl rfl (op_move (.base rfl)) ?_
    refine jg_adr _ rfl _ rfl rfl (op_build z48 rfl pl48 (.cons (rt' := (rInt .i64)) rfl ln48_0 (.raw (.base rfl) rfl) (.cons (rt' := (rInt .i64)) rfl ln48_1 (.raw (.base rfl) rfl) .nil))) ?_
    refine jg_adr _ rfl _ rfl rfl (op_oindex Try.underlying24 ty50 (.base rfl) (.base rfl) rfl (by first | omega | (simp; done) | (simp; omega))) ?_
    refine jg_adr _ rfl _ rfl rfl (op_ofield fld50_0 (.base rfl)) ?_
    refine jg_os _ rfl (op_ostore ty48 (.base rfl) rfl (schK_at h3) ln50_0 (.tv (.base rfl))) ?_
    refine jg_nil ?_
    refine jn_keep [0, 2, 3, 4] [2, 3, 100] (.cons rfl (.cons rfl (.cons rfl (.cons rfl .nil)))) (.cons rfl (.cons rfl (.cons rfl .nil))) ?_
    refine jn_blk (jn_seq ?_)
    refine j_region ?_
    refine jg_adr _ rfl _ rfl rfl (op_move (.base rfl)) ?_
    refine jg_adr _ rfl _ rfl rfl (op_add (.base rfl) (.base rfl) (w64 (by omega))) ?_
    refine jg_adr _ rfl _ rfl rfl (op_assign (.base rfl)) ?_
    refine jg_nil ?_
    refine jn_keep [0, 2, 3, 4] [2, 3, 100] (.cons rfl (.cons rfl (.cons rfl (.cons rfl .nil)))) (.cons rfl (.cons rfl (.cons rfl .nil))) ?_
    exact jn_loop (fun a w hi => ⟨k + 1, (by first | omega | (simp; omega)), (by omega), (Sub.inv ⟨(by repeat (first | exact SubS_nil | refine SubS_cons rfl (by first | rfl | (simp; done) | assumption) ?_)), (by repeat (first | exact SubH_nil | refine SubH_cons rfl (by first | rfl | exact congrArg (HB.mk rRow) (schK_0 zs).symm | exact congrArg (HB.mk rRow) (schK_set h3)) ?_))⟩ hi)⟩)
  · simp at h3
    obtain rfl : k = zs.length := by omega
    refine j_exit (je_seq (je_loop (je_blk (jn_seq (j_seq ?_)))))
    rw [schK_n]
    refine j_region ?_
    refine jg_adr _ rfl _ rfl rfl (op_oload tyTabH (.base rfl) rfl rfl (Lens.id _)) ?_
    refine jg_sealB (rt := rRow) 100 0 (dropH 100 _) rfl rfl (by simp) (dropH_sub 100 _) (dropH_no 100 _) ?_
    rw [List.drop_zero, List.take_of_length_le (by simp)]
    refine jg_cast 0 22 (casts_pair _ (casts_pair _ (casts_pair _ casts_hd))) rfl rfl ?_
    refine jg_os _ rfl (op_ostore ty26 (.base rfl) rfl rfl (Lens.id _) (.tv (.base rfl))) ?_
    refine jg_nil ?_
    refine jn_keep [0, 2] [2] (.cons rfl (.cons rfl .nil)) (.cons rfl .nil) ?_
    refine jn_seq (j_ret ?_)
    exact jr_fin1 Try.results25 (res_cell ty26 rfl rfl rfl (Lens.id rTable)) rfl rfl

end Go.Proofs.Ytcdkmhmlpjnfeaa
