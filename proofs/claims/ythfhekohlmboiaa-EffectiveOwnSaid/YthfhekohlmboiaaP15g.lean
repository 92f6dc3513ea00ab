import Derived.Test.YthfhekohlmboiaaP15f
namespace Go.Proofs.Ythfhekohlmboiaa
open Go.Eng
set_option maxRecDepth 100000
set_option maxHeartbeats 4000000
set_option linter.unusedVariables false
set_option linter.unusedSimpArgs false

abbrev rLaw0 := (rPair rHd (rPair rHd rHd))
theorem ty_rLaw0 : Ty Try.prog 26 rLaw0 := by obtain ⟨⟨de, hu, hd⟩, i0, hi0, hs⟩ := ty26; exact ⟨⟨de, hu, hd⟩, i0, hi0, hs⟩
theorem z_rLaw0 : TyZero Try.prog 26 rLaw0 ((none, 0, 0), ((none, 0, 0), (none, 0, 0))) := zr_ty (by kernel_rfl) ((zr_pair (zr_hd) ((zr_pair (zr_hd) (zr_hd)))))
theorem ln_rLaw0_0 : Lens rLaw0 0 rHd (fun d => d.1) (fun d x => (x, d.2)) := (Lens.fst (Lens.id rHd))
theorem ln_rLaw0_1 : Lens rLaw0 1 rHd (fun d => d.2.1) (fun d x => (d.1, (x, d.2.2))) := (Lens.snd (Lens.fst (Lens.id rHd)) rfl)
theorem ln_rLaw0_2 : Lens rLaw0 2 rHd (fun d => d.2.2) (fun d x => (d.1, (d.2.1, x))) := (Lens.snd (Lens.snd (Lens.id rHd) rfl) rfl)
abbrev rLaw1 := (rPair (rSlice rEnum) (rPair rHd rHd))
theorem ty_rLaw1 : Ty Try.prog 26 rLaw1 := by obtain ⟨⟨de, hu, hd⟩, i0, hi0, hs⟩ := ty26; exact ⟨⟨de, hu, hd⟩, i0, hi0, hs⟩
theorem z_rLaw1 : TyZero Try.prog 26 rLaw1 ([], ((none, 0, 0), (none, 0, 0))) := zr_ty (by kernel_rfl) ((zr_pair (zr_slice) ((zr_pair (zr_hd) (zr_hd)))))
theorem ln_rLaw1_0 : Lens rLaw1 0 (rSlice rEnum) (fun d => d.1) (fun d x => (x, d.2)) := (Lens.fst (Lens.id (rSlice rEnum)))
theorem ln_rLaw1_1 : Lens rLaw1 1 rHd (fun d => d.2.1) (fun d x => (d.1, (x, d.2.2))) := (Lens.snd (Lens.fst (Lens.id rHd)) rfl)
theorem ln_rLaw1_2 : Lens rLaw1 2 rHd (fun d => d.2.2) (fun d x => (d.1, (d.2.1, x))) := (Lens.snd (Lens.snd (Lens.id rHd) rfl) rfl)
abbrev rLaw2 := (rPair (rSlice rEnum) (rPair (rSlice rTable) rHd))
theorem ty_rLaw2 : Ty Try.prog 26 rLaw2 := by obtain ⟨⟨de, hu, hd⟩, i0, hi0, hs⟩ := ty26; exact ⟨⟨de, hu, hd⟩, i0, hi0, hs⟩
theorem z_rLaw2 : TyZero Try.prog 26 rLaw2 ([], ([], (none, 0, 0))) := zr_ty (by kernel_rfl) ((zr_pair (zr_slice) ((zr_pair (zr_slice) (zr_hd)))))
theorem ln_rLaw2_0 : Lens rLaw2 0 (rSlice rEnum) (fun d => d.1) (fun d x => (x, d.2)) := (Lens.fst (Lens.id (rSlice rEnum)))
theorem ln_rLaw2_1 : Lens rLaw2 1 (rSlice rTable) (fun d => d.2.1) (fun d x => (d.1, (x, d.2.2))) := (Lens.snd (Lens.fst (Lens.id (rSlice rTable))) rfl)
theorem ln_rLaw2_2 : Lens rLaw2 2 rHd (fun d => d.2.2) (fun d x => (d.1, (d.2.1, x))) := (Lens.snd (Lens.snd (Lens.id rHd) rfl) rfl)
theorem tyH22 : Ty Try.prog 22 rHd := by obtain ⟨⟨de, hu, hd⟩, i0, hi0, hs⟩ := ty22; exact ⟨⟨de, hu, hd⟩, i0, hi0, hs⟩
theorem tyH23 : Ty Try.prog 23 rHd := by obtain ⟨⟨de, hu, hd⟩, i0, hi0, hs⟩ := ty23; exact ⟨⟨de, hu, hd⟩, i0, hi0, hs⟩
theorem tyH24 : Ty Try.prog 24 rHd := by obtain ⟨⟨de, hu, hd⟩, i0, hi0, hs⟩ := ty24; exact ⟨⟨de, hu, hd⟩, i0, hi0, hs⟩

def lawOn (d : Int) (l : TLaw) : TLaw := (l.1, l.2.1.map (tabOn d), l.2.2.map (scpOn d))
def LLim (l : TLaw) : Prop := (l.1.length ≤ 1000 ∧ ∀ e ∈ l.1, e.2.length ≤ 1000) ∧ (l.2.1.length ≤ 1000 ∧ ∀ t ∈ l.2.1, t.2.2.2.length ≤ 1000) ∧ l.2.2.length ≤ 1000 ∧ ∀ s ∈ l.2.2, SLim s
theorem mapk_succ {α β : Type} (f : α → β) {l : List α} {k : Nat} (h : k < l.length) : (l.take (k + 1)).map f = (l.take k).map f ++ [f l[k]] := by
  rw [List.take_succ_eq_append_getElem h, List.map_append]; rfl
theorem mapk_len {α β : Type} (f : α → β) (l : List α) (k : Nat) : ((l.take k).map f).length ≤ l.length := by simp; omega
theorem mapk_all {α β : Type} (f : α → β) {l : List α} {k : Nat} (h : l.length ≤ k) : (l.take k).map f = l.map f := by rw [List.take_of_length_le h]

theorem lawOn_ok (l : TLaw) (date : Int) (hL : LLim l) : Ct Try.prog 12 [.tv rLaw l, .raw (.int .i64 date)] (.tv rLaw (lawOn date l)) := by
  refine ct_intro Try.func12 rfl rfl Try.ntmps12 rfl rfl ?_
  intro w0 ok0
  obtain ⟨⟨hE1, hE2⟩, ⟨hT1, hT2⟩, hS1, hS2⟩ := hL
  refine j_seq ?_
  refine j_region ?_
  refine jg_os _ rfl (op_box (.tv (.base rfl)) rfl rfl rfl) ?_
  refine jg_os _ rfl (op_alloc _ z26 rfl rfl rfl) ?_
  refine jg_nil ?_
  refine jn_keep [1, 2, 4] [2, 4] (.cons rfl (.cons rfl (.cons rfl .nil))) (.cons rfl (.cons rfl .nil)) ?_
  refine jn_seq (j_seq ?_)
  refine j_region ?_
  refine jg_os _ rfl (op_alloc _ z_rLaw0 rfl rfl rfl) ?_
  refine jg_nil ?_
  refine jn_keep [1, 2, 4, 5] [2, 4, 5] (.cons rfl (.cons rfl (.cons rfl (.cons rfl .nil)))) (.cons rfl (.cons rfl (.cons rfl .nil))) ?_
  refine jn_seq (j_seq (j_seq ?_))
  refine j_vacL 5 70 rEnum rfl rfl rfl ?_
  refine j_region ?_
  refine jg_adr _ rfl _ rfl rfl (op_ofield fld26_0 (.base rfl)) ?_
  refine jg_adr _ rfl _ rfl rfl (op_oload ty22 (.base rfl) rfl rfl ln26_0) ?_
  refine jg_adr _ rfl _ rfl rfl (op_len Try.underlying22 (.base rfl)) ?_
  refine jg_adr _ rfl _ rfl rfl (op_move (.base rfl)) ?_
  refine jg_nil ?_
  refine jn_keep [1, 2, 4, 5, 13, 14, 15] [2, 4, 5, 70] (.cons rfl (.cons rfl (.cons rfl (.cons rfl (.cons rfl (.cons rfl (.cons rfl .nil))))))) (.cons rfl (.cons rfl (.cons rfl (.cons rfl .nil)))) ?_
  refine jn_seq (j_block ?_)
  refine j_loopp (ι := Nat × Option Addr × Nat) (fun (k, A, cap) => ⟨[(13, .tv (rSlice rEnum) l.1), (14, .raw (.int .i64 (l.1.length))), (15, .raw (.int .i64 ((k : Nat)))), (2, .optr 2 rLaw.n 0 0), (4, .optr 4 rLaw.n 0 0), (1, .raw (.int .i64 (date))), (5, .lnk (.optr 5 rLaw.n 0 0) (.slice A ((l.1.take k).map id).length cap) (.own 70 rEnum.n 0 ((l.1.take k).map id).length))], [(2, ⟨rLaw, [l]⟩), (4, ⟨rLaw, [([], [], [])]⟩), (5, ⟨rLaw0, [((A, ((l.1.take k).map id).length, cap), (none, 0, 0), (none, 0, 0))]⟩), (70, ⟨rEnum, ((l.1.take k).map id)⟩)]⟩) (fun (k, A, cap) => k ≤ l.1.length) (fun (k, A, cap) => l.1.length - k) (0, none, 0) (Nat.zero_le _) (fun a w hi => (Sub.inv ⟨(by repeat (first | exact SubS_nil | refine SubS_cons rfl (by first | rfl | (simp; done) | assumption) ?_)), (by repeat (first | exact SubH_nil | refine SubH_cons rfl (by first | rfl | (simp; done) | assumption) ?_))⟩ hi)) ?_
  rintro ⟨k, A, cap⟩ hk
  have q4 := mapk_len id l.1 k
  refine j_seq ?_
  refine j_region ?_
  refine jg_adr _ rfl _ rfl rfl (op_lss (.base rfl) (.base rfl)) ?_
  refine jg_nil ?_
  refine jn_keep [1, 2, 4, 5, 13, 14, 15, 16] [2, 4, 5, 70] (.cons rfl (.cons rfl (.cons rfl (.cons rfl (.cons rfl (.cons rfl (.cons rfl (.cons rfl .nil)))))))) (.cons rfl (.cons rfl (.cons rfl (.cons rfl .nil)))) ?_
  refine jn_seq (j_seq ?_)
  refine j_cond rfl (fun h3 => ?_) (fun h3 => ?_)
  · have h3 : k < l.1.length := by simpa using h3
    have hs := mapk_succ id h3
    have hsl := congrArg List.length hs
    rw [List.length_append] at hsl
    have hge := hE2 _ (List.getElem_mem h3)
    refine j_skip (jn_seq (j_seq (j_block (j_seq ?_))))
    refine j_region ?_
    refine jg_adr _ rfl _ rfl rfl (op_index Try.underlying22 ty61 (.base rfl) (.base rfl) rfl (List.getElem?_eq_getElem (by first | omega | (simp; done) | (simp; omega) | (simp at hg; omega)))) ?_
    refine jg_adr _ rfl _ rfl rfl (op_load ty61 (.base rfl)) ?_
    refine jg_os _ rfl (op_alloc _ z61 rfl rfl rfl) ?_
    refine jg_os _ rfl (op_ostore ty61 (.base rfl) rfl rfl (Lens.id _) (.tv (.base rfl))) ?_
    refine jg_nil ?_
    refine jn_keep [1, 2, 4, 5, 7, 13, 14, 15] [2, 4, 5, 7, 70] (.cons rfl (.cons rfl (.cons rfl (.cons rfl (.cons rfl (.cons rfl (.cons rfl (.cons rfl .nil)))))))) (.cons rfl (.cons rfl (.cons rfl (.cons rfl (.cons rfl .nil))))) ?_
    refine jn_seq (j_seq ?_)
    refine j_region ?_
    refine jg_adr _ rfl _ rfl rfl (op_ofield fld61_1 (.base rfl)) ?_
    refine jg_adr _ rfl _ rfl rfl (op_oload ty59 (.base rfl) rfl rfl ln61_1) ?_
    refine jg_adr _ rfl _ rfl rfl (op_call (cloneS_ok _ (Nat.le_trans hge (by decide))) (.cons (.base rfl) .nil) rfl rfl) ?_
    refine jg_adr _ rfl _ rfl rfl (op_ofield fld61_1 (.base rfl)) ?_
    refine jg_os _ rfl (op_ostore ty59 (.base rfl) rfl rfl ln61_1 (.tv (.base rfl))) ?_
    refine jg_nil ?_
    refine jn_keep [1, 2, 4, 5, 7, 13, 14, 15] [2, 4, 5, 7, 70] (.cons rfl (.cons rfl (.cons rfl (.cons rfl (.cons rfl (.cons rfl (.cons rfl (.cons rfl .nil)))))))) (.cons rfl (.cons rfl (.cons rfl (.cons rfl (.cons rfl .nil))))) ?_
    refine jn_seq ?_
    refine j_region ?_
    refine jg_adr _ rfl _ rfl rfl (op_ofield fld26_0 (.l1 rfl)) ?_
    refine jg_adr _ rfl _ rfl rfl (op_oload (rt := rLaw0) tyH22 (.base rfl) rfl rfl ln_rLaw0_0) ?_
    refine jg_takeL 5 24 rfl rfl rfl ?_
    refine jg_adr _ rfl _ rfl rfl (op_oload ty61 (.base rfl) rfl rfl (Lens.id _)) ?_
    refine jg_adr _ rfl _ rfl rfl (op_bslice (rt := rEnum) Try.underlying22 ty61 z61 rfl (.cons (.tv (.base rfl)) .nil) rfl rfl) ?_
    refine jg_os _ rfl (op_append [1, 2, 4, 5, 13, 14, 15] Try.underlying22 ty61 z61 rfl by61 (.base rfl) rfl (by (try simp); try omega) (.tv (.base rfl)) (by unfold maxLen; (try simp); try omega) (by (try simp); try omega) rfl (.cons rfl (.cons rfl (.cons rfl (.cons rfl (.cons rfl (.cons rfl (.cons rfl .nil))))))) rfl) ?_
    refine jg_giveL 5 27 rfl rfl (fun A2 cap2 => ?_)
    refine jg_adr _ rfl _ rfl rfl (op_ofield fld26_0 (.l1 rfl)) ?_
    refine jg_os _ rfl (op_ostore (rt := rLaw0) tyH22 (.base rfl) rfl rfl ln_rLaw0_0 (.raw (d := (A2, _, cap2)) (.base rfl) rfl)) ?_
    refine jg_nil ?_
    refine jn_keep [1, 2, 4, 5, 13, 14, 15] [2, 4, 5, 70] (.cons rfl (.cons rfl (.cons rfl (.cons rfl (.cons rfl (.cons rfl (.cons rfl .nil))))))) (.cons rfl (.cons rfl (.cons rfl (.cons rfl .nil)))) ?_
    refine jn_blk (jn_seq ?_)
    refine j_region ?_
    refine jg_adr _ rfl _ rfl rfl (op_add (.base rfl) (.base rfl) (w64 (by omega))) ?_
    refine jg_adr _ rfl _ rfl rfl (op_move (.base rfl)) ?_
    refine jg_nil ?_
    refine jn_keep [1, 2, 4, 5, 13, 14, 15] [2, 4, 5, 70] (.cons rfl (.cons rfl (.cons rfl (.cons rfl (.cons rfl (.cons rfl (.cons rfl .nil))))))) (.cons rfl (.cons rfl (.cons rfl (.cons rfl .nil)))) ?_
    first | (have _hA2 := A2; exact jn_loop (fun a w hi => ⟨(k + 1, A2, cap2), (by show _ - (k + 1) < _ - k; omega), (by show k + 1 ≤ _; omega), Sub.inv ⟨(by repeat (first | exact SubS_nil | refine SubS_cons rfl (by first | rfl | (rw [hsl]; rfl) | (rw [hsl]; done)) ?_)), (by repeat (first | exact SubH_nil | refine SubH_cons rfl (by first | rfl | (refine congrArg (HB.mk rEnum) ?_; first | rfl | (rw [hs]; (try simp only [List.drop_zero, List.take_length]); first | done | rfl | (simp; done); done)) | (rw [hsl]; rfl) | (rw [hsl]; done)) ?_))⟩ hi⟩)) | exact jn_loop (fun a w hi => ⟨(k + 1, A, cap), (by show _ - (k + 1) < _ - k; omega), (by show k + 1 ≤ _; omega), Sub.inv ⟨(by repeat (first | exact SubS_nil | refine SubS_cons rfl (by first | rfl | (rw [hsl]; rfl) | (rw [hsl]; done)) ?_)), (by repeat (first | exact SubH_nil | refine SubH_cons rfl (by first | rfl | (refine congrArg (HB.mk rEnum) ?_; first | rfl | (rw [hs]; (try simp only [List.drop_zero, List.take_length]); first | done | rfl | (simp; done); done)) | (rw [hsl]; rfl) | (rw [hsl]; done)) ?_))⟩ hi⟩)
  · have h3 : l.1.length ≤ k := by simpa using h3
    refine j_exit (je_seq (je_loop (je_blk (jn_seq (j_seq (j_seq ?_))))))
    refine j_sealL (rt := rEnum) 70 5 (dropH 70 _) rfl rfl (by simp) (dropH_sub 70 _) (dropH_no 70 _) ?_
    rw [List.drop_zero, List.take_length, mapk_all id h3]
    rw [List.map_id]
    refine j_castL 5 5 rLaw1 (l.1, (none, 0, 0), (none, 0, 0)) (casts_fst _ casts_hd) rfl rfl rfl ?_
    refine j_vacL 5 71 rTable rfl rfl rfl ?_
    refine j_region ?_
    refine jg_adr _ rfl _ rfl rfl (op_ofield fld26_1 (.base rfl)) ?_
    refine jg_adr _ rfl _ rfl rfl (op_oload ty23 (.base rfl) rfl rfl ln26_1) ?_
    refine jg_adr _ rfl _ rfl rfl (op_len Try.underlying23 (.base rfl)) ?_
    refine jg_adr _ rfl _ rfl rfl (op_move (.base rfl)) ?_
    refine jg_nil ?_
    refine jn_keep [1, 2, 4, 5, 31, 32, 33] [2, 4, 5, 71] (.cons rfl (.cons rfl (.cons rfl (.cons rfl (.cons rfl (.cons rfl (.cons rfl .nil))))))) (.cons rfl (.cons rfl (.cons rfl (.cons rfl .nil)))) ?_
    refine jn_seq (j_block ?_)
    refine j_loopp (ι := Nat × Option Addr × Nat) (fun (k, A, cap) => ⟨[(31, .tv (rSlice rTable) l.2.1), (32, .raw (.int .i64 (l.2.1.length))), (33, .raw (.int .i64 ((k : Nat)))), (2, .optr 2 rLaw.n 0 0), (4, .optr 4 rLaw.n 0 0), (1, .raw (.int .i64 (date))), (5, .lnk (.optr 5 rLaw.n 0 0) (.slice A ((l.2.1.take k).map (tabOn date)).length cap) (.own 71 rTable.n 0 ((l.2.1.take k).map (tabOn date)).length))], [(2, ⟨rLaw, [l]⟩), (4, ⟨rLaw, [([], [], [])]⟩), (5, ⟨rLaw1, [(l.1, (A, ((l.2.1.take k).map (tabOn date)).length, cap), (none, 0, 0))]⟩), (71, ⟨rTable, ((l.2.1.take k).map (tabOn date))⟩)]⟩) (fun (k, A, cap) => k ≤ l.2.1.length) (fun (k, A, cap) => l.2.1.length - k) (0, none, 0) (Nat.zero_le _) (fun a w hi => (Sub.inv ⟨(by repeat (first | exact SubS_nil | refine SubS_cons rfl (by first | rfl | (simp; done) | assumption) ?_)), (by repeat (first | exact SubH_nil | refine SubH_cons rfl (by first | rfl | (simp; done) | assumption) ?_))⟩ hi)) ?_
    rintro ⟨k, A, cap⟩ hk
    have q4 := mapk_len (tabOn date) l.2.1 k
    refine j_seq ?_
    refine j_region ?_
    refine jg_adr _ rfl _ rfl rfl (op_lss (.base rfl) (.base rfl)) ?_
    refine jg_nil ?_
    refine jn_keep [1, 2, 4, 5, 31, 32, 33, 34] [2, 4, 5, 71] (.cons rfl (.cons rfl (.cons rfl (.cons rfl (.cons rfl (.cons rfl (.cons rfl (.cons rfl .nil)))))))) (.cons rfl (.cons rfl (.cons rfl (.cons rfl .nil)))) ?_
    refine jn_seq (j_seq ?_)
    refine j_cond rfl (fun h9 => ?_) (fun h9 => ?_)
    · have h9 : k < l.2.1.length := by simpa using h9
      have hs := mapk_succ (tabOn date) h9
      have hsl := congrArg List.length hs
      rw [List.length_append] at hsl
      have hgt := hT2 _ (List.getElem_mem h9)
      refine j_skip (jn_seq (j_seq (j_block (j_seq ?_))))
      refine j_region ?_
      refine jg_adr _ rfl _ rfl rfl (op_index Try.underlying23 ty64 (.base rfl) (.base rfl) rfl (List.getElem?_eq_getElem (by first | omega | (simp; done) | (simp; omega) | (simp at hg; omega)))) ?_
      refine jg_adr _ rfl _ rfl rfl (op_load ty64 (.base rfl)) ?_
      refine jg_os _ rfl (op_alloc _ z64 rfl rfl rfl) ?_
      refine jg_os _ rfl (op_ostore ty64 (.base rfl) rfl rfl (Lens.id _) (.tv (.base rfl))) ?_
      refine jg_nil ?_
      refine jn_keep [1, 2, 4, 5, 9, 31, 32, 33] [2, 4, 5, 9, 71] (.cons rfl (.cons rfl (.cons rfl (.cons rfl (.cons rfl (.cons rfl (.cons rfl (.cons rfl .nil)))))))) (.cons rfl (.cons rfl (.cons rfl (.cons rfl (.cons rfl .nil))))) ?_
      refine jn_seq ?_
      refine j_draw_tail 6 mo (by kernel_rfl) (by kernel_rfl) (by decide) (
        AS.cons _ _ rfl (ga_adr rfl rfl rfl (op_ofield fld26_1 (.l1 rfl))) (
          AS.cons _ _ rfl (ga_adr rfl rfl rfl (op_oload (rt := rLaw1) tyH23 (.base rfl) rfl rfl ln_rLaw1_1)) (
          AS.cons _ _ rfl (ga_adr rfl rfl rfl (op_oload ty64 (.base rfl) rfl rfl (Lens.id _))) (
          AS.cons _ _ rfl (ga_adr rfl rfl rfl (op_move (.base rfl))) (
          AS.cons _ _ rfl (ga_adr rfl rfl rfl (op_call (tableOn_ok _ _ hgt) (.cons (.base rfl) (.cons (.base rfl) .nil)) rfl rfl)) (
          AS.cons _ _ rfl (ga_adr rfl rfl rfl (op_bslice (rt := rTable) Try.underlying23 ty64 z64 rfl (.cons (.tv (.base rfl)) .nil) rfl rfl)) (
          AS.nil))))))) ?_
      refine jt_takeL 5 38 rfl rfl rfl ?_
      refine jt_os _ rfl rfl (by kernel_rfl) (op_append [1, 2, 4, 5, 31, 32, 33] Try.underlying23 ty64 z64 rfl by64 (.base rfl) rfl (by (try simp); try omega) (.tv (.base rfl)) (by unfold maxLen; (try simp); try omega) (by (try simp); try omega) rfl (.cons rfl (.cons rfl (.cons rfl (.cons rfl (.cons rfl (.cons rfl (.cons rfl .nil))))))) rfl) ?_
      refine jt_giveL 5 43 rfl rfl (fun A2 cap2 => ?_)
      refine jt_adr _ _ rfl rfl rfl rfl (by kernel_rfl) (op_ofield fld26_1 (.l1 rfl)) ?_
      refine jt_os _ rfl rfl (by kernel_rfl) (op_ostore (rt := rLaw1) tyH23 (.base rfl) rfl rfl ln_rLaw1_1 (.raw (d := (A2, _, cap2)) (.base rfl) rfl)) ?_
      refine jt_nil rfl ?_
      refine jn_keep [1, 2, 4, 5, 31, 32, 33] [2, 4, 5, 71] (.cons rfl (.cons rfl (.cons rfl (.cons rfl (.cons rfl (.cons rfl (.cons rfl .nil))))))) (.cons rfl (.cons rfl (.cons rfl (.cons rfl .nil)))) ?_
      refine jn_blk (jn_seq ?_)
      refine j_region ?_
      refine jg_adr _ rfl _ rfl rfl (op_add (.base rfl) (.base rfl) (w64 (by omega))) ?_
      refine jg_adr _ rfl _ rfl rfl (op_move (.base rfl)) ?_
      refine jg_nil ?_
      refine jn_keep [1, 2, 4, 5, 31, 32, 33] [2, 4, 5, 71] (.cons rfl (.cons rfl (.cons rfl (.cons rfl (.cons rfl (.cons rfl (.cons rfl .nil))))))) (.cons rfl (.cons rfl (.cons rfl (.cons rfl .nil)))) ?_
      first | (have _hA2 := A2; exact jn_loop (fun a w hi => ⟨(k + 1, A2, cap2), (by show _ - (k + 1) < _ - k; omega), (by show k + 1 ≤ _; omega), Sub.inv ⟨(by repeat (first | exact SubS_nil | refine SubS_cons rfl (by first | rfl | (rw [hsl]; rfl) | (rw [hsl]; done)) ?_)), (by repeat (first | exact SubH_nil | refine SubH_cons rfl (by first | rfl | (refine congrArg (HB.mk rTable) ?_; first | rfl | (rw [hs]; (try simp only [List.drop_zero, List.take_length]); first | done | rfl | (simp; done); done)) | (rw [hsl]; rfl) | (rw [hsl]; done)) ?_))⟩ hi⟩)) | exact jn_loop (fun a w hi => ⟨(k + 1, A, cap), (by show _ - (k + 1) < _ - k; omega), (by show k + 1 ≤ _; omega), Sub.inv ⟨(by repeat (first | exact SubS_nil | refine SubS_cons rfl (by first | rfl | (rw [hsl]; rfl) | (rw [hsl]; done)) ?_)), (by repeat (first | exact SubH_nil | refine SubH_cons rfl (by first | rfl | (refine congrArg (HB.mk rTable) ?_; first | rfl | (rw [hs]; (try simp only [List.drop_zero, List.take_length]); first | done | rfl | (simp; done); done)) | (rw [hsl]; rfl) | (rw [hsl]; done)) ?_))⟩ hi⟩)
    · have h9 : l.2.1.length ≤ k := by simpa using h9
      refine j_exit (je_seq (je_loop (je_blk (jn_seq (j_seq (j_seq ?_))))))
      refine j_sealL (rt := rTable) 71 5 (dropH 71 _) rfl rfl (by simp) (dropH_sub 71 _) (dropH_no 71 _) ?_
      rw [List.drop_zero, List.take_length, mapk_all (tabOn date) h9]
      refine j_castL 5 5 rLaw2 (l.1, l.2.1.map (tabOn date), (none, 0, 0)) (casts_pair _ (casts_fst _ casts_hd)) rfl rfl rfl ?_
      refine j_vacL 5 72 rScope rfl rfl rfl ?_
      refine j_region ?_
      refine jg_adr _ rfl _ rfl rfl (op_ofield fld26_2 (.base rfl)) ?_
      refine jg_adr _ rfl _ rfl rfl (op_oload ty24 (.base rfl) rfl rfl ln26_2) ?_
      refine jg_adr _ rfl _ rfl rfl (op_len Try.underlying24 (.base rfl)) ?_
      refine jg_adr _ rfl _ rfl rfl (op_move (.base rfl)) ?_
      refine jg_nil ?_
      refine jn_keep [1, 4, 5, 47, 48, 49] [4, 5, 72] (.cons rfl (.cons rfl (.cons rfl (.cons rfl (.cons rfl (.cons rfl .nil)))))) (.cons rfl (.cons rfl (.cons rfl .nil))) ?_
      refine jn_seq (j_block ?_)
      refine j_loopp (ι := Nat × Option Addr × Nat) (fun (k, A, cap) => ⟨[(47, .tv (rSlice rScope) l.2.2), (48, .raw (.int .i64 (l.2.2.length))), (49, .raw (.int .i64 ((k : Nat)))), (4, .optr 4 rLaw.n 0 0), (1, .raw (.int .i64 (date))), (5, .lnk (.optr 5 rLaw.n 0 0) (.slice A ((l.2.2.take k).map (scpOn date)).length cap) (.own 72 rScope.n 0 ((l.2.2.take k).map (scpOn date)).length))], [(4, ⟨rLaw, [([], [], [])]⟩), (5, ⟨rLaw2, [(l.1, l.2.1.map (tabOn date), (A, ((l.2.2.take k).map (scpOn date)).length, cap))]⟩), (72, ⟨rScope, ((l.2.2.take k).map (scpOn date))⟩)]⟩) (fun (k, A, cap) => k ≤ l.2.2.length) (fun (k, A, cap) => l.2.2.length - k) (0, none, 0) (Nat.zero_le _) (fun a w hi => (Sub.inv ⟨(by repeat (first | exact SubS_nil | refine SubS_cons rfl (by first | rfl | (simp; done) | assumption) ?_)), (by repeat (first | exact SubH_nil | refine SubH_cons rfl (by first | rfl | (simp; done) | assumption) ?_))⟩ hi)) ?_
      rintro ⟨k, A, cap⟩ hk
      have q4 := mapk_len (scpOn date) l.2.2 k
      refine j_seq ?_
      refine j_region ?_
      refine jg_adr _ rfl _ rfl rfl (op_lss (.base rfl) (.base rfl)) ?_
      refine jg_nil ?_
      refine jn_keep [1, 4, 5, 47, 48, 49, 50] [4, 5, 72] (.cons rfl (.cons rfl (.cons rfl (.cons rfl (.cons rfl (.cons rfl (.cons rfl .nil))))))) (.cons rfl (.cons rfl (.cons rfl .nil))) ?_
      refine jn_seq (j_seq ?_)
      refine j_cond rfl (fun h14 => ?_) (fun h14 => ?_)
      · have h14 : k < l.2.2.length := by simpa using h14
        have hs := mapk_succ (scpOn date) h14
        have hsl := congrArg List.length hs
        rw [List.length_append] at hsl
        have hgs := hS2 _ (List.getElem_mem h14)
        refine j_skip (jn_seq (j_seq (j_block (j_seq ?_))))
        refine j_region ?_
        refine jg_adr _ rfl _ rfl rfl (op_index Try.underlying24 ty40 (.base rfl) (.base rfl) rfl (List.getElem?_eq_getElem (by first | omega | (simp; done) | (simp; omega) | (simp at hg; omega)))) ?_
        refine jg_adr _ rfl _ rfl rfl (op_load ty40 (.base rfl)) ?_
        refine jg_os _ rfl (op_alloc _ z40 rfl rfl rfl) ?_
        refine jg_os _ rfl (op_ostore ty40 (.base rfl) rfl rfl (Lens.id _) (.tv (.base rfl))) ?_
        refine jg_nil ?_
        refine jn_keep [1, 4, 5, 11, 47, 48, 49] [4, 5, 11, 72] (.cons rfl (.cons rfl (.cons rfl (.cons rfl (.cons rfl (.cons rfl (.cons rfl .nil))))))) (.cons rfl (.cons rfl (.cons rfl (.cons rfl .nil)))) ?_
        refine jn_seq ?_
        refine j_draw_tail 6 mo (by kernel_rfl) (by kernel_rfl) (by decide) (
          AS.cons _ _ rfl (ga_adr rfl rfl rfl (op_ofield fld26_2 (.l1 rfl))) (
            AS.cons _ _ rfl (ga_adr rfl rfl rfl (op_oload (rt := rLaw2) tyH24 (.base rfl) rfl rfl ln_rLaw2_2)) (
            AS.cons _ _ rfl (ga_adr rfl rfl rfl (op_oload ty40 (.base rfl) rfl rfl (Lens.id _))) (
            AS.cons _ _ rfl (ga_adr rfl rfl rfl (op_move (.base rfl))) (
            AS.cons _ _ rfl (ga_adr rfl rfl rfl (op_call (scopeOn_ok _ _ hgs) (.cons (.base rfl) (.cons (.base rfl) .nil)) rfl rfl)) (
            AS.cons _ _ rfl (ga_adr rfl rfl rfl (op_bslice (rt := rScope) Try.underlying24 ty40 z40 rfl (.cons (.tv (.base rfl)) .nil) rfl rfl)) (
            AS.nil))))))) ?_
        refine jt_takeL 5 54 rfl rfl rfl ?_
        refine jt_os _ rfl rfl (by kernel_rfl) (op_append [1, 4, 5, 47, 48, 49] Try.underlying24 ty40 z40 rfl by40 (.base rfl) rfl (by (try simp); try omega) (.tv (.base rfl)) (by unfold maxLen; (try simp); try omega) (by (try simp); try omega) rfl (.cons rfl (.cons rfl (.cons rfl (.cons rfl (.cons rfl (.cons rfl .nil)))))) rfl) ?_
        refine jt_giveL 5 59 rfl rfl (fun A2 cap2 => ?_)
        refine jt_adr _ _ rfl rfl rfl rfl (by kernel_rfl) (op_ofield fld26_2 (.l1 rfl)) ?_
        refine jt_os _ rfl rfl (by kernel_rfl) (op_ostore (rt := rLaw2) tyH24 (.base rfl) rfl rfl ln_rLaw2_2 (.raw (d := (A2, _, cap2)) (.base rfl) rfl)) ?_
        refine jt_nil rfl ?_
        refine jn_keep [1, 4, 5, 47, 48, 49] [4, 5, 72] (.cons rfl (.cons rfl (.cons rfl (.cons rfl (.cons rfl (.cons rfl .nil)))))) (.cons rfl (.cons rfl (.cons rfl .nil))) ?_
        refine jn_blk (jn_seq ?_)
        refine j_region ?_
        refine jg_adr _ rfl _ rfl rfl (op_add (.base rfl) (.base rfl) (w64 (by omega))) ?_
        refine jg_adr _ rfl _ rfl rfl (op_move (.base rfl)) ?_
        refine jg_nil ?_
        refine jn_keep [1, 4, 5, 47, 48, 49] [4, 5, 72] (.cons rfl (.cons rfl (.cons rfl (.cons rfl (.cons rfl (.cons rfl .nil)))))) (.cons rfl (.cons rfl (.cons rfl .nil))) ?_
        first | (have _hA2 := A2; exact jn_loop (fun a w hi => ⟨(k + 1, A2, cap2), (by show _ - (k + 1) < _ - k; omega), (by show k + 1 ≤ _; omega), Sub.inv ⟨(by repeat (first | exact SubS_nil | refine SubS_cons rfl (by first | rfl | (rw [hsl]; rfl) | (rw [hsl]; done)) ?_)), (by repeat (first | exact SubH_nil | refine SubH_cons rfl (by first | rfl | (refine congrArg (HB.mk rScope) ?_; first | rfl | (rw [hs]; (try simp only [List.drop_zero, List.take_length]); first | done | rfl | (simp; done); done)) | (rw [hsl]; rfl) | (rw [hsl]; done)) ?_))⟩ hi⟩)) | exact jn_loop (fun a w hi => ⟨(k + 1, A, cap), (by show _ - (k + 1) < _ - k; omega), (by show k + 1 ≤ _; omega), Sub.inv ⟨(by repeat (first | exact SubS_nil | refine SubS_cons rfl (by first | rfl | (rw [hsl]; rfl) | (rw [hsl]; done)) ?_)), (by repeat (first | exact SubH_nil | refine SubH_cons rfl (by first | rfl | (refine congrArg (HB.mk rScope) ?_; first | rfl | (rw [hs]; (try simp only [List.drop_zero, List.take_length]); first | done | rfl | (simp; done); done)) | (rw [hsl]; rfl) | (rw [hsl]; done)) ?_))⟩ hi⟩)
      · have h14 : l.2.2.length ≤ k := by simpa using h14
        refine j_exit (je_seq (je_loop (je_blk (jn_seq (j_seq ?_)))))
        refine j_sealL (rt := rScope) 72 5 (dropH 72 _) rfl rfl (by simp) (dropH_sub 72 _) (dropH_no 72 _) ?_
        rw [List.drop_zero, List.take_length, mapk_all (scpOn date) h14]
        refine j_castL 5 5 rLaw (lawOn date l) (casts_pair _ (casts_pair _ casts_hd)) rfl rfl rfl ?_
        refine j_region ?_
        refine jg_adr _ rfl _ rfl rfl (op_oload ty26 (.base rfl) rfl rfl (Lens.id _)) ?_
        refine jg_os _ rfl (op_ostore ty26 (.base rfl) rfl rfl (Lens.id _) (.tv (.base rfl))) ?_
        refine jg_nil ?_
        refine jn_keep [4] [4] (.cons rfl .nil) (.cons rfl .nil) ?_
        refine jn_seq (j_ret ?_)
        exact jr_fin1 Try.results12 (res_cell ty26 rfl rfl rfl (Lens.id rLaw)) rfl rfl

theorem rlawOn_ok (l : TLaw) (date : Int) (hL : LLim l) : Ct Try.prog 13 [.tv rLaw l, .raw (.int .i64 date)] (.tv rLaw (lawOn date l)) := by
  refine ct_intro Try.func13 rfl rfl Try.ntmps13 rfl rfl ?_
  intro w0 ok0
  obtain ⟨⟨hE1, hE2⟩, ⟨hT1, hT2⟩, hS1, hS2⟩ := hL
  refine j_seq ?_
  refine j_region ?_
  refine jg_os _ rfl (op_box (.tv (.base rfl)) rfl rfl rfl) ?_
  refine jg_os _ rfl (op_alloc _ z26 rfl rfl rfl) ?_
  refine jg_nil ?_
  refine jn_keep [1, 2, 4] [2, 4] (.cons rfl (.cons rfl (.cons rfl .nil))) (.cons rfl (.cons rfl .nil)) ?_
  refine jn_seq (j_seq ?_)
  refine j_region ?_
  refine jg_adr _ rfl _ rfl rfl (op_ofield fld26_0 (.base rfl)) ?_
  refine jg_adr _ rfl _ rfl rfl (op_oload ty22 (.base rfl) rfl rfl ln26_0) ?_
  refine jg_adr _ rfl _ rfl rfl (op_build z_rLaw1 rfl pl26 (.cons (rt' := rSlice rEnum) rfl ln_rLaw1_0 (.tv (.base rfl)) .nil)) ?_
  refine jg_os _ rfl (op_alloc _ z_rLaw1 rfl rfl rfl) ?_
  refine jg_os _ rfl (op_ostore ty_rLaw1 (.base rfl) rfl rfl (Lens.id _) (.tv (.base rfl))) ?_
  refine jg_nil ?_
  refine jn_keep [1, 2, 4, 5] [2, 4, 5] (.cons rfl (.cons rfl (.cons rfl (.cons rfl .nil)))) (.cons rfl (.cons rfl (.cons rfl .nil))) ?_
  refine jn_seq (j_seq (j_seq ?_))
  refine j_vacL 5 71 rTable rfl rfl rfl ?_
  refine j_region ?_
  refine jg_adr _ rfl _ rfl rfl (op_assign (.base rfl)) ?_
  refine jg_nil ?_
  refine jn_keep [1, 2, 4, 5, 6] [2, 4, 5, 71] (.cons rfl (.cons rfl (.cons rfl (.cons rfl (.cons rfl .nil))))) (.cons rfl (.cons rfl (.cons rfl (.cons rfl .nil)))) ?_
  refine jn_seq (j_block ?_)
  refine j_loopp (ι := Nat × Option Addr × Nat) (fun (k, A, cap) => ⟨[(6, .raw (.int .i64 ((k : Nat)))), (2, .optr 2 rLaw.n 0 0), (4, .optr 4 rLaw.n 0 0), (1, .raw (.int .i64 (date))), (5, .lnk (.optr 5 rLaw.n 0 0) (.slice A ((l.2.1.take k).map (tabOn date)).length cap) (.own 71 rTable.n 0 ((l.2.1.take k).map (tabOn date)).length))], [(2, ⟨rLaw, [l]⟩), (4, ⟨rLaw, [([], [], [])]⟩), (5, ⟨rLaw1, [(l.1, (A, ((l.2.1.take k).map (tabOn date)).length, cap), (none, 0, 0))]⟩), (71, ⟨rTable, ((l.2.1.take k).map (tabOn date))⟩)]⟩) (fun (k, A, cap) => k ≤ l.2.1.length) (fun (k, A, cap) => l.2.1.length - k) (0, none, 0) (Nat.zero_le _) (fun a w hi => (Sub.inv ⟨(by repeat (first | exact SubS_nil | refine SubS_cons rfl (by first | rfl | (simp; done) | assumption) ?_)), (by repeat (first | exact SubH_nil | refine SubH_cons rfl (by first | rfl | (simp; done) | assumption) ?_))⟩ hi)) ?_
  rintro ⟨k, A, cap⟩ hk
  have q4 := mapk_len (tabOn date) l.2.1 k
  refine j_seq (j_seq ?_)
  refine j_region ?_
  refine jg_adr _ rfl _ rfl rfl (op_move (.base rfl)) ?_
  refine jg_adr _ rfl _ rfl rfl (op_ofield fld26_1 (.base rfl)) ?_
  refine jg_adr _ rfl _ rfl rfl (op_oload ty23 (.base rfl) rfl rfl ln26_1) ?_
  refine jg_adr _ rfl _ rfl rfl (op_len Try.underlying23 (.base rfl)) ?_
  refine jg_adr _ rfl _ rfl rfl (op_lss (.base rfl) (.base rfl)) ?_
  refine jg_nil ?_
  refine jn_keep [1, 2, 4, 5, 6, 15] [2, 4, 5, 71] (.cons rfl (.cons rfl (.cons rfl (.cons rfl (.cons rfl (.cons rfl .nil)))))) (.cons rfl (.cons rfl (.cons rfl (.cons rfl .nil)))) ?_
  refine jn_seq ?_
  refine j_cond rfl (fun h3 => ?_) (fun h3 => ?_)
  · have h3 : k < l.2.1.length := by simpa using h3
    have hs := mapk_succ (tabOn date) h3
    have hsl := congrArg List.length hs
    rw [List.length_append] at hsl
    have hgt := hT2 _ (List.getElem_mem h3)
    refine j_skip (jn_seq (j_seq (j_block ?_)))
    refine j_draw_tail 10 mo (by kernel_rfl) (by kernel_rfl) (by decide) (
      AS.cons _ _ rfl (ga_adr rfl rfl rfl (op_ofield fld26_1 (.l1 rfl))) (
        AS.cons _ _ rfl (ga_adr rfl rfl rfl (op_oload (rt := rLaw1) tyH23 (.base rfl) rfl rfl ln_rLaw1_1)) (
        AS.cons _ _ rfl (ga_adr rfl rfl rfl (op_ofield fld26_1 (.base rfl))) (
        AS.cons _ _ rfl (ga_adr rfl rfl rfl (op_oload ty23 (.base rfl) rfl rfl ln26_1)) (
        AS.cons _ _ rfl (ga_adr rfl rfl rfl (op_move (.base rfl))) (
        AS.cons _ _ rfl (ga_adr rfl rfl rfl (op_index Try.underlying23 ty64 (.base rfl) (.base rfl) rfl (List.getElem?_eq_getElem (by first | omega | (simp; done) | (simp; omega) | (simp at hg; omega))))) (
        AS.cons _ _ rfl (ga_adr rfl rfl rfl (op_load ty64 (.base rfl))) (
        AS.cons _ _ rfl (ga_adr rfl rfl rfl (op_move (.base rfl))) (
        AS.cons _ _ rfl (ga_adr rfl rfl rfl (op_call (rtableOn_ok _ _ hgt) (.cons (.base rfl) (.cons (.base rfl) .nil)) rfl rfl)) (
        AS.cons _ _ rfl (ga_adr rfl rfl rfl (op_bslice (rt := rTable) Try.underlying23 ty64 z64 rfl (.cons (.tv (.base rfl)) .nil) rfl rfl)) (
        AS.nil))))))))))) ?_
    refine jt_takeL 5 19 rfl rfl rfl ?_
    refine jt_os _ rfl rfl (by kernel_rfl) (op_append [1, 2, 4, 5, 6] Try.underlying23 ty64 z64 rfl by64 (.base rfl) rfl (by (try simp); try omega) (.tv (.base rfl)) (by unfold maxLen; (try simp); try omega) (by (try simp); try omega) rfl (.cons rfl (.cons rfl (.cons rfl (.cons rfl (.cons rfl .nil))))) rfl) ?_
    refine jt_giveL 5 28 rfl rfl (fun A2 cap2 => ?_)
    refine jt_adr _ _ rfl rfl rfl rfl (by kernel_rfl) (op_ofield fld26_1 (.l1 rfl)) ?_
    refine jt_os _ rfl rfl (by kernel_rfl) (op_ostore (rt := rLaw1) tyH23 (.base rfl) rfl rfl ln_rLaw1_1 (.raw (d := (A2, _, cap2)) (.base rfl) rfl)) ?_
    refine jt_nil rfl ?_
    refine jn_keep [1, 2, 4, 5, 6] [2, 4, 5, 71] (.cons rfl (.cons rfl (.cons rfl (.cons rfl (.cons rfl .nil))))) (.cons rfl (.cons rfl (.cons rfl (.cons rfl .nil)))) ?_
    refine jn_blk (jn_seq ?_)
    refine j_region ?_
    refine jg_adr _ rfl _ rfl rfl (op_move (.base rfl)) ?_
    refine jg_adr _ rfl _ rfl rfl (op_add (.base rfl) (.base rfl) (w64 (by omega))) ?_
    refine jg_adr _ rfl _ rfl rfl (op_assign (.base rfl)) ?_
    refine jg_nil ?_
    refine jn_keep [1, 2, 4, 5, 6] [2, 4, 5, 71] (.cons rfl (.cons rfl (.cons rfl (.cons rfl (.cons rfl .nil))))) (.cons rfl (.cons rfl (.cons rfl (.cons rfl .nil)))) ?_
    first | (have _hA2 := A2; exact jn_loop (fun a w hi => ⟨(k + 1, A2, cap2), (by show _ - (k + 1) < _ - k; omega), (by show k + 1 ≤ _; omega), Sub.inv ⟨(by repeat (first | exact SubS_nil | refine SubS_cons rfl (by first | rfl | (rw [hsl]; rfl) | (rw [hsl]; done)) ?_)), (by repeat (first | exact SubH_nil | refine SubH_cons rfl (by first | rfl | (refine congrArg (HB.mk rTable) ?_; first | rfl | (rw [hs]; (try simp only [List.drop_zero, List.take_length]); first | done | rfl | (simp; done); done)) | (rw [hsl]; rfl) | (rw [hsl]; done)) ?_))⟩ hi⟩)) | exact jn_loop (fun a w hi => ⟨(k + 1, A, cap), (by show _ - (k + 1) < _ - k; omega), (by show k + 1 ≤ _; omega), Sub.inv ⟨(by repeat (first | exact SubS_nil | refine SubS_cons rfl (by first | rfl | (rw [hsl]; rfl) | (rw [hsl]; done)) ?_)), (by repeat (first | exact SubH_nil | refine SubH_cons rfl (by first | rfl | (refine congrArg (HB.mk rTable) ?_; first | rfl | (rw [hs]; (try simp only [List.drop_zero, List.take_length]); first | done | rfl | (simp; done); done)) | (rw [hsl]; rfl) | (rw [hsl]; done)) ?_))⟩ hi⟩)
  · have h3 : l.2.1.length ≤ k := by simpa using h3
    refine j_exit (je_seq (je_loop (je_blk (jn_seq (j_seq (j_seq ?_))))))
    refine j_sealL (rt := rTable) 71 5 (dropH 71 _) rfl rfl (by simp) (dropH_sub 71 _) (dropH_no 71 _) ?_
    rw [List.drop_zero, List.take_length, mapk_all (tabOn date) h3]
    refine j_castL 5 5 rLaw2 (l.1, l.2.1.map (tabOn date), (none, 0, 0)) (casts_pair _ (casts_fst _ casts_hd)) rfl rfl rfl ?_
    refine j_vacL 5 72 rScope rfl rfl rfl ?_
    refine j_region ?_
    refine jg_adr _ rfl _ rfl rfl (op_assign (.base rfl)) ?_
    refine jg_nil ?_
    refine jn_keep [1, 2, 4, 5, 7] [2, 4, 5, 72] (.cons rfl (.cons rfl (.cons rfl (.cons rfl (.cons rfl .nil))))) (.cons rfl (.cons rfl (.cons rfl (.cons rfl .nil)))) ?_
    refine jn_seq (j_block ?_)
    refine j_loopp (ι := Nat × Option Addr × Nat) (fun (k, A, cap) => ⟨[(7, .raw (.int .i64 ((k : Nat)))), (2, .optr 2 rLaw.n 0 0), (4, .optr 4 rLaw.n 0 0), (1, .raw (.int .i64 (date))), (5, .lnk (.optr 5 rLaw.n 0 0) (.slice A ((l.2.2.take k).map (scpOn date)).length cap) (.own 72 rScope.n 0 ((l.2.2.take k).map (scpOn date)).length))], [(2, ⟨rLaw, [l]⟩), (4, ⟨rLaw, [([], [], [])]⟩), (5, ⟨rLaw2, [(l.1, l.2.1.map (tabOn date), (A, ((l.2.2.take k).map (scpOn date)).length, cap))]⟩), (72, ⟨rScope, ((l.2.2.take k).map (scpOn date))⟩)]⟩) (fun (k, A, cap) => k ≤ l.2.2.length) (fun (k, A, cap) => l.2.2.length - k) (0, none, 0) (Nat.zero_le _) (fun a w hi => (Sub.inv ⟨(by repeat (first | exact SubS_nil | refine SubS_cons rfl (by first | rfl | (simp; done) | assumption) ?_)), (by repeat (first | exact SubH_nil | refine SubH_cons rfl (by first | rfl | (simp; done) | assumption) ?_))⟩ hi)) ?_
    rintro ⟨k, A, cap⟩ hk
    have q4 := mapk_len (scpOn date) l.2.2 k
    refine j_seq (j_seq ?_)
    refine j_region ?_
    refine jg_adr _ rfl _ rfl rfl (op_move (.base rfl)) ?_
    refine jg_adr _ rfl _ rfl rfl (op_ofield fld26_2 (.base rfl)) ?_
    refine jg_adr _ rfl _ rfl rfl (op_oload ty24 (.base rfl) rfl rfl ln26_2) ?_
    refine jg_adr _ rfl _ rfl rfl (op_len Try.underlying24 (.base rfl)) ?_
    refine jg_adr _ rfl _ rfl rfl (op_lss (.base rfl) (.base rfl)) ?_
    refine jg_nil ?_
    refine jn_keep [1, 2, 4, 5, 7, 34] [2, 4, 5, 72] (.cons rfl (.cons rfl (.cons rfl (.cons rfl (.cons rfl (.cons rfl .nil)))))) (.cons rfl (.cons rfl (.cons rfl (.cons rfl .nil)))) ?_
    refine jn_seq ?_
    refine j_cond rfl (fun h7 => ?_) (fun h7 => ?_)
    · have h7 : k < l.2.2.length := by simpa using h7
      have hs := mapk_succ (scpOn date) h7
      have hsl := congrArg List.length hs
      rw [List.length_append] at hsl
      have hgs := hS2 _ (List.getElem_mem h7)
      refine j_skip (jn_seq (j_seq (j_block ?_)))
      refine j_draw_tail 10 mo (by kernel_rfl) (by kernel_rfl) (by decide) (
        AS.cons _ _ rfl (ga_adr rfl rfl rfl (op_ofield fld26_2 (.l1 rfl))) (
          AS.cons _ _ rfl (ga_adr rfl rfl rfl (op_oload (rt := rLaw2) tyH24 (.base rfl) rfl rfl ln_rLaw2_2)) (
          AS.cons _ _ rfl (ga_adr rfl rfl rfl (op_ofield fld26_2 (.base rfl))) (
          AS.cons _ _ rfl (ga_adr rfl rfl rfl (op_oload ty24 (.base rfl) rfl rfl ln26_2)) (
          AS.cons _ _ rfl (ga_adr rfl rfl rfl (op_move (.base rfl))) (
          AS.cons _ _ rfl (ga_adr rfl rfl rfl (op_index Try.underlying24 ty40 (.base rfl) (.base rfl) rfl (List.getElem?_eq_getElem (by first | omega | (simp; done) | (simp; omega) | (simp at hg; omega))))) (
          AS.cons _ _ rfl (ga_adr rfl rfl rfl (op_load ty40 (.base rfl))) (
          AS.cons _ _ rfl (ga_adr rfl rfl rfl (op_move (.base rfl))) (
          AS.cons _ _ rfl (ga_adr rfl rfl rfl (op_call (rscopeOn_ok _ _ hgs) (.cons (.base rfl) (.cons (.base rfl) .nil)) rfl rfl)) (
          AS.cons _ _ rfl (ga_adr rfl rfl rfl (op_bslice (rt := rScope) Try.underlying24 ty40 z40 rfl (.cons (.tv (.base rfl)) .nil) rfl rfl)) (
          AS.nil))))))))))) ?_
      refine jt_takeL 5 38 rfl rfl rfl ?_
      refine jt_os _ rfl rfl (by kernel_rfl) (op_append [1, 2, 4, 5, 7] Try.underlying24 ty40 z40 rfl by40 (.base rfl) rfl (by (try simp); try omega) (.tv (.base rfl)) (by unfold maxLen; (try simp); try omega) (by (try simp); try omega) rfl (.cons rfl (.cons rfl (.cons rfl (.cons rfl (.cons rfl .nil))))) rfl) ?_
      refine jt_giveL 5 47 rfl rfl (fun A2 cap2 => ?_)
      refine jt_adr _ _ rfl rfl rfl rfl (by kernel_rfl) (op_ofield fld26_2 (.l1 rfl)) ?_
      refine jt_os _ rfl rfl (by kernel_rfl) (op_ostore (rt := rLaw2) tyH24 (.base rfl) rfl rfl ln_rLaw2_2 (.raw (d := (A2, _, cap2)) (.base rfl) rfl)) ?_
      refine jt_nil rfl ?_
      refine jn_keep [1, 2, 4, 5, 7] [2, 4, 5, 72] (.cons rfl (.cons rfl (.cons rfl (.cons rfl (.cons rfl .nil))))) (.cons rfl (.cons rfl (.cons rfl (.cons rfl .nil)))) ?_
      refine jn_blk (jn_seq ?_)
      refine j_region ?_
      refine jg_adr _ rfl _ rfl rfl (op_move (.base rfl)) ?_
      refine jg_adr _ rfl _ rfl rfl (op_add (.base rfl) (.base rfl) (w64 (by omega))) ?_
      refine jg_adr _ rfl _ rfl rfl (op_assign (.base rfl)) ?_
      refine jg_nil ?_
      refine jn_keep [1, 2, 4, 5, 7] [2, 4, 5, 72] (.cons rfl (.cons rfl (.cons rfl (.cons rfl (.cons rfl .nil))))) (.cons rfl (.cons rfl (.cons rfl (.cons rfl .nil)))) ?_
      first | (have _hA2 := A2; exact jn_loop (fun a w hi => ⟨(k + 1, A2, cap2), (by show _ - (k + 1) < _ - k; omega), (by show k + 1 ≤ _; omega), Sub.inv ⟨(by repeat (first | exact SubS_nil | refine SubS_cons rfl (by first | rfl | (rw [hsl]; rfl) | (rw [hsl]; done)) ?_)), (by repeat (first | exact SubH_nil | refine SubH_cons rfl (by first | rfl | (refine congrArg (HB.mk rScope) ?_; first | rfl | (rw [hs]; (try simp only [List.drop_zero, List.take_length]); first | done | rfl | (simp; done); done)) | (rw [hsl]; rfl) | (rw [hsl]; done)) ?_))⟩ hi⟩)) | exact jn_loop (fun a w hi => ⟨(k + 1, A, cap), (by show _ - (k + 1) < _ - k; omega), (by show k + 1 ≤ _; omega), Sub.inv ⟨(by repeat (first | exact SubS_nil | refine SubS_cons rfl (by first | rfl | (rw [hsl]; rfl) | (rw [hsl]; done)) ?_)), (by repeat (first | exact SubH_nil | refine SubH_cons rfl (by first | rfl | (refine congrArg (HB.mk rScope) ?_; first | rfl | (rw [hs]; (try simp only [List.drop_zero, List.take_length]); first | done | rfl | (simp; done); done)) | (rw [hsl]; rfl) | (rw [hsl]; done)) ?_))⟩ hi⟩)
    · have h7 : l.2.2.length ≤ k := by simpa using h7
      refine j_exit (je_seq (je_loop (je_blk (jn_seq (j_seq ?_)))))
      refine j_sealL (rt := rScope) 72 5 (dropH 72 _) rfl rfl (by simp) (dropH_sub 72 _) (dropH_no 72 _) ?_
      rw [List.drop_zero, List.take_length, mapk_all (scpOn date) h7]
      refine j_castL 5 5 rLaw (lawOn date l) (casts_pair _ (casts_pair _ casts_hd)) rfl rfl rfl ?_
      refine j_region ?_
      refine jg_adr _ rfl _ rfl rfl (op_oload ty26 (.base rfl) rfl rfl (Lens.id _)) ?_
      refine jg_os _ rfl (op_ostore ty26 (.base rfl) rfl rfl (Lens.id _) (.tv (.base rfl))) ?_
      refine jg_nil ?_
      refine jn_keep [4] [4] (.cons rfl .nil) (.cons rfl .nil) ?_
      refine jn_seq (j_ret ?_)
      exact jr_fin1 Try.results13 (res_cell ty26 rfl rfl rfl (Lens.id rLaw)) rfl rfl

end Go.Proofs.Ythfhekohlmboiaa
