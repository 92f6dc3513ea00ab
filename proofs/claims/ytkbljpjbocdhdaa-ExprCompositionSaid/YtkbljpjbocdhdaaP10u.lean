import Derived.Test.YtkbljpjbocdhdaaP10t
import Derived.Test.YtkbljpjbocdhdaaP10r
namespace Go.Proofs.Ytkbljpjbocdhdaa
open Go.Eng
set_option maxRecDepth 100000
set_option maxHeartbeats 4000000
set_option linter.unusedVariables false
set_option linter.unusedSimpArgs false


theorem goods_get {s : TSignature} : ∀ (p : Nat) (l : List Sg), Goods s p l → ∀ i (h : i < l.length), Good s (p + i) l[i]
  | p, x :: l, h, 0, _ => h.1
  | p, x :: l, h, i + 1, hi => by have := goods_get (p + 1) l h.2 i (by simpa using hi); simpa [Nat.add_assoc, Nat.add_comm 1] using this
theorem flat_step {l : List Sg} {i : Nat} (h : i < l.length) : flat (l.take (i + 1)) = flat (l.take i) ++ l[i].1 := by
  rw [← List.take_append_getElem h, flat_append]; simp [flat]
theorem flat_le {l : List Sg} {i : Nat} : (flat (l.take i)).length ≤ (flat l).length := by
  conv => rhs; rw [← List.take_append_drop i l, flat_append]
  simp
theorem seg_eq {l : List Sg} {d : TNode} {i : Nat} (h : i < l.length) : ((flat l ++ [d]).take (flat (l.take (i + 1))).length).drop (flat (l.take i)).length = l[i].1 := by
  have e : flat l = flat (l.take (i + 1)) ++ flat (l.drop (i + 1)) := by rw [← flat_append, List.take_append_drop]
  rw [e, List.append_assoc, List.take_left' rfl, flat_step h, List.drop_left' rfl]
theorem types_step {l : List Sg} {i : Nat} (h : i < l.length) : (l.take (i + 1)).map (·.2) = (l.take i).map (·.2) ++ [l[i].2] := by
  rw [← List.take_append_getElem h, List.map_append]; rfl
theorem goods_ne {s : TSignature} {l : List Sg} (h : Goods s 0 l) {i : Nat} (hi : i < l.length) : 0 < l[i].1.length := List.length_pos_iff.2 (goods_get 0 l h i hi).1

theorem law_comp (e : List TNode) (s : TSignature) (hn : ∀ d ∈ e, d.2 ≤ 9223372036854775807) : Ct Try.prog 5 [.tv (rSlice rNode) e, .tv rSignature s] (.raw (.bool true)) := by
  refine ct_intro Try.func5 rfl rfl Try.ntmps5 rfl rfl ?_
  intro w0 ok0
  refine j_len 0 rfl (fun hl0 => ?_)
  refine j_seq ?_
  refine j_region ?_
  refine jg_os _ rfl (op_box (.tv (.base rfl)) rfl rfl rfl) ?_
  refine jg_adr _ rfl _ rfl rfl (op_assign (.base rfl)) ?_
  refine jg_nil ?_
  refine jn_keep [0, 3] [3] (.cons rfl (.cons rfl .nil)) (.cons rfl .nil) ?_
  refine jn_seq (j_seq (j_seq ?_))
  refine j_region ?_
  refine jg_adr _ rfl _ rfl rfl (op_move (.base rfl)) ?_
  refine jg_adr _ rfl _ rfl rfl (op_len Try.underlying22 (.base rfl)) ?_
  refine jg_adr _ rfl _ rfl rfl (op_gtr (.base rfl) (.base rfl)) ?_
  refine jg_adr _ rfl _ rfl rfl (op_move (.base rfl)) ?_
  refine jg_gd _ _ _ _ _ _ rfl rfl rfl rfl rfl (fun hg => op_oload ty36 (.base rfl) rfl rfl (Lens.id _)) ?_
  refine jg_gd _ _ _ _ _ _ rfl rfl rfl rfl rfl (fun hg => op_call (small_ok _) (.cons (.gd rfl hg) .nil) rfl rfl) ?_
  refine jg_gd _ _ _ _ _ _ rfl rfl rfl rfl rfl (fun hg => op_not (.gd rfl hg)) ?_
  refine jg_adr _ rfl _ rfl rfl (op_pick_or (.base rfl) (.base rfl) rfl (by intro h; first | (rw [h]; rfl) | simp_all)) ?_
  refine jg_nil ?_
  refine jn_keep [0, 3, 29] [3] (.cons rfl (.cons rfl (.cons rfl .nil))) (.cons rfl .nil) ?_
  refine jn_seq ?_
  refine j_cond rfl (fun h1 => ?_) (fun h1 => ?_)
  · try simp at h1
    refine j_seq ?_
    refine j_region ?_
    refine jg_adr _ rfl _ rfl rfl (op_call awake_ok .nil rfl rfl) ?_
    refine jg_adr _ rfl _ rfl rfl (op_assign (.base rfl)) ?_
    refine jg_nil ?_
    refine jn_keep [4] [] (.cons rfl .nil) .nil ?_
    refine jn_seq (j_ret (jr_seq ?_))
    exact jr_fin1 Try.results5 (res_tmp rfl) rfl rfl
  · try simp at h1
    refine j_skip (jn_seq (j_seq ?_))
    refine j_region ?_
    refine jg_adr _ rfl _ rfl rfl (op_move (.base rfl)) ?_
    refine jg_adr _ rfl _ rfl rfl (op_oload ty36 (.base rfl) rfl rfl (Lens.id _)) ?_
    refine jg_adr _ rfl _ rfl rfl (op_call (typeOf_ok _ _ hn) (.cons (.base rfl) (.cons (.base rfl) .nil)) rfl rfl) ?_
    refine jg_adr _ rfl _ rfl rfl (op_move (.base rfl)) ?_
    refine jg_adr _ rfl _ rfl rfl (op_ext30 (.base rfl)) ?_
    refine jg_adr _ rfl _ rfl rfl (op_ext31 (.base rfl)) ?_
    refine jg_adr _ rfl _ rfl rfl (op_ext32 (.base rfl)) ?_
    refine jg_os _ rfl (op_alloc _ z39 rfl rfl rfl) ?_
    refine jg_os _ rfl (op_ostore ty39 (.base rfl) rfl rfl (Lens.id _) (.tv (.base rfl))) ?_
    refine jg_adr _ rfl _ rfl rfl (op_assign (.base rfl)) ?_
    refine jg_adr _ rfl _ rfl rfl (op_assign (.base rfl)) ?_
    refine jg_nil ?_
    refine jn_keep [0, 3, 5, 7] [3, 5] (.cons rfl (.cons rfl (.cons rfl (.cons rfl .nil)))) (.cons rfl (.cons rfl .nil)) ?_
    refine jn_seq (j_seq (j_seq ?_))
    refine j_region ?_
    refine jg_adr _ rfl _ rfl rfl (op_move (.base rfl)) ?_
    refine jg_adr _ rfl _ rfl rfl (op_neq (.base rfl) (.base rfl)) ?_
    refine jg_nil ?_
    refine jn_keep [0, 3, 5, 39] [3, 5] (.cons rfl (.cons rfl (.cons rfl (.cons rfl .nil)))) (.cons rfl (.cons rfl .nil)) ?_
    refine jn_seq ?_
    refine j_cond rfl (fun h4 => ?_) (fun h4 => ?_)
    · try simp at h4
      refine j_seq ?_
      refine j_region ?_
      refine jg_adr _ rfl _ rfl rfl (op_call awake_ok .nil rfl rfl) ?_
      refine jg_adr _ rfl _ rfl rfl (op_assign (.base rfl)) ?_
      refine jg_nil ?_
      refine jn_keep [4] [] (.cons rfl .nil) .nil ?_
      refine jn_seq (j_ret (jr_seq ?_))
      exact jr_fin1 Try.results5 (res_tmp rfl) rfl rfl
    · try simp at h4
      refine j_skip (jn_seq (j_seq ?_))
      have ht : (typeOf e s).2.2 = 0 := by simpa using h4
      have hs := typeOf_struct ht
      obtain ⟨l, d, he, ha, hg, hv, hc, hty, hn0, hN⟩ := comp ht
      have hlen : e.length = (flat l).length + 1 := by rw [he]; simp
      obtain ⟨h48, h0, hR, ⟨rs, hrs, hr1⟩, _⟩ := structF_ok hs
      have hR0 : (structF e).1[(flat l).length]?.getD 0 = 0 := by
        cases rs with
        | nil => exact absurd hrs (by simp [chain]; intro q; simp [q] at h0)
        | cons a r =>
          have : r = [] := List.length_eq_zero_iff.1 (by simp only [List.length_cons] at hr1; omega)
          subst this
          have h3 := hrs.2.2.1
          rw [show ((e.length : Int) - 1).toNat = (flat l).length by omega] at h3
          have h4 : a = 0 := hrs.2.2.2
          rw [h3, h4]; rfl
      have hel := ends_len 0 l
      have hl3 : l.length ≤ 3 := by have := arity_le d.1; omega
      obtain ⟨hopd, hEnds⟩ := opd_ends l.length l rfl hc
      have hed : e[(flat l).length]? = some d := by rw [he]; simp
      have hed' : e[(flat l).length]?.getD (0, 0) = d := by rw [hed]; rfl
      have hops : opsF e ((flat l).length : Nat) = ends 0 l := by
        unfold opsF; rw [if_neg (by simp [hs]; omega), Int.toNat_natCast, hed', ha, Int.toNat_natCast, hopd]
      have hop : Ct Try.prog 14 [.tv (rSlice rNode) e, .raw (.int .i64 ((flat l).length : Nat))] (.tv (rSlice (rInt .i64)) (ends 0 l)) := by rw [← hops]; exact operands_ok _ _
      have eT : (e.length : Int) - 1 = ((flat l).length : Nat) := by omega
      refine j_region ?_
      refine jg_adr _ rfl _ rfl rfl (op_move (.base rfl)) ?_
      refine jg_adr _ rfl _ rfl rfl (op_call (starts_ok _) (.cons (.base rfl) .nil) rfl rfl) ?_
      refine jg_adr _ rfl _ rfl rfl (op_move (.base rfl)) ?_
      refine jg_adr _ rfl _ rfl rfl (op_ext20 (.base rfl)) ?_
      refine jg_adr _ rfl _ rfl rfl (op_ext21 (.base rfl)) ?_
      refine jg_adr _ rfl _ rfl rfl (op_assign (.base rfl)) ?_
      refine jg_adr _ rfl _ rfl rfl (op_assign (.base rfl)) ?_
      refine jg_nil ?_
      refine jn_keep [0, 3, 5, 8, 9] [3, 5] (.cons rfl (.cons rfl (.cons rfl (.cons rfl (.cons rfl .nil))))) (.cons rfl (.cons rfl .nil)) ?_
      refine jn_seq (j_seq ?_)
      refine j_region ?_
      refine jg_adr _ rfl _ rfl rfl (op_move (.base rfl)) ?_
      refine jg_adr _ rfl _ rfl rfl (op_len Try.underlying22 (.base rfl)) ?_
      refine jg_adr _ rfl _ rfl rfl (op_sub (.base rfl) (.base rfl) (w64 (by omega))) ?_
      refine jg_adr _ rfl _ rfl rfl (op_assign (.base rfl)) ?_
      refine jg_nil ?_
      refine jn_keep [0, 3, 5, 8, 9, 10] [3, 5] (.cons rfl (.cons rfl (.cons rfl (.cons rfl (.cons rfl (.cons rfl .nil)))))) (.cons rfl (.cons rfl .nil)) ?_
      refine jn_seq (j_seq ?_)
      rw [eT]
      refine j_region ?_
      refine jg_adr _ rfl _ rfl rfl (op_move (.base rfl)) ?_
      refine jg_adr _ rfl _ rfl rfl (op_move (.base rfl)) ?_
      refine jg_adr _ rfl _ rfl rfl (op_call hop (.cons (.base rfl) (.cons (.base rfl) .nil)) rfl rfl) ?_
      refine jg_adr _ rfl _ rfl rfl (op_assign (.base rfl)) ?_
      refine jg_nil ?_
      refine jn_keep [0, 3, 5, 8, 9, 10, 11] [3, 5] (.cons rfl (.cons rfl (.cons rfl (.cons rfl (.cons rfl (.cons rfl (.cons rfl .nil))))))) (.cons rfl (.cons rfl .nil)) ?_
      refine jn_seq (j_seq (j_seq ?_))
      refine j_region ?_
      refine jg_adr _ rfl _ rfl rfl (op_move (.base rfl)) ?_
      refine jg_adr _ rfl _ rfl rfl (op_neq (.base rfl) (.base rfl)) ?_
      refine jg_adr _ rfl _ rfl rfl (op_move (.base rfl)) ?_
      refine jg_gd _ _ _ _ _ _ rfl rfl rfl rfl rfl (fun hg => op_move (.base rfl)) ?_
      refine jg_gd _ _ _ _ _ _ rfl rfl rfl rfl rfl (fun hg => op_len Try.underlying24 (.gd rfl hg)) ?_
      refine jg_gd _ _ _ _ _ _ rfl rfl rfl rfl rfl (fun hg => op_move (.base rfl)) ?_
      refine jg_gd _ _ _ _ _ _ rfl rfl rfl rfl rfl (fun hg => op_len Try.underlying22 (.gd rfl hg)) ?_
      refine jg_gd _ _ _ _ _ _ rfl rfl rfl rfl rfl (fun hg => op_neq (.gd rfl hg) (.gd rfl hg)) ?_
      refine jg_adr _ rfl _ rfl rfl (op_pick_or (.base rfl) (.base rfl) rfl (by intro h; first | (rw [h]; rfl) | simp_all)) ?_
      refine jg_adr _ rfl _ rfl rfl (op_move (.base rfl)) ?_
      refine jg_gd _ _ _ _ _ _ rfl rfl rfl rfl rfl (fun hg => op_move (.base rfl)) ?_
      refine jg_gd _ _ _ _ _ _ rfl rfl rfl rfl rfl (fun hg => op_move (.base rfl)) ?_
      refine jg_gd _ _ _ _ _ _ rfl rfl rfl rfl rfl (fun hg => op_index Try.underlying24 ty3 (.gd rfl hg) (.gd rfl hg) (show (((flat l).length : Nat) : Int) = (((flat l).length : Nat) : Int) from rfl) (getD_some (z := (0 : Int)) (by first | omega | (simp; done) | (simp; omega) | (simp at hg; omega) | (simp at hg; simp; omega)))) ?_
      refine jg_gd _ _ _ _ _ _ rfl rfl rfl rfl rfl (fun hg => op_load ty3 (.gd rfl hg)) ?_
      refine jg_gd _ _ _ _ _ _ rfl rfl rfl rfl rfl (fun hg => op_neq (.gd rfl hg) (.base rfl)) ?_
      refine jg_adr _ rfl _ rfl rfl (op_pick_or (.base rfl) (.base rfl) rfl (by intro h; first | (rw [h]; rfl) | simp_all)) ?_
      refine jg_adr _ rfl _ rfl rfl (op_move (.base rfl)) ?_
      refine jg_gd _ _ _ _ _ _ rfl rfl rfl rfl rfl (fun hg => op_move (.base rfl)) ?_
      refine jg_gd _ _ _ _ _ _ rfl rfl rfl rfl rfl (fun hg => op_len Try.underlying24 (.gd rfl hg)) ?_
      refine jg_gd _ _ _ _ _ _ rfl rfl rfl rfl rfl (fun hg => op_move (.base rfl)) ?_
      refine jg_gd _ _ _ _ _ _ rfl rfl rfl rfl rfl (fun hg => op_move (.base rfl)) ?_
      refine jg_gd _ _ _ _ _ _ rfl rfl rfl rfl rfl (fun hg => op_index Try.underlying22 ty44 (.gd rfl hg) (.gd rfl hg) (show (((flat l).length : Nat) : Int) = (((flat l).length : Nat) : Int) from rfl) (getD_some (z := ((0, 0) : TNode)) (by first | omega | (simp; done) | (simp; omega) | (simp at hg; omega) | (simp at hg; simp; omega)))) ?_
      refine jg_gd _ _ _ _ _ _ rfl rfl rfl rfl rfl (fun hg => op_field fld44_0 ln44_0 (.gd rfl hg)) ?_
      refine jg_gd _ _ _ _ _ _ rfl rfl rfl rfl rfl (fun hg => op_load ty3 (.gd rfl hg)) ?_
      refine jg_gd _ _ _ _ _ _ rfl rfl rfl rfl rfl (fun hg => op_call (arity_ok _) (.cons (.gd rfl hg) .nil) rfl rfl) ?_
      refine jg_gd _ _ _ _ _ _ rfl rfl rfl rfl rfl (fun hg => op_neq (.gd rfl hg) (.gd rfl hg)) ?_
      refine jg_adr _ rfl _ rfl rfl (op_pick_or (.base rfl) (.base rfl) rfl (by intro h; first | (rw [h]; rfl) | simp_all)) ?_
      refine jg_nil ?_
      refine jn_keep [0, 3, 5, 8, 10, 11, 78] [3, 5] (.cons rfl (.cons rfl (.cons rfl (.cons rfl (.cons rfl (.cons rfl (.cons rfl .nil))))))) (.cons rfl (.cons rfl .nil)) ?_
      refine jn_seq ?_
      refine j_cond rfl (fun h9 => ?_) (fun h9 => ?_)
      · exfalso; simp only [hs, hR, hR0, hel, hed', ha] at h9; simp at h9
      · try simp at h9
        refine j_skip (jn_seq (j_seq (j_seq ?_)))
        refine j_region ?_
        refine jg_adr _ rfl _ rfl rfl (op_move (.base rfl)) ?_
        refine jg_adr _ rfl _ rfl rfl (op_len Try.underlying24 (.base rfl)) ?_
        refine jg_adr _ rfl _ rfl rfl (op_eql (.base rfl) (.base rfl)) ?_
        refine jg_nil ?_
        refine jn_keep [0, 3, 5, 8, 10, 11, 81] [3, 5] (.cons rfl (.cons rfl (.cons rfl (.cons rfl (.cons rfl (.cons rfl (.cons rfl .nil))))))) (.cons rfl (.cons rfl .nil)) ?_
        refine jn_seq ?_
        refine j_cond rfl (fun h11 => ?_) (fun h11 => ?_)
        · try simp at h11
          refine j_seq ?_
          refine j_region ?_
          refine jg_adr _ rfl _ rfl rfl (op_move (.base rfl)) ?_
          refine jg_adr _ rfl _ rfl rfl (op_len Try.underlying22 (.base rfl)) ?_
          refine jg_adr _ rfl _ rfl rfl (op_eql (.base rfl) (.base rfl)) ?_
          refine jg_adr _ rfl _ rfl rfl (op_move (.base rfl)) ?_
          refine jg_gd _ _ _ _ _ _ rfl rfl rfl rfl rfl (fun hg => op_call awake_ok .nil rfl rfl) ?_
          refine jg_adr _ rfl _ rfl rfl (op_pick_and (.base rfl) (.base rfl) rfl (by intro h; first | (rw [h]; rfl) | simp_all)) ?_
          refine jg_adr _ rfl _ rfl rfl (op_assign (.base rfl)) ?_
          refine jg_nil ?_
          refine jn_keep [4] [] (.cons rfl .nil) .nil ?_
          refine jn_seq (j_ret (jr_seq ?_))
          exact jr_fin1 Try.results5 (res_tmp rfl) rfl (rb (by have q : l = [] := List.length_eq_zero_iff.1 (by rw [← hel]; simpa using h11); have : e.length = 1 := (by rw [hlen, q]; rfl); simp [this]))
        · try simp at h11
          refine j_skip (jn_seq (j_seq ?_))
          refine j_region ?_
          refine jg_adr _ rfl _ rfl rfl (op_assign (.base rfl)) ?_
          refine jg_nil ?_
          refine jn_keep [0, 3, 5, 8, 10, 11, 12] [3, 5] (.cons rfl (.cons rfl (.cons rfl (.cons rfl (.cons rfl (.cons rfl (.cons rfl .nil))))))) (.cons rfl (.cons rfl .nil)) ?_
          refine jn_seq (j_seq ?_)
          refine j_region ?_
          refine jg_adr _ rfl _ rfl rfl (op_assign (.base rfl)) ?_
          refine jg_nil ?_
          refine jn_keep [0, 3, 5, 8, 10, 11, 12, 13] [3, 5] (.cons rfl (.cons rfl (.cons rfl (.cons rfl (.cons rfl (.cons rfl (.cons rfl (.cons rfl .nil)))))))) (.cons rfl (.cons rfl .nil)) ?_
          refine jn_seq (j_seq ?_)
          refine j_region ?_
          refine jg_adr _ rfl _ rfl rfl (op_assign (.base rfl)) ?_
          refine jg_nil ?_
          refine jn_keep [0, 3, 5, 8, 10, 11, 12, 13, 14] [3, 5] (.cons rfl (.cons rfl (.cons rfl (.cons rfl (.cons rfl (.cons rfl (.cons rfl (.cons rfl (.cons rfl .nil))))))))) (.cons rfl (.cons rfl .nil)) ?_
          refine jn_seq (j_seq (j_seq ?_))
          refine j_region ?_
          refine jg_adr _ rfl _ rfl rfl (op_assign (.base rfl)) ?_
          refine jg_nil ?_
          refine jn_keep [0, 3, 5, 8, 10, 11, 12, 13, 14, 15] [3, 5] (.cons rfl (.cons rfl (.cons rfl (.cons rfl (.cons rfl (.cons rfl (.cons rfl (.cons rfl (.cons rfl (.cons rfl .nil)))))))))) (.cons rfl (.cons rfl .nil)) ?_
          refine jn_seq (j_block ?_)
          refine j_vac 70 13 rType rfl rfl rfl ?_
          refine j_vac 71 14 rNode rfl rfl rfl ?_
          refine j_loopp (ι := Nat) (fun i => ⟨[(0, .tv (rSlice rNode) e), (3, .optr 3 rSignature.n 0 0), (5, .optr 5 rType.n 0 0), (8, .tv (rSlice (rInt .i64)) (structF e).1), (10, .raw (.int .i64 (((flat l).length : Nat)))), (11, .tv (rSlice (rInt .i64)) (ends 0 l)), (12, .raw (.int .i64 (((flat (l.take i)).length : Nat)))), (13, .own 70 rType.n 0 i), (14, .own 71 rNode.n 0 i), (15, .raw (.int .i64 ((i : Nat))))], [(3, ⟨rSignature, [s]⟩), (5, ⟨rType, [(typeOf e s).1]⟩), (70, ⟨rType, (l.take i).map (·.2)⟩), (71, ⟨rNode, (List.range i).map (fun (j : Nat) => ((7, (j : Int)) : TNode))⟩)]⟩) (fun i => i ≤ l.length) (fun i => l.length - i) 0 (Nat.zero_le _) (fun a w hi => (Sub.inv ⟨(by repeat (first | exact SubS_nil | refine SubS_cons rfl (by first | rfl | (simp; done) | assumption) ?_)), (by repeat (first | exact SubH_nil | refine SubH_cons rfl (by first | rfl | (simp; done) | assumption) ?_))⟩ hi)) ?_
          rintro i hi0
          refine j_seq (j_seq ?_)
          refine j_region ?_
          refine jg_adr _ rfl _ rfl rfl (op_move (.base rfl)) ?_
          refine jg_adr _ rfl _ rfl rfl (op_move (.base rfl)) ?_
          refine jg_adr _ rfl _ rfl rfl (op_len Try.underlying24 (.base rfl)) ?_
          refine jg_adr _ rfl _ rfl rfl (op_lss (.base rfl) (.base rfl)) ?_
          refine jg_nil ?_
          refine jn_keep [0, 3, 5, 8, 10, 11, 12, 13, 14, 15, 91] [3, 5, 70, 71] (.cons rfl (.cons rfl (.cons rfl (.cons rfl (.cons rfl (.cons rfl (.cons rfl (.cons rfl (.cons rfl (.cons rfl (.cons rfl .nil))))))))))) (.cons rfl (.cons rfl (.cons rfl (.cons rfl .nil)))) ?_
          refine jn_seq ?_
          refine j_cond rfl (fun h17 => ?_) (fun h17 => ?_)
          · try simp at h17
            refine j_skip (jn_seq (j_seq (j_block (j_seq (j_seq ?_)))))
            have h17' : i < l.length := by omega
            obtain ⟨hE1, hE2⟩ := hEnds i h17'
            have hst := congrArg List.length (flat_step h17')
            rw [List.length_append] at hst
            have hps := goods_ne hg h17'
            have hle := flat_le (l := l) (i := i + 1)
            have hE3 : (ends 0 l)[i]?.getD 0 = (((flat (l.take (i + 1))).length - 1 : Nat) : Int) := by rw [hE1, Option.getD_some]; omega
            have hE4 : (ends 0 l)[i] = (((flat (l.take (i + 1))).length - 1 : Nat) : Int) := by have := List.getElem?_eq_getElem (l := ends 0 l) (i := i) (by omega); rw [hE1] at this; have := Option.some.inj this; omega
            have hHi : (ends 0 l)[i] + 1 = (((flat (l.take (i + 1))).length : Nat) : Int) := by rw [hE4]; omega
            have hE5 : (structF e).1[(flat (l.take (i + 1))).length - 1]?.getD 0 = ((flat (l.take i)).length : Int) := by rw [show (((flat (l.take (i + 1))).length : Int) - 1).toNat = (flat (l.take (i + 1))).length - 1 by omega] at hE2; rw [hE2]; rfl
            have hseg : Ct Try.prog 17 [.tv (rSlice rNode) ((e.take (flat (l.take (i + 1))).length).drop (flat (l.take i)).length), .tv rSignature s] (svTI (l[i].2, 0, 0)) := by
              have e1 : (e.take (flat (l.take (i + 1))).length).drop (flat (l.take i)).length = l[i].1 := by rw [he]; exact seg_eq h17'
              rw [← (good_type (goods_get 0 l hg i h17') (by omega)).2, ← e1]
              exact typeOf_ok _ _ (fun x hx => hn x (List.mem_of_mem_take (List.mem_of_mem_drop hx)))
            refine j_region ?_
            refine jg_adr _ rfl _ rfl rfl (op_move (.base rfl)) ?_
            refine jg_adr _ rfl _ rfl rfl (op_move (.base rfl)) ?_
            refine jg_adr _ rfl _ rfl rfl (op_index Try.underlying24 ty3 (.base rfl) (.base rfl) rfl (List.getElem?_eq_getElem (by first | omega | (simp; done) | (simp; omega) | (simp at hg; omega)))) ?_
            refine jg_adr _ rfl _ rfl rfl (op_load ty3 (.base rfl)) ?_
            refine jg_adr _ rfl _ rfl rfl (op_move (.base rfl)) ?_
            refine jg_adr _ rfl _ rfl rfl (op_lss (.base rfl) (.base rfl)) ?_
            refine jg_adr _ rfl _ rfl rfl (op_move (.base rfl)) ?_
            refine jg_gd _ _ _ _ _ _ rfl rfl rfl rfl rfl (fun hg => op_move (.base rfl)) ?_
            refine jg_gd _ _ _ _ _ _ rfl rfl rfl rfl rfl (fun hg => op_move (.base rfl)) ?_
            refine jg_gd _ _ _ _ _ _ rfl rfl rfl rfl rfl (fun hg => op_index Try.underlying24 ty3 (.gd rfl hg) (.gd rfl hg) rfl (getD_some (z := (0 : Int)) (by first | omega | (simp; done) | (simp; omega) | (simp at hg; omega) | (simp at hg; simp; omega)))) ?_
            refine jg_gd _ _ _ _ _ _ rfl rfl rfl rfl rfl (fun hg => op_load ty3 (.gd rfl hg)) ?_
            refine jg_gd _ _ _ _ _ _ rfl rfl rfl rfl rfl (fun hg => op_move (.base rfl)) ?_
            refine jg_gd _ _ _ _ _ _ rfl rfl rfl rfl rfl (fun hg => op_geq (.gd rfl hg) (.gd rfl hg)) ?_
            refine jg_adr _ rfl _ rfl rfl (op_pick_or (.base rfl) (.base rfl) rfl (by intro h; first | (rw [h]; rfl) | simp_all)) ?_
            refine jg_adr _ rfl _ rfl rfl (op_move (.base rfl)) ?_
            refine jg_gd _ _ _ _ _ _ rfl rfl rfl rfl rfl (fun hg => op_move (.base rfl)) ?_
            refine jg_gd _ _ _ _ _ _ rfl rfl rfl rfl rfl (fun hg => op_move (.base rfl)) ?_
            refine jg_gd _ _ _ _ _ _ rfl rfl rfl rfl rfl (fun hg => op_move (.base rfl)) ?_
            refine jg_gd _ _ _ _ _ _ rfl rfl rfl rfl rfl (fun hg => op_index Try.underlying24 ty3 (.gd rfl hg) (.gd rfl hg) rfl (getD_some (z := (0 : Int)) (by first | omega | (simp; done) | (simp; omega) | (simp at hg; omega) | (simp at hg; simp; omega)))) ?_
            refine jg_gd _ _ _ _ _ _ rfl rfl rfl rfl rfl (fun hg => op_load ty3 (.gd rfl hg)) ?_
            refine jg_gd _ _ _ _ _ _ rfl rfl rfl rfl rfl (fun hg => op_index Try.underlying24 ty3 (.gd rfl hg) (.gd rfl hg) hE3 (getD_some (z := (0 : Int)) (by first | omega | (simp; done) | (simp; omega) | (simp at hg; omega) | (simp at hg; simp; omega)))) ?_
            refine jg_gd _ _ _ _ _ _ rfl rfl rfl rfl rfl (fun hg => op_load ty3 (.gd rfl hg)) ?_
            refine jg_gd _ _ _ _ _ _ rfl rfl rfl rfl rfl (fun hg => op_move (.base rfl)) ?_
            refine jg_gd _ _ _ _ _ _ rfl rfl rfl rfl rfl (fun hg => op_neq (.gd rfl hg) (.gd rfl hg)) ?_
            refine jg_adr _ rfl _ rfl rfl (op_pick_or (.base rfl) (.base rfl) rfl (by intro h; first | (rw [h]; rfl) | simp_all)) ?_
            refine jg_nil ?_
            refine jn_keep [0, 3, 5, 8, 10, 11, 12, 13, 14, 15, 118] [3, 5, 70, 71] (.cons rfl (.cons rfl (.cons rfl (.cons rfl (.cons rfl (.cons rfl (.cons rfl (.cons rfl (.cons rfl (.cons rfl (.cons rfl .nil))))))))))) (.cons rfl (.cons rfl (.cons rfl (.cons rfl .nil)))) ?_
            refine jn_seq ?_
            refine j_cond rfl (fun h19 => ?_) (fun h19 => ?_)
            · exact absurd h19 (by simp [hE4, hE3, hE5]; omega)
            · try simp at h19
              refine j_skip (jn_seq (j_seq ?_))
              refine j_drawE mo (by kernel_rfl) (
                AE.cons _ _ _ rfl (gh_ga [] (ga_adr rfl rfl rfl (op_move (.base rfl))) (by kernel_rfl)) (
                AE.cons _ _ _ rfl (gh_ga [] (ga_adr rfl rfl rfl (op_move (.base rfl))) (by kernel_rfl)) (
                AE.cons _ _ _ rfl (gh_ga [] (ga_adr rfl rfl rfl (op_move (.base rfl))) (by kernel_rfl)) (
                AE.cons _ _ _ rfl (gh_ga [] (ga_adr rfl rfl rfl (op_move (.base rfl))) (by kernel_rfl)) (
                AE.cons _ _ _ rfl (gh_ga [] (ga_adr rfl rfl rfl (op_index Try.underlying24 ty3 (.base rfl) (.base rfl) rfl (List.getElem?_eq_getElem (by first | omega | (simp; done) | (simp; omega) | (simp at hg; omega))))) (by kernel_rfl)) (
                AE.cons _ _ _ rfl (gh_ga [] (ga_adr rfl rfl rfl (op_load ty3 (.base rfl))) (by kernel_rfl)) (
                AE.cons _ _ _ rfl (gh_ga [] (ga_adr rfl rfl rfl (op_add (.base rfl) (.base rfl) (w64 (by omega)))) (by kernel_rfl)) (
                AE.cons _ _ _ rfl (gh_ga [] (ga_adr rfl rfl rfl (op_slice Try.underlying22 ty44 (.base rfl) ⟨_, _, (.base rfl), rfl⟩ ⟨_, _, (.base rfl), hHi⟩ (by omega) (by omega))) (by kernel_rfl)) (
                AE.cons _ _ _ rfl (gh_ga [3] (ga_adr rfl rfl rfl (op_oload ty36 (.base rfl) rfl rfl (Lens.id _))) (by kernel_rfl)) (
                AE.cons _ _ _ rfl (gh_ga [] (ga_adr rfl rfl rfl (op_call hseg (.cons (.base rfl) (.cons (.base rfl) .nil)) rfl rfl)) (by kernel_rfl)) (
                AE.cons _ _ _ rfl (gh_ga [] (ga_adr rfl rfl rfl (op_move (.base rfl))) (by kernel_rfl)) (
                AE.cons _ _ _ rfl (gh_ga [] (ga_adr rfl rfl rfl (op_ext30 (.base rfl))) (by kernel_rfl)) (
                AE.cons _ _ _ rfl (gh_ga [] (ga_adr rfl rfl rfl (op_ext31 (.base rfl))) (by kernel_rfl)) (
                AE.cons _ _ _ rfl (gh_ga [] (ga_adr rfl rfl rfl (op_ext32 (.base rfl))) (by kernel_rfl)) (
                AE.cons _ _ _ rfl (gh_alloc _ z39 rfl) (
                AE.cons _ _ _ rfl (gh_store ty39 (.base rfl) rfl rfl (Lens.id _) (.tv (.base rfl))) (
                AE.cons _ _ _ rfl (gh_ga [] (ga_adr rfl rfl rfl (op_assign (.base rfl))) (by kernel_rfl)) (
                AE.cons _ _ _ rfl (gh_ga [] (ga_adr rfl rfl rfl (op_assign (.base rfl))) (by kernel_rfl)) (
                AE.nil))))))))))))))))))) (by kernel_rfl) ?_
              refine jn_keep [0, 3, 5, 8, 10, 11, 13, 14, 15, 16, 18] [3, 5, 16, 70, 71] (.cons rfl (.cons rfl (.cons rfl (.cons rfl (.cons rfl (.cons rfl (.cons rfl (.cons rfl (.cons rfl (.cons rfl (.cons rfl .nil))))))))))) (.cons rfl (.cons rfl (.cons rfl (.cons rfl (.cons rfl .nil))))) ?_
              refine jn_seq (j_seq (j_seq ?_))
              refine j_region ?_
              refine jg_adr _ rfl _ rfl rfl (op_move (.base rfl)) ?_
              refine jg_adr _ rfl _ rfl rfl (op_neq (.base rfl) (.base rfl)) ?_
              refine jg_nil ?_
              refine jn_keep [0, 3, 5, 8, 10, 11, 13, 14, 15, 16, 134] [3, 5, 16, 70, 71] (.cons rfl (.cons rfl (.cons rfl (.cons rfl (.cons rfl (.cons rfl (.cons rfl (.cons rfl (.cons rfl (.cons rfl (.cons rfl .nil))))))))))) (.cons rfl (.cons rfl (.cons rfl (.cons rfl (.cons rfl .nil))))) ?_
              refine jn_seq ?_
              refine j_cond rfl (fun h22 => ?_) (fun h22 => ?_)
              · exact absurd h22 (by simp)
              · try simp at h22
                refine j_skip (jn_seq (j_seq ?_))
                refine j_region ?_
                refine jg_adr _ rfl _ rfl rfl (op_move (.base rfl)) ?_
                refine jg_adr _ rfl _ rfl rfl (op_oload ty39 (.base rfl) rfl rfl (Lens.id _)) ?_
                refine jg_adr _ rfl _ rfl rfl (op_bslice (rt := rType) Try.underlying34 ty39 z39 rfl (.cons (.tv (.base rfl)) .nil) rfl rfl) ?_
                refine jg_os _ rfl (op_append [0, 3, 5, 8, 10, 11, 14, 15] Try.underlying34 ty39 z39 rfl by39 (.base rfl) rfl (by simp; try omega) (.tv (.base rfl)) (by unfold maxLen; simp; omega) (by simp; omega) rfl (.cons rfl (.cons rfl (.cons rfl (.cons rfl (.cons rfl (.cons rfl (.cons rfl (.cons rfl .nil)))))))) rfl) ?_
                refine jg_adr _ rfl _ rfl rfl (op_assign (.base rfl)) ?_
                refine jg_nil ?_
                refine jn_keep [0, 3, 5, 8, 10, 11, 13, 14, 15] [3, 5, 70, 71] (.cons rfl (.cons rfl (.cons rfl (.cons rfl (.cons rfl (.cons rfl (.cons rfl (.cons rfl (.cons rfl .nil))))))))) (.cons rfl (.cons rfl (.cons rfl (.cons rfl .nil)))) ?_
                refine jn_seq (j_seq ?_)
                refine j_region ?_
                refine jg_adr _ rfl _ rfl rfl (op_move (.base rfl)) ?_
                refine jg_adr _ rfl _ rfl rfl (op_move (.base rfl)) ?_
                refine jg_adr _ rfl _ rfl rfl (op_build z44 rfl pl44 (.cons (rt' := (rInt .i64)) rfl ln44_0 (.raw (.base rfl) rfl) (.cons (rt' := (rInt .i64)) rfl ln44_1 (.raw (.base rfl) rfl) .nil))) ?_
                refine jg_adr _ rfl _ rfl rfl (op_bslice (rt := rNode) Try.underlying22 ty44 z44 rfl (.cons (.tv (.base rfl)) .nil) rfl rfl) ?_
                refine jg_os _ rfl (op_append [0, 3, 5, 8, 10, 11, 13, 15] Try.underlying22 ty44 z44 rfl by44 (.base rfl) rfl (by simp; try omega) (.tv (.base rfl)) (by unfold maxLen; simp; omega) (by simp; omega) rfl (.cons rfl (.cons rfl (.cons rfl (.cons rfl (.cons rfl (.cons rfl (.cons rfl (.cons rfl .nil)))))))) rfl) ?_
                refine jg_adr _ rfl _ rfl rfl (op_assign (.base rfl)) ?_
                refine jg_nil ?_
                refine jn_keep [0, 3, 5, 8, 10, 11, 13, 14, 15] [3, 5, 70, 71] (.cons rfl (.cons rfl (.cons rfl (.cons rfl (.cons rfl (.cons rfl (.cons rfl (.cons rfl (.cons rfl .nil))))))))) (.cons rfl (.cons rfl (.cons rfl (.cons rfl .nil)))) ?_
                refine jn_seq ?_
                refine j_region ?_
                refine jg_adr _ rfl _ rfl rfl (op_move (.base rfl)) ?_
                refine jg_adr _ rfl _ rfl rfl (op_move (.base rfl)) ?_
                refine jg_adr _ rfl _ rfl rfl (op_index Try.underlying24 ty3 (.base rfl) (.base rfl) rfl (List.getElem?_eq_getElem (by first | omega | (simp; done) | (simp; omega) | (simp at hg; omega)))) ?_
                refine jg_adr _ rfl _ rfl rfl (op_load ty3 (.base rfl)) ?_
                refine jg_adr _ rfl _ rfl rfl (op_add (.base rfl) (.base rfl) (w64 (by omega))) ?_
                refine jg_adr _ rfl _ rfl rfl (op_assign (.base rfl)) ?_
                refine jg_nil ?_
                refine jn_keep [0, 3, 5, 8, 10, 11, 12, 13, 14, 15] [3, 5, 70, 71] (.cons rfl (.cons rfl (.cons rfl (.cons rfl (.cons rfl (.cons rfl (.cons rfl (.cons rfl (.cons rfl (.cons rfl .nil)))))))))) (.cons rfl (.cons rfl (.cons rfl (.cons rfl .nil)))) ?_
                refine jn_blk (jn_seq ?_)
                refine j_region ?_
                refine jg_adr _ rfl _ rfl rfl (op_move (.base rfl)) ?_
                refine jg_adr _ rfl _ rfl rfl (op_add (.base rfl) (.base rfl) (w64 (by omega))) ?_
                refine jg_adr _ rfl _ rfl rfl (op_assign (.base rfl)) ?_
                refine jg_nil ?_
                refine jn_keep [0, 3, 5, 8, 10, 11, 12, 13, 14, 15] [3, 5, 70, 71] (.cons rfl (.cons rfl (.cons rfl (.cons rfl (.cons rfl (.cons rfl (.cons rfl (.cons rfl (.cons rfl (.cons rfl .nil)))))))))) (.cons rfl (.cons rfl (.cons rfl (.cons rfl .nil)))) ?_
                exact jn_loop (fun a w hi => ⟨i + 1, (by omega), (by omega), Sub.inv ⟨(by repeat (first | exact SubS_nil | refine SubS_cons rfl (by first | rfl | exact congrArg (fun z => SV.raw (.int .i64 z)) hHi | exact congrArg (SV.own 70 rType.n 0) (by simp; omega) | exact congrArg (SV.own 71 rNode.n 0) (by simp; omega)) ?_)), (by repeat (first | exact SubH_nil | refine SubH_cons rfl (by first | rfl | (refine congrArg (HB.mk rType) ?_; simp only [types_step h17', List.drop_zero, List.take_of_length_le (show ((l.take i).map (·.2)).length ≤ i by simp; omega)]; done) | (refine congrArg (HB.mk rNode) ?_; simp only [List.range_succ, List.map_append, List.map_cons, List.map_nil, List.drop_zero, List.take_of_length_le (show ((List.range i).map (fun (j : Nat) => ((7, (j : Int)) : TNode))).length ≤ i by simp)]; done)) ?_))⟩ hi⟩)
          · try simp at h17
            refine j_exit (je_seq (je_loop (je_blk (jn_seq (j_seq ?_)))))
            have hil : i = l.length := by omega
            subst hil
            have hed2 : e[(flat l).length]'(by omega) = d := by have := List.getElem?_eq_getElem (l := e) (i := (flat l).length) (by omega); rw [hed] at this; exact (Option.some.inj this).symm
            refine j_region ?_
            refine jg_adr _ rfl _ rfl rfl (op_move (.base rfl)) ?_
            refine jg_adr _ rfl _ rfl rfl (op_move (.base rfl)) ?_
            refine jg_adr _ rfl _ rfl rfl (op_move (.base rfl)) ?_
            refine jg_adr _ rfl _ rfl rfl (op_index Try.underlying22 ty44 (.base rfl) (.base rfl) (show (((flat l).length : Nat) : Int) = (((flat l).length : Nat) : Int) from rfl) (List.getElem?_eq_getElem (by first | omega | (simp; done) | (simp; omega) | (simp at hg; omega)))) ?_
            refine jg_adr _ rfl _ rfl rfl (op_load ty44 (.base rfl)) ?_
            refine jg_adr _ rfl _ rfl rfl (op_bslice (rt := rNode) Try.underlying22 ty44 z44 rfl (.cons (.tv (.base rfl)) .nil) rfl rfl) ?_
            refine jg_os _ rfl (op_append [3, 5, 10, 12, 13] Try.underlying22 ty44 z44 rfl by44 (.base rfl) rfl (by simp; try omega) (.tv (.base rfl)) (by unfold maxLen; simp; omega) (by simp; omega) rfl (.cons rfl (.cons rfl (.cons rfl (.cons rfl (.cons rfl .nil))))) rfl) ?_
            refine jg_adr _ rfl _ rfl rfl (op_assign (.base rfl)) ?_
            refine jg_nil ?_
            refine jn_keep [3, 5, 10, 12, 13, 14] [3, 5, 70, 71] (.cons rfl (.cons rfl (.cons rfl (.cons rfl (.cons rfl (.cons rfl .nil)))))) (.cons rfl (.cons rfl (.cons rfl (.cons rfl .nil)))) ?_
            refine jn_seq (j_seq ?_)
            refine j_seal (rt := rType) 70 13 (dropH 70 _) rfl rfl (by simp) (dropH_sub 70 _) (dropH_no 70 _) ?_
            refine j_seal (rt := rNode) 71 14 (dropH 71 _) rfl rfl (by simp) (dropH_sub 71 _) (dropH_no 71 _) ?_
            have hshort : ∀ (x : List TNode) (y : TSignature), x = (List.range (l.map (·.2)).length).map (fun (j : Nat) => ((7, (j : Int)) : TNode)) ++ [d] → y = withIn s (l.map (·.2)) → Ct Try.prog 17 [.tv (rSlice rNode) x, .tv rSignature y] (svTI ((typeOf e s).1, 0, 0)) := by
              rintro x y rfl rfl
              have hz : (l.map (·.2)).length ≠ 0 := by rw [List.length_map, ← hel]; simpa using h11
              rw [hty, ← short_type (fun t ht => by obtain ⟨q, hq, rfl⟩ := List.mem_map.1 ht; exact hv q hq) (by rw [ha]; simp) hz hN hn0]
              refine typeOf_ok _ _ (fun x hx => ?_)
              rcases List.mem_append.1 hx with hx | hx
              · obtain ⟨j, hj, rfl⟩ := List.mem_map.1 hx; have := List.mem_range.1 hj; simp at this; simp; omega
              · obtain rfl := List.mem_singleton.1 hx; exact hn _ (by rw [he]; simp)
            refine j_region ?_
            refine jg_adr _ rfl _ rfl rfl (op_move (.base rfl)) ?_
            refine jg_adr _ rfl _ rfl rfl (op_ofield fld36_2 (.base rfl)) ?_
            refine jg_os _ rfl (op_ostore (rt := rSignature) (xs := [s]) ty34 (.base rfl) rfl rfl ln36_2 (.tv (.base rfl))) ?_
            refine jg_nil ?_
            refine jn_keep [3, 5, 10, 12, 14] [3, 5] (.cons rfl (.cons rfl (.cons rfl (.cons rfl (.cons rfl .nil))))) (.cons rfl (.cons rfl .nil)) ?_
            refine jn_seq (j_seq ?_)
            refine j_region ?_
            refine jg_adr _ rfl _ rfl rfl (op_move (.base rfl)) ?_
            refine jg_adr _ rfl _ rfl rfl (op_oload ty36 (.base rfl) rfl rfl (Lens.id _)) ?_
            refine jg_adr _ rfl _ rfl rfl (op_call (hshort _ _ (by simp only [List.drop_zero, hed2]; rw [List.take_of_length_le (by simp), List.take_of_length_le (by simp)]; simp) (by simp [withIn]; exact List.take_of_length_le (by simp))) (.cons (.base rfl) (.cons (.base rfl) .nil)) rfl rfl) ?_
            refine jg_adr _ rfl _ rfl rfl (op_move (.base rfl)) ?_
            refine jg_adr _ rfl _ rfl rfl (op_ext30 (.base rfl)) ?_
            refine jg_adr _ rfl _ rfl rfl (op_ext31 (.base rfl)) ?_
            refine jg_adr _ rfl _ rfl rfl (op_ext32 (.base rfl)) ?_
            refine jg_os _ rfl (op_alloc _ z39 rfl rfl rfl) ?_
            refine jg_os _ rfl (op_ostore ty39 (.base rfl) rfl rfl (Lens.id _) (.tv (.base rfl))) ?_
            refine jg_adr _ rfl _ rfl rfl (op_assign (.base rfl)) ?_
            refine jg_adr _ rfl _ rfl rfl (op_assign (.base rfl)) ?_
            refine jg_nil ?_
            refine jn_keep [5, 10, 12, 19, 21] [5, 19] (.cons rfl (.cons rfl (.cons rfl (.cons rfl (.cons rfl .nil))))) (.cons rfl (.cons rfl .nil)) ?_
            refine jn_seq (j_seq ?_)
            refine j_region ?_
            refine jg_adr _ rfl _ rfl rfl (op_move (.base rfl)) ?_
            refine jg_adr _ rfl _ rfl rfl (op_move (.base rfl)) ?_
            refine jg_adr _ rfl _ rfl rfl (op_eql (.base rfl) (.base rfl)) ?_
            refine jg_adr _ rfl _ rfl rfl (op_move (.base rfl)) ?_
            refine jg_gd _ _ _ _ _ _ rfl rfl rfl rfl rfl (fun hg => op_move (.base rfl)) ?_
            refine jg_gd _ _ _ _ _ _ rfl rfl rfl rfl rfl (fun hg => op_eql (.gd rfl hg) (.base rfl)) ?_
            refine jg_adr _ rfl _ rfl rfl (op_pick_and (.base rfl) (.base rfl) rfl (by intro h; first | (rw [h]; rfl) | simp_all)) ?_
            refine jg_adr _ rfl _ rfl rfl (op_move (.base rfl)) ?_
            refine jg_gd _ _ _ _ _ _ rfl rfl rfl rfl rfl (fun hg => op_oload ty39 (.base rfl) rfl rfl (Lens.id _)) ?_
            refine jg_gd _ _ _ _ _ _ rfl rfl rfl rfl rfl (fun hg => op_oload ty39 (.base rfl) rfl rfl (Lens.id _)) ?_
            refine jg_gd _ _ _ _ _ _ rfl rfl rfl rfl rfl (fun hg => op_seql eq39 rfl rfl eg39 (.tv (.gd rfl hg)) (.tv (.gd rfl hg))) ?_
            refine jg_adr _ rfl _ rfl rfl (op_pick_and (.base rfl) (.base rfl) rfl (by intro h; first | (rw [h]; rfl) | simp_all)) ?_
            refine jg_adr _ rfl _ rfl rfl (op_move (.base rfl)) ?_
            refine jg_gd _ _ _ _ _ _ rfl rfl rfl rfl rfl (fun hg => op_call awake_ok .nil rfl rfl) ?_
            refine jg_adr _ rfl _ rfl rfl (op_pick_and (.base rfl) (.base rfl) rfl (by intro h; first | (rw [h]; rfl) | simp_all)) ?_
            refine jg_adr _ rfl _ rfl rfl (op_assign (.base rfl)) ?_
            refine jg_nil ?_
            refine jn_keep [4] [] (.cons rfl .nil) .nil ?_
            refine jn_seq (j_ret ?_)
            exact jr_fin1 Try.results5 (res_tmp rfl) rfl (rb (by simp))

end Go.Proofs.Ytkbljpjbocdhdaa
